import PyProof.Rows.All
import HandS.ForMost
import HandS.Defaults
import HandS.IsInst
import HandS.Wide
import HandS.Zip
import HandS.Flow
import HandS.Exc
import HandS.CallSlots
import HandS.TryOnly
import HandS.ExcOwn
import HandS.WordsExc
import HandS.HeadHook1
import HandS.HeadHook2
import HandS.WideBits
import HandS.HeadEnd
import HandS.Head0
import HandS.Head1
import HandS.Head2
import PyProof.Rows.SetFrom
import PyProof.Rows.SetObj
import HandS.Text
import HandS.Iter
import PyProof.ReprRoads
import HandS.ExcIs
import HandS.ExcInit
import HandS.ExcField
import KE.KExcIs
import HandS.Codes
import HandS.ExcValue
import PyProof.LongRange
import HandS.RaiseMore
import HandS.More
import HandS.SetFor
import HandS.Strs
import KE.DataMinMax
import HandS.SortKw
import HandS.Dict
import HandS.Deep
import HandS.DictComp
import PyProof.InstEq
import HandS.Small
import KE.GoesMore
import HandS.HotCalls
import HandS.ExcCtx
import HandS.SortInts
import HandS.Conv
import KE.KDictZip
import PyProof.ListNew
import KE.KTurns
import HandS.TupSets
import PyProof.FitsInt
import PyProof.StrLawsRepr
import KE.KIntText
import PySem.Challenge.RW_hushranks_k46_whole_renamed_and_ranked_r
set_option Elab.async false
set_option linter.all false
set_option maxRecDepth 100000
set_option maxHeartbeats 2000000
/-! LayA: plain values, the own heap, results, and how they stand for HandS's values and heap. -/
namespace HR
open PySem L2
/-- plain values; ref: an object of the own heap; scr: a list that is only read (the script); exc: a caught exception without fields; excf: with one field -/
inductive D where
  | non | bl (b : Bool) | int (i : Int) | str (x : Str)
  | lst (xs : List D) | tup (xs : List D) | dct (kvs : List (Key × D)) | obj (C : String) (fs : List (String × D)) | ref (i : Nat) | scr (xs : List D) | exc (C : String) | excf (C f : String) (d : D)
/-- objects of the own heap -/
inductive OO where
  | lst (xs : List D) | ins (C : String) (fs : List (String × D)) | dct (kvs : List (Key × D)) | dead
abbrev OH := List OO
abbrev Env' := List (Option D)
abbrev Pay := Option (String × D)
inductive Res (α : Type) where
  | ok (a : α) (h : OH) | exc (C : String) (p : Pay) (h : OH) | bad
def Res.bind {α β : Type} (r : Res α) (f : α → OH → Res β) : Res β := match r with
  | .ok a h => f a h
  | .exc C p h => .exc C p h
  | .bad => .bad
@[simp] theorem Res.bind_ok {α β : Type} (a : α) (h : OH) (f : α → OH → Res β) : (Res.ok a h).bind f = f a h := rfl
@[simp] theorem Res.bind_exc {α β : Type} (C : String) (p : Pay) (h : OH) (f : α → OH → Res β) : (Res.exc C p h : Res α).bind f = .exc C p h := rfl
@[simp] theorem Res.bind_bad {α β : Type} (f : α → OH → Res β) : (Res.bad : Res α).bind f = .bad := rfl
inductive SRes where
  | nx (σ : Env') (h : OH) | rt (d : D) (h : OH) | bk (σ : Env') (h : OH) | ct (σ : Env') (h : OH) | exc (C : String) (p : Pay) (σ : Env') (h : OH) | bad
abbrev SE := Env' → OH → Res D
abbrev ST := Env' → OH → Res Bool
abbrev SA := Env' → OH → Res (List D)
abbrev SS := Env' → OH → SRes
abbrev FN := List D → OH → Res D
/-- what the class of an object must be, for its fields -/
def ObT (K : PySem.W.Frag) (C : String) (fs : List (String × D)) : Prop :=
  Cls K (He.ga K (Str.ofString C)) ∧ ∀ q ∈ fs, NoAttr K (He.ga K (Str.ofString C)) (Str.ofString q.1)
/-- a caught exception of the class cls, kept at a -/
def HexO (cls : Value) (a : Addr) : HO := .ext fun hp => ∃ (ob : Obj) (ws : Array Value), hp.get? a = some ob ∧ Zc cls none ob ∧ ob.data = .fields ws
/-- an exception of the class cls with a dict at dx, kept at a -/
def HexP (cls : Value) (dx : Addr) (a : Addr) : HO := .ext fun hp => ∃ (ob : Obj) (ws : Array Value), hp.get? a = some ob ∧ Zc cls (some dx) ob ∧ ob.data = .fields ws
mutual
/-- v stands for d: F the frozen part of the heap, m the addresses of the own objects -/
inductive Den (K : PySem.W.Frag) (F : Hp) (m : List Addr) : V → D → Prop
  | non : Den K F m .non .non
  | bl (b : Bool) : Den K F m (.bl b) (.bl b)
  | int (i : Int) : Den K F m (.int i) (.int i)
  | str (x : Str) : Den K F m (.str x) (.str x)
  | lst {a : Addr} {vs : List V} {ds : List D} (q : F a = some (.lst vs)) (r : DenL K F m vs ds) : Den K F m (.ref a) (.lst ds)
  | scr {a : Addr} {vs : List V} {ds : List D} (q : SqL K F a vs) (r : DenL K F m vs ds) : Den K F m (.ref a) (.scr ds)
  | tup {a : Addr} {vs : List V} {ds : List D} (q : F a = some (.tup vs)) (r : DenL K F m vs ds) : Den K F m (.ref a) (.tup ds)
  | dct {a : Addr} {kvs : List (Key × V)} {ks : List (Key × D)} (q : F a = some (.dK kvs)) (r : DenK K F m kvs ks) : Den K F m (.ref a) (.dct ks)
  | obj {a dx : Addr} {C : String} {fv : List (Str × V)} {fs : List (String × D)} (q : F a = some (.ins (He.ga K (Str.ofString C)) dx fv)) (t : ObT K C fs) (r : DenF K F m fv fs) : Den K F m (.ref a) (.obj C fs)
  | ref {a : Addr} {i : Nat} (q : m[i]? = some a) : Den K F m (.ref a) (.ref i)
  | exc {a : Addr} {C : String} (q : Rd F a (HexO (.ref (He.ga K (Str.ofString C))) a)) : Den K F m (.ref a) (.exc C)
  | excf {a dx : Addr} {C f : String} {v : V} {d : D} (q : Rd F a (HexP (.ref (He.ga K (Str.ofString C))) dx a)) (q2 : F dx = some (.xd [(Str.ofString f, v)])) (r : Den K F m v d) : Den K F m (.ref a) (.excf C f d)
inductive DenL (K : PySem.W.Frag) (F : Hp) (m : List Addr) : List V → List D → Prop
  | nil : DenL K F m [] []
  | cons {v : V} {d : D} {vs : List V} {ds : List D} (h : Den K F m v d) (t : DenL K F m vs ds) : DenL K F m (v :: vs) (d :: ds)
inductive DenK (K : PySem.W.Frag) (F : Hp) (m : List Addr) : List (Key × V) → List (Key × D) → Prop
  | nil : DenK K F m [] []
  | cons {k : Key} {v : V} {d : D} {vs : List (Key × V)} {ds : List (Key × D)} (h : Den K F m v d) (t : DenK K F m vs ds) : DenK K F m ((k, v) :: vs) ((k, d) :: ds)
inductive DenF (K : PySem.W.Frag) (F : Hp) (m : List Addr) : List (Str × V) → List (String × D) → Prop
  | nil : DenF K F m [] []
  | cons {f : String} {v : V} {d : D} {vs : List (Str × V)} {ds : List (String × D)} (h : Den K F m v d) (t : DenF K F m vs ds) : DenF K F m ((Str.ofString f, v) :: vs) ((f, d) :: ds)
end
section
variable {K : PySem.W.Frag} {F F' : Hp} {m m' : List Addr}
theorem Same.sqT {H H' : Hp} {a : Addr} {xs : List V} (e : Same H H') (h : SqT K H a xs) : SqT K H' a xs := by
  rcases h with (h | ⟨o, h⟩) | h
  · exact .inl (.inl (e _ _ h))
  · exact .inl (.inr ⟨o, e _ _ h⟩)
  · exact .inr h
theorem pre_get {i : Nat} {a : Addr} (p : m <+: m') (e : m[i]? = some a) : m'[i]? = some a := by
  obtain ⟨t, rfl⟩ := p
  rw [List.getElem?_append_left (List.getElem?_eq_some_iff.mp e).1]
  exact e
/-- the frozen part grows, the own objects' list grows -/
structure Ext (F : Hp) (m : List Addr) (F' : Hp) (m' : List Addr) : Prop where
  s : Same F F'
  p : m <+: m'
theorem Ext.refl : Ext F m F m := ⟨Same.refl _, List.prefix_rfl⟩
theorem Ext.trans {F2 : Hp} {m2 : List Addr} (a : Ext F m F' m') (b : Ext F' m' F2 m2) : Ext F m F2 m2 := ⟨a.s.trans b.s, a.p.trans b.p⟩
theorem rd_same {G G' : Hp} {a : Addr} {u : HO} (x : Same G G') (q : Rd G a u) : Rd G' a u := q.imp (x _ _) fun ⟨o, z⟩ => ⟨o, x _ _ z⟩
theorem Den.mono {v : V} {d : D} (x : Ext F m F' m') (h : Den K F m v d) : Den K F' m' v d :=
  Den.rec (motive_1 := fun v d _ => Den K F' m' v d) (motive_2 := fun v d _ => DenL K F' m' v d) (motive_3 := fun v d _ => DenK K F' m' v d) (motive_4 := fun v d _ => DenF K F' m' v d)
    .non .bl .int .str (fun q _ r => .lst (x.s _ _ q) r) (fun q _ r => .scr (x.s.seq q) r) (fun q _ r => .tup (x.s _ _ q) r) (fun q _ r => .dct (x.s _ _ q) r) (fun q t _ r => .obj (x.s _ _ q) t r) (fun q => .ref (pre_get x.p q)) (fun q => .exc (rd_same x.s q)) (fun q q2 _ r => .excf (rd_same x.s q) (x.s _ _ q2) r)
    .nil (fun _ _ a b => .cons a b) .nil (fun _ _ a b => .cons a b) .nil (fun _ _ a b => .cons a b) h
theorem DenL.mono (x : Ext F m F' m') : ∀ {vs : List V} {ds : List D}, DenL K F m vs ds → DenL K F' m' vs ds
  | _, _, .nil => .nil
  | _, _, .cons h t => .cons (h.mono x) (DenL.mono x t)
theorem DenK.mono (x : Ext F m F' m') : ∀ {vs : List (Key × V)} {ds : List (Key × D)}, DenK K F m vs ds → DenK K F' m' vs ds
  | _, _, .nil => .nil
  | _, _, .cons h t => .cons (h.mono x) (DenK.mono x t)
theorem DenF.mono (x : Ext F m F' m') : ∀ {vs : List (Str × V)} {ds : List (String × D)}, DenF K F m vs ds → DenF K F' m' vs ds
  | _, _, .nil => .nil
  | _, _, .cons h t => .cons (h.mono x) (DenF.mono x t)
theorem DenL.length : ∀ {vs : List V} {ds : List D}, DenL K F m vs ds → vs.length = ds.length
  | _, _, .nil => rfl
  | _, _, .cons _ t => by rw [List.length_cons, List.length_cons, DenL.length t]
theorem DenL.get : ∀ {vs : List V} {ds : List D} {i : Nat} {d : D}, DenL K F m vs ds → ds[i]? = some d → ∃ v, vs[i]? = some v ∧ Den K F m v d
  | _, _, _, _, .nil, e => by simp at e
  | _, _, 0, _, .cons h _, e => by
    simp at e
    subst e
    exact ⟨_, by simp, h⟩
  | _, _, i + 1, d, .cons _ t, e => by
    obtain ⟨v, e1, r⟩ := DenL.get (i := i) (d := d) t (by simpa using e)
    exact ⟨v, by simpa using e1, r⟩
theorem DenL.getV : ∀ {vs : List V} {ds : List D} {i : Nat} {v : V}, DenL K F m vs ds → vs[i]? = some v → ∃ d, ds[i]? = some d ∧ Den K F m v d
  | _, _, _, _, .nil, e => by simp at e
  | _, _, 0, _, .cons h _, e => by
    simp at e
    subst e
    exact ⟨_, by simp, h⟩
  | _, _, i + 1, v, .cons _ t, e => by
    obtain ⟨d, e1, r⟩ := DenL.getV (i := i) (v := v) t (by simpa using e)
    exact ⟨d, by simpa using e1, r⟩
theorem DenL.append : ∀ {vs ws : List V} {ds es : List D}, DenL K F m vs ds → DenL K F m ws es → DenL K F m (vs ++ ws) (ds ++ es)
  | _, _, _, _, .nil, s => s
  | _, _, _, _, .cons h t, s => .cons h (DenL.append t s)
theorem DenL.take : ∀ {vs : List V} {ds : List D} (n : Nat), DenL K F m vs ds → DenL K F m (vs.take n) (ds.take n)
  | _, _, 0, _ => .nil
  | _, _, _ + 1, .nil => .nil
  | _, _, n + 1, .cons h t => .cons h (DenL.take n t)
theorem DenL.drop : ∀ {vs : List V} {ds : List D} (n : Nat), DenL K F m vs ds → DenL K F m (vs.drop n) (ds.drop n)
  | _, _, 0, r => r
  | _, _, _ + 1, .nil => .nil
  | _, _, n + 1, .cons _ t => DenL.drop n t
theorem DenL.set {v : V} {d : D} (r : Den K F m v d) : ∀ {vs : List V} {ds : List D} (i : Nat), DenL K F m vs ds → DenL K F m (vs.set i v) (ds.set i d)
  | _, _, _, .nil => .nil
  | _, _, 0, .cons _ t => .cons r t
  | _, _, i + 1, .cons h t => .cons h (DenL.set r i t)
theorem DenL.eraseIdx : ∀ {vs : List V} {ds : List D} (i : Nat), DenL K F m vs ds → DenL K F m (vs.eraseIdx i) (ds.eraseIdx i)
  | _, _, _, .nil => .nil
  | _, _, 0, .cons _ t => t
  | _, _, i + 1, .cons h t => .cons h (DenL.eraseIdx i t)
theorem DenL.rep {vs : List V} {ds : List D} (h : DenL K F m vs ds) : ∀ k : Nat, DenL K F m (List.replicate k vs).flatten (List.replicate k ds).flatten
  | 0 => .nil
  | k + 1 => by
    rw [List.replicate_succ, List.replicate_succ, List.flatten_cons, List.flatten_cons]
    exact h.append (h.rep k)
theorem DenL.ints : ∀ (ns : List Int), DenL K F m (ns.map V.int) (ns.map D.int)
  | [] => .nil
  | n :: ns => .cons (.int n) (DenL.ints ns)
/-- what stands at an own object's address -/
def OOk (K : PySem.W.Frag) (F : Hp) (m : List Addr) (H : Hp) (a : Addr) : OO → Prop
  | .lst xs => ∃ vs, H a = some (.lst vs) ∧ DenL K F m vs xs ∧ F a = none
  | .ins C fs => ∃ dx fv, H a = some (.ins (He.ga K (Str.ofString C)) dx fv) ∧ ObT K C fs ∧ DenF K F m fv fs ∧ F a = none
  | .dct kvs => ∃ ks, H a = some (.dK ks) ∧ DenK K F m ks kvs ∧ F a = none
  | .dead => True
abbrev Pins := List (Addr × HO)
/-- the own heap h stands in H; P: hidden objects, which stay -/
structure Sim (K : PySem.W.Frag) (P : Pins) (F : Hp) (m : List Addr) (h : OH) (H : Hp) : Prop where
  sub : Same F H
  len : m.length = h.length
  nd : m.Nodup
  live : ∀ a ∈ m, ∃ o, H a = some o
  at_ : ∀ (i : Nat) (a : Addr) (o : OO), m[i]? = some a → h[i]? = some o → OOk K F m H a o
  pin : ∀ p ∈ P, H p.1 = some p.2 ∧ F p.1 = none ∧ p.1 ∉ m
  pnd : (P.map (·.1)).Nodup
theorem OOk.mono {H H' : Hp} {a : Addr} {o : OO} (x : Ext F m F' m') (e : H' a = H a) (f : F a = none → F' a = none) (h : OOk K F m H a o) : OOk K F' m' H' a o := by
  cases o with
  | lst xs =>
    obtain ⟨vs, h1, h2, h3⟩ := h
    exact ⟨vs, e.trans h1, h2.mono x, f h3⟩
  | ins C fs =>
    obtain ⟨dx, fv, h1, h2, h3, h4⟩ := h
    exact ⟨dx, fv, e.trans h1, h2, h3.mono x, f h4⟩
  | dct kvs =>
    obtain ⟨ks, h1, h2, h3⟩ := h
    exact ⟨ks, e.trans h1, h2.mono x, f h3⟩
  | dead => trivial
end
section
variable {K : PySem.W.Frag} {P : Pins} {F : Hp} {m : List Addr} {h : OH} {H : Hp}
theorem nodup_at {i j : Nat} {a : Addr} (hn : m.Nodup) (e1 : m[i]? = some a) (e2 : m[j]? = some a) : i = j := by
  obtain ⟨h1, q1⟩ := List.getElem?_eq_some_iff.mp e1
  obtain ⟨h2, q2⟩ := List.getElem?_eq_some_iff.mp e2
  exact (List.getElem_inj hn).mp (q1.trans q2.symm)
theorem Sim.notMem (S : Sim K P F m h H) {p : Addr} (hp : H p = none) : p ∉ m := fun z => by
  obtain ⟨o, e⟩ := S.live p z
  rw [hp] at e
  cases e
theorem Sim.free (S : Sim K P F m h H) {p : Addr} (hp : H p = none) : F p = none := S.sub.free hp
theorem Sim.notPin (S : Sim K P F m h H) {p : Addr} (hp : H p = none) : ∀ q ∈ P, q.1 ≠ p := fun q hq z => by
  have e := (S.pin q hq).1
  rw [z, hp] at e
  cases e
theorem same_new {p : Addr} {o : HO} (hp : H p = none) : Same H (upd H p o) := fun b u e => by
  rw [upd_ne (ne_of_none e hp)]
  exact e
/-- what is laid and stays out of sight -/
theorem Sim.other (S : Sim K P F m h H) {p : Addr} {o : HO} (hp : H p = none) : Sim K P F m h (upd H p o) where
  sub := S.sub.trans (same_new hp)
  len := S.len
  nd := S.nd
  live := fun a ha => let ⟨u, e⟩ := S.live a ha; ⟨u, same_new hp _ _ e⟩
  at_ := fun i a u e1 e2 => (S.at_ i a u e1 e2).mono .refl (upd_ne fun z => S.notMem hp (z ▸ List.mem_of_getElem? e1)) id
  pin := fun q hq => ⟨same_new hp _ _ (S.pin q hq).1, (S.pin q hq).2⟩
  pnd := S.pnd
/-- a new frozen object -/
theorem Sim.frozen (S : Sim K P F m h H) {p : Addr} {o : HO} (hp : H p = none) : Sim K P (upd F p o) m h (upd H p o) := by
  have x : Ext F m (upd F p o) m := ⟨same_new (S.free hp), List.prefix_rfl⟩
  refine ⟨fun b u e => ?_, S.len, S.nd, (S.other hp).live, fun i a u e1 e2 => ?_, fun q hq => ?_, S.pnd⟩
  · by_cases hb : b = p
    · subst hb
      rw [upd_same] at e ⊢
      exact e
    · rw [upd_ne hb] at e ⊢
      exact S.sub b u e
  · have ne : a ≠ p := fun z => S.notMem hp (z ▸ List.mem_of_getElem? e1)
    exact (S.at_ i a u e1 e2).mono x (upd_ne ne) fun z => (upd_ne ne).trans z
  · have ne : q.1 ≠ p := S.notPin hp q hq
    exact ⟨same_new hp _ _ (S.pin q hq).1, (upd_ne ne).trans (S.pin q hq).2.1, (S.pin q hq).2.2⟩
theorem Sim.extF (S : Sim K P F m h H) {p : Addr} {o : HO} (hp : H p = none) : Ext F m (upd F p o) m := ⟨same_new (S.free hp), List.prefix_rfl⟩
theorem ext_new {a : Addr} : Ext F m F (m ++ [a]) := ⟨Same.refl _, List.prefix_append _ _⟩
/-- a new own object -/
theorem Sim.alloc (S : Sim K P F m h H) {p : Addr} {ho : HO} {o : OO} (hp : H p = none) (ok : OOk K F (m ++ [p]) (upd H p ho) p o) : Sim K P F (m ++ [p]) (h ++ [o]) (upd H p ho) where
  sub := (S.other hp).sub
  len := by simp [S.len]
  nd := List.nodup_append.mpr ⟨S.nd, by simp, fun a ha b hb => by
    rw [List.mem_singleton] at hb
    subst hb
    exact fun z => S.notMem hp (z ▸ ha)⟩
  live := fun a ha => by
    rcases List.mem_append.mp ha with ha | ha
    · exact (S.other hp).live a ha
    · rw [List.mem_singleton] at ha
      subst ha
      exact ⟨_, upd_same⟩
  at_ := fun i a u e1 e2 => by
    by_cases hi : i < m.length
    · rw [List.getElem?_append_left hi] at e1
      rw [List.getElem?_append_left (by rw [← S.len]; exact hi)] at e2
      exact (S.at_ i a u e1 e2).mono ext_new (upd_ne fun z => S.notMem hp (z ▸ List.mem_of_getElem? e1)) id
    · have hi2 : i = m.length := by
        have := (List.getElem?_eq_some_iff.mp e1).1
        simp at this
        omega
      subst hi2
      rw [S.len] at e2
      simp at e1 e2
      subst e1 e2
      exact ok
  pin := fun q hq => by
    obtain ⟨h1, h2, h3⟩ := (S.other (o := ho) hp).pin q hq
    refine ⟨h1, h2, fun z => ?_⟩
    rcases List.mem_append.mp z with z | z
    · exact h3 z
    · rw [List.mem_singleton] at z
      exact S.notPin hp q hq z
  pnd := S.pnd
/-- an own object is written -/
theorem Sim.write (S : Sim K P F m h H) {i : Nat} {a : Addr} {ho : HO} {o o' : OO} (e : m[i]? = some a) (e2 : h[i]? = some o') (nf : F a = none) (ok : OOk K F m (upd H a ho) a o) : Sim K P F m (h.set i o) (upd H a ho) where
  sub := fun b u q => by
    have ne : b ≠ a := fun z => by
      rw [z, nf] at q
      cases q
    rw [upd_ne ne]
    exact S.sub b u q
  len := by simp [S.len]
  nd := S.nd
  live := fun b hb => by
    by_cases hba : b = a
    · subst hba
      exact ⟨_, upd_same⟩
    · obtain ⟨u, q⟩ := S.live b hb
      exact ⟨u, (upd_ne hba).trans q⟩
  at_ := fun j b u q1 q2 => by
    by_cases hji : j = i
    · subst hji
      rw [e] at q1
      cases q1
      rw [List.getElem?_set_self (List.getElem?_eq_some_iff.mp e2).1] at q2
      cases q2
      exact ok
    · rw [List.getElem?_set_ne (Ne.symm hji)] at q2
      exact (S.at_ j b u q1 q2).mono .refl (upd_ne fun z => hji (nodup_at S.nd (z ▸ q1) e)) id
  pin := fun q hq => by
    obtain ⟨h1, h2, h3⟩ := S.pin q hq
    exact ⟨(upd_ne fun z => h3 (by rw [z]; exact List.mem_of_getElem? e)).trans h1, h2, h3⟩
  pnd := S.pnd
/-- an own object is frozen -/
theorem Sim.freeze (S : Sim K P F m h H) {i : Nat} {a : Addr} {ho : HO} (e : m[i]? = some a) (nf : F a = none) (he : H a = some ho) : Sim K P (upd F a ho) m (h.set i .dead) H := by
  have x : Ext F m (upd F a ho) m := ⟨same_new nf, List.prefix_rfl⟩
  refine ⟨fun b u q => ?_, by simp [S.len], S.nd, S.live, fun j b u q1 q2 => ?_, fun q hq => ?_, S.pnd⟩
  · by_cases hb : b = a
    · subst hb
      rw [upd_same] at q
      cases q
      exact he
    · rw [upd_ne hb] at q
      exact S.sub b u q
  · by_cases hji : j = i
    · subst hji
      rw [List.getElem?_set] at q2
      simp at q2
      obtain ⟨_, q2⟩ := q2
      subst q2
      trivial
    · rw [List.getElem?_set_ne (Ne.symm hji)] at q2
      have ne : b ≠ a := fun z => hji (nodup_at S.nd (z ▸ q1) e)
      exact (S.at_ j b u q1 q2).mono x rfl fun z => (upd_ne ne).trans z
  · obtain ⟨h1, h2, h3⟩ := S.pin q hq
    exact ⟨h1, (upd_ne fun z => h3 (by rw [z]; exact List.mem_of_getElem? e)).trans h2, h3⟩
theorem ext_frz {a : Addr} {ho : HO} (nf : F a = none) : Ext F m (upd F a ho) m := ⟨same_new nf, List.prefix_rfl⟩
/-- a new hidden object -/
theorem Sim.hid (S : Sim K P F m h H) {p : Addr} {o : HO} (hp : H p = none) : Sim K ((p, o) :: P) F m h (upd H p o) := by
  have S2 := S.other (o := o) hp
  refine ⟨S2.sub, S2.len, S2.nd, S2.live, S2.at_, fun q hq => ?_, ?_⟩
  · rcases List.mem_cons.mp hq with rfl | hq
    · exact ⟨upd_same, S.free hp, S.notMem hp⟩
    · exact S2.pin q hq
  · rw [List.map_cons, List.nodup_cons]
    refine ⟨fun z => ?_, S.pnd⟩
    obtain ⟨q, hq, e⟩ := List.mem_map.mp z
    exact S.notPin hp q hq e
/-- a hidden object is written -/
theorem Sim.hidSet {p : Addr} {o o' : HO} (S : Sim K ((p, o) :: P) F m h H) : Sim K ((p, o') :: P) F m h (upd H p o') := by
  obtain ⟨h1, h2, h3⟩ := S.pin (p, o) List.mem_cons_self
  have nm : ∀ a, a ∈ m → a ≠ p := fun a ha z => h3 (z ▸ ha)
  have pn := S.pnd
  rw [List.map_cons, List.nodup_cons] at pn
  refine ⟨fun b u q => ?_, S.len, S.nd, fun a ha => ?_, fun i a u e1 e2 => ?_, fun q hq => ?_, by rw [List.map_cons, List.nodup_cons]; exact pn⟩
  · have ne : b ≠ p := fun z => by
      rw [z, h2] at q
      cases q
    rw [upd_ne ne]
    exact S.sub b u q
  · obtain ⟨u, q⟩ := S.live a ha
    exact ⟨u, (upd_ne (nm a ha)).trans q⟩
  · exact (S.at_ i a u e1 e2).mono .refl (upd_ne (nm a (List.mem_of_getElem? e1))) id
  · rcases List.mem_cons.mp hq with rfl | hq
    · exact ⟨upd_same, h2, h3⟩
    · obtain ⟨q1, q2, q3⟩ := S.pin q (List.mem_cons_of_mem _ hq)
      have ne : q.1 ≠ p := fun z => pn.1 (List.mem_map.mpr ⟨q, hq, z⟩)
      exact ⟨(upd_ne ne).trans q1, q2, q3⟩
/-- a hidden object is frozen -/
theorem Sim.hidFrz {p : Addr} {o : HO} (S : Sim K ((p, o) :: P) F m h H) : Sim K P (upd F p o) m h H := by
  obtain ⟨h1, h2, h3⟩ := S.pin (p, o) List.mem_cons_self
  have x : Ext F m (upd F p o) m := ext_frz h2
  have pn := S.pnd
  rw [List.map_cons, List.nodup_cons] at pn
  refine ⟨fun b u q => ?_, S.len, S.nd, S.live, fun i a u e1 e2 => ?_, fun q hq => ?_, pn.2⟩
  · by_cases hb : b = p
    · subst hb
      rw [upd_same] at q
      cases q
      exact h1
    · rw [upd_ne hb] at q
      exact S.sub b u q
  · have ne : a ≠ p := fun z => h3 (z ▸ List.mem_of_getElem? e1)
    exact (S.at_ i a u e1 e2).mono x rfl fun z => (upd_ne ne).trans z
  · obtain ⟨q1, q2, q3⟩ := S.pin q (List.mem_cons_of_mem _ hq)
    have ne : q.1 ≠ p := fun z => pn.1 (List.mem_map.mpr ⟨q, hq, z⟩)
    exact ⟨q1, (upd_ne ne).trans q2, q3⟩
/-- a hidden list becomes an own object -/
theorem Sim.hidOwn {p : Addr} {vs : List V} {xs : List D} (S : Sim K ((p, .lst vs) :: P) F m h H) (r : DenL K F m vs xs) : Sim K P F (m ++ [p]) (h ++ [.lst xs]) H := by
  obtain ⟨h1, h2, h3⟩ := S.pin (p, .lst vs) List.mem_cons_self
  have pn := S.pnd
  rw [List.map_cons, List.nodup_cons] at pn
  refine ⟨S.sub, by simp [S.len], ?_, fun a ha => ?_, fun i a u e1 e2 => ?_, fun q hq => ?_, pn.2⟩
  · refine List.nodup_append.mpr ⟨S.nd, by simp, fun a ha b hb => ?_⟩
    rw [List.mem_singleton] at hb
    subst hb
    exact fun z => h3 (z ▸ ha)
  · rcases List.mem_append.mp ha with ha | ha
    · exact S.live a ha
    · rw [List.mem_singleton] at ha
      subst ha
      exact ⟨_, h1⟩
  · by_cases hi : i < m.length
    · rw [List.getElem?_append_left hi] at e1
      rw [List.getElem?_append_left (by rw [← S.len]; exact hi)] at e2
      exact (S.at_ i a u e1 e2).mono ext_new rfl id
    · have hi2 : i = m.length := by
        have := (List.getElem?_eq_some_iff.mp e1).1
        simp at this
        omega
      subst hi2
      rw [S.len] at e2
      simp at e1 e2
      subst e1 e2
      exact ⟨vs, h1, r.mono ext_new, h2⟩
  · obtain ⟨q1, q2, q3⟩ := S.pin q (List.mem_cons_of_mem _ hq)
    refine ⟨q1, q2, fun z => ?_⟩
    rcases List.mem_append.mp z with z | z
    · exact q3 z
    · rw [List.mem_singleton] at z
      exact pn.1 (List.mem_map.mpr ⟨q, hq, z⟩)
/-- the whole own heap hidden, for a call that sees nothing of it -/
def hidP (F : Hp) (m : List Addr) (H : Hp) : Pins := m.filterMap fun a => if (F a).isNone then (H a).map fun o => (a, o) else none
theorem mem_hidP {q : Addr × HO} : q ∈ hidP F m H ↔ q.1 ∈ m ∧ F q.1 = none ∧ H q.1 = some q.2 := by
  unfold hidP
  rw [List.mem_filterMap]
  constructor
  · rintro ⟨a, ha, e⟩
    split at e
    · rename_i hf
      obtain ⟨o, ho, e2⟩ := Option.map_eq_some_iff.mp e
      subst e2
      exact ⟨ha, by simpa using hf, ho⟩
    · cases e
  · rintro ⟨h1, h2, h3⟩
    exact ⟨q.1, h1, by simp [h2, h3]⟩
theorem hidP_nodup : ∀ {m : List Addr}, m.Nodup → ((hidP F m H).map (·.1)).Nodup
  | [], _ => by simp [hidP]
  | a :: m, hn => by
    rw [List.nodup_cons] at hn
    have ih := hidP_nodup hn.2
    have key : hidP F (a :: m) H = (if (F a).isNone then (H a).map fun o => (a, o) else none).toList ++ hidP F m H := by
      unfold hidP
      rw [List.filterMap_cons]
      split <;> rename_i e <;> rw [e] <;> rfl
    rw [key]
    split
    · cases e : H a with
      | none => simpa using ih
      | some o =>
        simp only [Option.map_some, Option.toList_some, List.singleton_append, List.map_cons, List.nodup_cons]
        refine ⟨fun z => ?_, ih⟩
        obtain ⟨q, hq, e2⟩ := List.mem_map.mp z
        exact hn.1 (e2 ▸ (mem_hidP.mp hq).1)
    · simpa using ih
theorem Sim.hide (S : Sim K P F m h H) : Sim K (hidP F m H ++ P) F [] [] H where
  sub := S.sub
  len := rfl
  nd := List.nodup_nil
  live := fun _ z => by simp at z
  at_ := fun _ _ _ z => by simp at z
  pin := fun q hq => by
    rcases List.mem_append.mp hq with hq | hq
    · obtain ⟨_, h2, h3⟩ := mem_hidP.mp hq
      exact ⟨h3, h2, by simp⟩
    · exact ⟨(S.pin q hq).1, (S.pin q hq).2.1, by simp⟩
  pnd := by
    rw [List.map_append]
    refine List.nodup_append.mpr ⟨hidP_nodup S.nd, S.pnd, fun a ha b hb z => ?_⟩
    obtain ⟨q, hq, e⟩ := List.mem_map.mp ha
    obtain ⟨r, hr, e2⟩ := List.mem_map.mp hb
    exact (S.pin r hr).2.2 (by rw [e2, ← z, ← e]; exact (mem_hidP.mp hq).1)
theorem Sim.unhide {F' : Hp} {m' : List Addr} {h' : OH} {H' : Hp} (S : Sim K P F m h H) (s : Same F F') (S' : Sim K (hidP F m H ++ P) F' m' h' H') : Sim K P F' m h H' where
  sub := S'.sub
  len := S.len
  nd := S.nd
  live := fun a ha => by
    cases e : F a with
    | some o => exact ⟨o, S'.sub a o (s a o e)⟩
    | none =>
      obtain ⟨o, q⟩ := S.live a ha
      exact ⟨o, (S'.pin (a, o) (List.mem_append_left _ (mem_hidP.mpr ⟨ha, e, q⟩))).1⟩
  at_ := fun i a o e1 e2 => by
    have ha := List.mem_of_getElem? e1
    have key : ∀ u, H a = some u → F a = none → H' a = some u ∧ F' a = none := fun u q z =>
      let t := S'.pin (a, u) (List.mem_append_left _ (mem_hidP.mpr ⟨ha, z, q⟩)); ⟨t.1, t.2.1⟩
    have x : Ext F m F' m := ⟨s, List.prefix_rfl⟩
    have ok := S.at_ i a o e1 e2
    cases o with
    | lst xs =>
      obtain ⟨vs, h1, h2, h3⟩ := ok
      obtain ⟨k1, k2⟩ := key _ h1 h3
      exact ⟨vs, k1, h2.mono x, k2⟩
    | ins C fs =>
      obtain ⟨dx, fv, h1, h2, h3, h4⟩ := ok
      obtain ⟨k1, k2⟩ := key _ h1 h4
      exact ⟨dx, fv, k1, h2, h3.mono x, k2⟩
    | dct kvs =>
      obtain ⟨ks, h1, h2, h3⟩ := ok
      obtain ⟨k1, k2⟩ := key _ h1 h3
      exact ⟨ks, k1, h2.mono x, k2⟩
    | dead => trivial
  pin := fun q hq => by
    obtain ⟨h1, h2, _⟩ := S'.pin q (List.mem_append_right _ hq)
    exact ⟨h1, h2, (S.pin q hq).2.2⟩
  pnd := S.pnd
end
/-! ### values without own objects -/
mutual
def D.pure : D → Bool
  | .non | .bl _ | .int _ | .str _ => true
  | .lst xs | .tup xs | .scr xs => D.pureL xs
  | .dct kvs => D.pureK kvs
  | .obj _ fs => D.pureF fs
  | .ref _ => false
  | .exc _ => true
  | .excf _ _ d => d.pure
def D.pureL : List D → Bool
  | [] => true
  | x :: xs => x.pure && D.pureL xs
def D.pureK : List (Key × D) → Bool
  | [] => true
  | x :: xs => x.2.pure && D.pureK xs
def D.pureF : List (String × D) → Bool
  | [] => true
  | x :: xs => x.2.pure && D.pureF xs
end
theorem and2 {a b : Bool} (h : (a && b) = true) : a = true ∧ b = true := Bool.and_eq_true_iff.mp h
theorem Den.pureM {K : PySem.W.Frag} {F : Hp} {m m' : List Addr} {v : V} {d : D} (h : Den K F m v d) : d.pure = true → Den K F m' v d :=
  Den.rec (motive_1 := fun v d _ => d.pure = true → Den K F m' v d) (motive_2 := fun v d _ => D.pureL d = true → DenL K F m' v d) (motive_3 := fun v d _ => D.pureK d = true → DenK K F m' v d) (motive_4 := fun v d _ => D.pureF d = true → DenF K F m' v d)
    (fun _ => .non) (fun b _ => .bl b) (fun i _ => .int i) (fun x _ => .str x)
    (fun q _ r e => .lst q (r (by simpa [D.pure] using e))) (fun q _ r e => .scr q (r (by simpa [D.pure] using e))) (fun q _ r e => .tup q (r (by simpa [D.pure] using e))) (fun q _ r e => .dct q (r (by simpa [D.pure] using e))) (fun q t _ r e => .obj q t (r (by simpa [D.pure] using e)))
    (fun _ e => by simp [D.pure] at e) (fun q _ => .exc q) (fun q q2 _ r e => .excf q q2 (r (by simpa [D.pure] using e)))
    (fun _ => .nil) (fun _ _ a b e => by
      have e' := and2 (by simpa only [D.pureL] using e)
      exact .cons (a e'.1) (b e'.2))
    (fun _ => .nil) (fun _ _ a b e => by
      have e' := and2 (by simpa only [D.pureK] using e)
      exact .cons (a e'.1) (b e'.2))
    (fun _ => .nil) (fun _ _ a b e => by
      have e' := and2 (by simpa only [D.pureF] using e)
      exact .cons (a e'.1) (b e'.2)) h
theorem DenL.pureM {K : PySem.W.Frag} {F : Hp} {m m' : List Addr} : ∀ {vs : List V} {ds : List D}, DenL K F m vs ds → D.pureL ds = true → DenL K F m' vs ds
  | _, _, .nil, _ => .nil
  | _, _, .cons h t, e => by
    have e' := and2 (by simpa only [D.pureL] using e)
    exact .cons (h.pureM e'.1) (DenL.pureM t e'.2)
end HR
set_option Elab.async false
set_option linter.all false
set_option maxRecDepth 100000
set_option maxHeartbeats 2000000
/-! LayB: the judgements over plain functions; names, constants, operators, displays. -/
namespace HR
open PySem L2
/-- an exception's own dict -/
def PayD (K : PySem.W.Frag) (F : Hp) (m : List Addr) : Pay → Option Addr → Prop
  | none, od => od = none
  | some q, od => ∃ a v, od = some a ∧ F a = some (.xd [(Str.ofString q.1, v)]) ∧ Den K F m v q.2
/-- the slots -/
structure EnvR (K : PySem.W.Frag) (F : Hp) (m : List Addr) (σ : St) (e : Env') : Prop where
  len : σ.length = e.length
  at_ : ∀ (i : Nat) (d : D), e[i]? = some (some d) → ∃ v, σ[i]? = some (some v) ∧ Den K F m v d
abbrev Rel (β α : Type) := Hp → List Addr → β → α → Prop
def FinG {α β : Type} (K : PySem.W.Frag) (P : Pins) (W : WX) (σ : St) (rel : Rel β α) (Q : β → Hp → Prop) (F : Hp) (m : List Addr) : Res α → Prop
  | .ok d h' => ∀ v F' m' H', Ext F m F' m' → Sim K P F' m' h' H' → rel F' m' v d → Q v H'
  | .exc C p h' => ∀ od F' m' H', Ext F m F' m' → Sim K P F' m' h' H' → PayD K F' m' p od → W (.ref (He.ga K (Str.ofString C))) od σ H'
  | .bad => False
/-- the reading of a plain function -/
def rdG {α β : Type} (K : PySem.W.Frag) (W : WX) (rel : Rel β α) (f : Env' → OH → Res α) (σ : St) (H : Hp) (Q : β → Hp → Prop) : Prop :=
  ∃ P F m e h, Sim K P F m h H ∧ EnvR K F m σ e ∧ FinG K P W σ rel Q F m (f e h)
abbrev relB : Rel Bool Bool := fun _ _ b c => b = c
abbrev DE (X : Cx) (W : WX) (e : Expr) (f : SE) : Prop := PE X e (rdG X.K W (Den X.K) f)
abbrev DT (X : Cx) (W : WX) (e : Expr) (f : ST) : Prop := PT X e (rdG X.K W relB f)
abbrev DW (X : Cx) (W : WX) (e : Expr) (f : ST) : Prop := PW X e (rdG X.K W relB f)
abbrev DA (X : Cx) (W : WX) (es : List Expr) (f : SA) : Prop := PA X es (rdG X.K W (DenL X.K) f)
section
variable {K : PySem.W.Frag} {P : Pins} {W : WX} {σ : St} {F F' : Hp} {m m' : List Addr} {h : OH} {H : Hp} {e : Env'}
theorem EnvR.mono (x : Ext F m F' m') (E : EnvR K F m σ e) : EnvR K F' m' σ e :=
  ⟨E.len, fun i d q => let ⟨v, a, b⟩ := E.at_ i d q; ⟨v, a, b.mono x⟩⟩
theorem FinG.weak {α β : Type} {rel : Rel β α} {Q : β → Hp → Prop} (x : Ext F m F' m') : ∀ {r : Res α}, FinG K P W σ rel Q F m r → FinG K P W σ rel Q F' m' r
  | .ok _ _, q => fun v F2 m2 H2 y S d => q v F2 m2 H2 (x.trans y) S d
  | .exc _ _ _, q => fun od F2 m2 H2 y S d => q od F2 m2 H2 (x.trans y) S d
  | .bad, q => q
theorem FinG.ok {α β : Type} {rel : Rel β α} {Q : β → Hp → Prop} {a : α} {v : β} (q : FinG K P W σ rel Q F m (.ok a h)) (S : Sim K P F m h H) (r : rel F m v a) : Q v H := q v F m H .refl S r
theorem FinG.okX {α β : Type} {rel : Rel β α} {Q : β → Hp → Prop} {a : α} {v : β} (q : FinG K P W σ rel Q F m (.ok a h)) (x : Ext F m F' m') (S : Sim K P F' m' h H) (r : rel F' m' v a) : Q v H := q v F' m' H x S r
/-- one step -/
theorem rd_seq {α β γ δ : Type} {rel1 : Rel β α} {rel2 : Rel δ γ} {f : Env' → OH → Res α} {g : α → OH → Res γ} {Q : δ → Hp → Prop} {R : β → Hp → Prop} (S : Sim K P F m h H) (E : EnvR K F m σ e)
    (fin : FinG K P W σ rel2 Q F m ((f e h).bind g))
    (k : ∀ F' m' h' H' v a, Ext F m F' m' → Sim K P F' m' h' H' → EnvR K F' m' σ e → rel1 F' m' v a → FinG K P W σ rel2 Q F' m' (g a h') → R v H') : rdG K W rel1 f σ H R := by
  refine ⟨P, F, m, e, h, S, E, ?_⟩
  cases q : f e h with
  | ok a h1 =>
    rw [q] at fin
    exact fun v F1 m1 H1 x S1 r => k F1 m1 h1 H1 v a x S1 (E.mono x) r (FinG.weak x fin)
  | exc C p h1 =>
    rw [q] at fin
    exact fin
  | bad =>
    rw [q] at fin
    exact fin.elim
end
section
variable {X : Cx} {W : WX}
theorem PE.of {e : Expr} {t t' : TE} (h : PE X e t) (w : ∀ σ H Q, t' σ H Q → t σ H Q) : PE X e t' := ⟨fun pins s σ H Q I q => h.run pins s σ H Q I (w σ H Q q)⟩
theorem PT.of {e : Expr} {t t' : TT} (h : PT X e t) (w : ∀ σ H Q, t' σ H Q → t σ H Q) : PT X e t' := ⟨fun pins s σ H Q I q => h.run pins s σ H Q I (w σ H Q q)⟩
theorem PA.of {es : List Expr} {t t' : TA} (h : PA X es t) (w : ∀ σ H Q, t' σ H Q → t σ H Q) : PA X es t' := ⟨fun pos pins s σ H Q I q => h.run pos pins s σ H Q I (w σ H Q q)⟩
/-! ### names, constants -/
def sVar (i : Nat) : SE := fun e h => match e[i]? with
  | some (some d) => .ok d h
  | _ => .bad
def sC (d : D) : SE := fun _ h => .ok d h
theorem de_of_var {x : Expr} {i : Nat} (hx : PE X x (tVar i)) : DE X W x (sVar i) := PE.of hx fun σ H Q => by
  rintro ⟨P, F, m, e, h, S, E, fin⟩
  unfold sVar at fin
  cases q : e[i]? with
  | none => rw [q] at fin; exact fin.elim
  | some o =>
    cases o with
    | none => rw [q] at fin; exact fin.elim
    | some d =>
      rw [q] at fin
      obtain ⟨v, e1, r⟩ := E.at_ i d q
      exact ⟨v, e1, fin.ok S r⟩
theorem de_var (i : Nat) {x : Str} {pos : Pos} (hN : X.N[i]? = some x := by rfl) (hv : Vis X.env.scope x := by first | exact Or.inl rfl | exact Or.inr (Or.inl rfl) | exact Or.inr (Or.inr rfl)) (hd : (x == ("__debug__" : Str)) = false := by decide)
    (hcd : (x == ("__classdict__" : Str)) = false := by decide) : DE X W (.Name x pos) (sVar i) := de_of_var (pe_var hN hv hd hcd)
theorem de_of_const {x : Expr} {v : V} {d : D} (hx : PE X x (tC v)) (r : ∀ F m, Den X.K F m v d) : DE X W x (sC d) := PE.of hx fun σ H Q => by
  rintro ⟨P, F, m, e, h, S, E, fin⟩
  exact fin.ok S (r F m)
theorem de_int {i : Int} {j : Nat} {pos : Pos} : DE X W (.Constant (.int i) j pos) (sC (.int i)) := de_of_const pe_int fun _ _ => .int i
theorem de_bl {b : Bool} {j : Nat} {pos : Pos} : DE X W (.Constant (.bool b) j pos) (sC (.bl b)) := de_of_const pe_bl fun _ _ => .bl b
theorem de_non {j : Nat} {pos : Pos} : DE X W (.Constant .none j pos) (sC .non) := de_of_const pe_non fun _ _ => .non
theorem de_str {x : Str} {j : Nat} {pos : Pos} : DE X W (.Constant (.str x) j pos) (sC (.str x)) := de_of_const pe_str fun _ _ => .str x
theorem de_globI {x : Str} {i : Int} {pos : Pos} (hg : Gl X x) (hm : ∃ t, X.mg x = some (.int i t)) (hd : (x == ("__debug__" : Str)) = false := by decide) : DE X W (.Name x pos) (sC (.int i)) := by
  obtain ⟨t, e⟩ := hm
  exact de_of_const (pe_glob (v := .int i) hg e ⟨t, rfl⟩ hd) fun _ _ => .int i
theorem de_globS {x z : Str} {pos : Pos} (hg : Gl X x) (hm : ∃ t, X.mg x = some (.str z t)) (hd : (x == ("__debug__" : Str)) = false := by decide) : DE X W (.Name x pos) (sC (.str z)) := by
  obtain ⟨t, e⟩ := hm
  exact de_of_const (pe_glob (v := .str z) hg e ⟨t, rfl⟩ hd) fun _ _ => .str z
/-! ### two operands, one operand -/
def sBin (g : D → D → OH → Res D) (a b : SE) : SE := fun e h => (a e h).bind fun x h1 => (b e h1).bind fun y h2 => g x y h2
def sUn (g : D → OH → Res D) (a : SE) : SE := fun e h => (a e h).bind g
def OpH (K : PySem.W.Frag) (W : WX) (g : D → D → OH → Res D) (r : R2) : Prop :=
  ∀ (P : Pins) (F : Hp) (m : List Addr) (h : OH) (H : Hp) (σ : St) (Q : VK) (x y : V) (dx dy : D), Sim K P F m h H → Den K F m x dx → Den K F m y dy → FinG K P W σ (Den K) Q F m (g dx dy h) → r x y H Q
theorem rd_op {g : D → D → OH → Res D} {r : R2} (hg : OpH X.K W g r) {fa fb : SE} {σ : St} {H : Hp} {Q : VK} (q : rdG X.K W (Den X.K) (sBin g fa fb) σ H Q) : tOp r (rdG X.K W (Den X.K) fa) (rdG X.K W (Den X.K) fb) σ H Q := by
  obtain ⟨P, F, m, e, h, S, E, fin⟩ := q
  refine rd_seq S E fin fun F1 m1 h1 H1 x dx x1 S1 E1 r1 fin1 => ?_
  refine rd_seq S1 E1 fin1 fun F2 m2 h2 H2 y dy x2 S2 E2 r2 fin2 => ?_
  exact hg P F2 m2 h2 H2 σ Q x y dx dy S2 (r1.mono x2) r2 fin2
theorem de_op {a b : Expr} {op : Operator} {pos : Pos} {g : D → D → OH → Res D} {r : R2} {fa fb : SE} (ho : OpR X (binaryOp op) r) (hg : OpH X.K W g r) (ha : DE X W a fa) (hb : DE X W b fb) : DE X W (.BinOp a op b pos) (sBin g fa fb) :=
  PE.of (pe_op ho ha hb) fun _ _ _ => rd_op hg
theorem de_cmp {a b : Expr} {op : CmpOp} {pos : Pos} {g : D → D → OH → Res D} {r : R2} {fa fb : SE} (ho : OpR X (compareOp op) r) (hg : OpH X.K W g r) (hm : behindInMarks op b = false) (ha : DE X W a fa) (hb : DE X W b fb) : DE X W (.Compare a [op] [b] pos) (sBin g fa fb) :=
  PE.of (pe_cmpR ho ha hb hm) fun _ _ _ => rd_op hg
theorem de_un {a : Expr} {op : UnaryOp} {pos : Pos} {g : D → OH → Res D} {r : V → Hp → VK → Prop} {fa : SE} (ho : UnR X (unaryOp op) r)
    (hg : ∀ (P : Pins) (F : Hp) (m : List Addr) (h : OH) (H : Hp) (σ : St) (Q : VK) (x : V) (dx : D), Sim X.K P F m h H → Den X.K F m x dx → FinG X.K P W σ (Den X.K) Q F m (g dx h) → r x H Q) (ha : DE X W a fa) : DE X W (.UnaryOp op a pos) (sUn g fa) :=
  PE.of (pe_un ho ha) fun σ H Q => by
    rintro ⟨P, F, m, e, h, S, E, fin⟩
    exact rd_seq S E fin fun F1 m1 h1 H1 x dx x1 S1 E1 r1 fin1 => hg P F1 m1 h1 H1 σ Q x dx S1 r1 fin1
/-! ### what is read as a sequence -/
/-- lists that may be read by every rule -/
def lstAt (h : OH) : D → Option (List D)
  | .lst xs => some xs
  | .ref i => (match h[i]? with
    | some (.lst xs) => some xs
    | _ => none)
  | _ => none
def tupAt : D → Option (List D)
  | .tup xs => some xs
  | _ => none
def seqAt (h : OH) : D → Option (List D)
  | .lst xs => some xs
  | .tup xs => some xs
  | .scr xs => some xs
  | .ref i => (match h[i]? with
    | some (.lst xs) => some xs
    | _ => none)
  | _ => none
section
variable {K : PySem.W.Frag} {P : Pins} {F : Hp} {m : List Addr} {h : OH} {H : Hp} {v : V} {d : D} {xs : List D}
theorem Sim.own (S : Sim K P F m h H) {i : Nat} {a : Addr} (e : m[i]? = some a) : ∃ o, h[i]? = some o ∧ OOk K F m H a o := by
  have hi : i < h.length := by rw [← S.len]; exact (List.getElem?_eq_some_iff.mp e).1
  exact ⟨h[i], List.getElem?_eq_getElem hi, S.at_ i a _ e (List.getElem?_eq_getElem hi)⟩
theorem lstAt_ok (S : Sim K P F m h H) (r : Den K F m v d) (q : lstAt h d = some xs) : ∃ a vs, v = .ref a ∧ H a = some (.lst vs) ∧ DenL K F m vs xs := by
  cases r with
  | lst e t => cases q; exact ⟨_, _, rfl, S.sub _ _ e, t⟩
  | ref e =>
    obtain ⟨o, h1, h2⟩ := S.own e
    dsimp only [lstAt] at q
    rw [h1] at q
    cases o with
    | lst ys =>
      cases q
      obtain ⟨vs, k1, k2, _⟩ := h2
      exact ⟨_, vs, rfl, k1, k2⟩
    | _ => cases q
  | _ => cases q
theorem tupAt_ok (S : Sim K P F m h H) (r : Den K F m v d) (q : tupAt d = some xs) : ∃ a vs, v = .ref a ∧ H a = some (.tup vs) ∧ DenL K F m vs xs := by
  cases r with
  | tup e t => cases q; exact ⟨_, _, rfl, S.sub _ _ e, t⟩
  | _ => cases q
theorem seqAt_ok (S : Sim K P F m h H) (r : Den K F m v d) (q : seqAt h d = some xs) : ∃ a vs, v = .ref a ∧ (SqL K H a vs ∨ SqT K H a vs) ∧ DenL K F m vs xs := by
  cases r with
  | lst e t => cases q; exact ⟨_, _, rfl, .inl (.inl (.inl (S.sub _ _ e))), t⟩
  | scr e t => cases q; exact ⟨_, _, rfl, .inl (S.sub.seq e), t⟩
  | tup e t => cases q; exact ⟨_, _, rfl, .inr (.inl (.inl (S.sub _ _ e))), t⟩
  | ref e =>
    obtain ⟨o, h1, h2⟩ := S.own e
    dsimp only [seqAt] at q
    rw [h1] at q
    cases o with
    | lst ys =>
      cases q
      obtain ⟨vs, k1, k2, _⟩ := h2
      exact ⟨_, vs, rfl, .inl (.inl (.inl k1)), k2⟩
    | _ => cases q
  | _ => cases q
/-- lists alone -/
def lsqAt (h : OH) : D → Option (List D)
  | .tup _ => none
  | d => seqAt h d
theorem lsqAt_ok (S : Sim K P F m h H) (r : Den K F m v d) (q : lsqAt h d = some xs) : ∃ a vs, v = .ref a ∧ SqL K H a vs ∧ DenL K F m vs xs := by
  cases r with
  | lst e t => cases q; exact ⟨_, _, rfl, .inl (.inl (S.sub _ _ e)), t⟩
  | scr e t => cases q; exact ⟨_, _, rfl, S.sub.seq e, t⟩
  | ref e =>
    obtain ⟨a, vs, e1, e2, e3⟩ := lstAt_ok S (.ref e) (show lstAt h _ = some xs from q)
    exact ⟨a, vs, e1, .inl (.inl e2), e3⟩
  | _ => cases q
theorem FinG.bad_elim {α β : Type} {rel : Rel β α} {W : WX} {σ : St} {Q : β → Hp → Prop} {p : Prop} (q : FinG K P W σ rel Q F m (.bad : Res α)) : p := False.elim q
theorem den_int {i : Int} (r : Den K F m v (.int i)) : v = .int i := by cases r; rfl
theorem den_str {x : Str} (r : Den K F m v (.str x)) : v = .str x := by cases r; rfl
theorem den_bl {b : Bool} (r : Den K F m v (.bl b)) : v = .bl b := by cases r; rfl
end
/-- a new list -/
theorem FinG.newL {K : PySem.W.Frag} {P : Pins} {F : Hp} {m : List Addr} {h : OH} {H : Hp} {σ : St} {Q : VK} {vs : List V} {xs : List D} {p : Addr} (fin : FinG K P W σ (Den K) Q F m (.ok (.lst xs) h)) (S : Sim K P F m h H) (r : DenL K F m vs xs) (hp : H p = none) : Q (.ref p) (upd H p (.lst vs)) :=
  fin.okX (S.extF hp) (S.frozen hp) (.lst upd_same (r.mono (S.extF hp)))
theorem FinG.newT {K : PySem.W.Frag} {P : Pins} {F : Hp} {m : List Addr} {h : OH} {H : Hp} {σ : St} {Q : VK} {vs : List V} {xs : List D} {p : Addr} (fin : FinG K P W σ (Den K) Q F m (.ok (.tup xs) h)) (S : Sim K P F m h H) (r : DenL K F m vs xs) (hp : H p = none) : Q (.ref p) (upd H p (.tup vs)) :=
  fin.okX (S.extF hp) (S.frozen hp) (.tup upd_same (r.mono (S.extF hp)))
/-! ### arithmetic -/
def opI2 (f : Int → Int → D) (c : Int → Int → Bool) : D → D → OH → Res D
  | .int i, .int j, h => if c i j then .ok (f i j) h else .bad
  | _, _, _ => .bad
theorem opI2_h {f : Int → Int → D} {g : Int → Int → V} {c : Int → Int → Bool} {C : Int → Int → Prop} (hc : ∀ i j, c i j = true → C i j) (hf : ∀ (F : Hp) (m : List Addr) i j, Den X.K F m (g i j) (f i j)) : OpH X.K W (opI2 f c) (rI C g) := by
  intro P F m h H σ Q x y dx dy S r1 r2 fin
  cases r1 with
  | int i =>
    cases r2 with
    | int j =>
      dsimp only [opI2] at fin
      by_cases hh : c i j = true
      · rw [if_pos hh] at fin
        exact ⟨i, j, rfl, rfl, hc i j hh, fin.ok S (hf F m i j)⟩
      · rw [if_neg hh] at fin
        exact fin.bad_elim
    | _ => exact fin.bad_elim
  | _ => exact fin.bad_elim
theorem opI2_h0 {f : Int → Int → D} {g : Int → Int → V} (hf : ∀ (F : Hp) (m : List Addr) i j, Den X.K F m (g i j) (f i j)) : OpH X.K W (opI2 f fun _ _ => true) (rI0 g) := by
  intro P F m h H σ Q x y dx dy S r1 r2 fin
  obtain ⟨i, j, e1, e2, _, q⟩ := opI2_h (C := fun _ _ => True) (fun _ _ _ => trivial) hf P F m h H σ Q x y dx dy S r1 r2 fin
  exact ⟨i, j, e1, e2, q⟩
abbrev big : Nat := 1000000
/-- a + b -/
def opAdd : D → D → OH → Res D
  | .int i, .int j, h => .ok (.int (i + j)) h
  | .str x, .str y, h => if x.length + y.length ≤ big then .ok (.str (x ++ y)) h else .bad
  | .tup xs, .tup ys, h => if xs ≠ [] ∧ xs.length + ys.length ≤ big then .ok (.tup (xs ++ ys)) h else .bad
  | a, b, h => (match lstAt h a, lstAt h b with
    | some xs, some ys => if xs.length + ys.length ≤ big then .ok (.lst (xs ++ ys)) h else .bad
    | _, _ => .bad)
theorem big_line {n : Nat} (h : n ≤ big) : n ≤ sizeLine := Nat.le_trans h (by decide)
theorem big_lt {n : Nat} (h : n < big) : n < sizeLine := Nat.lt_of_lt_of_le h (by decide)
abbrev rAddU (K : PySem.W.Frag) : R2 := fun x y H Q => rI0 (fun i j => .int (i + j)) x y H Q ∨ ((∃ i j, x = .str i ∧ y = .str j ∧ i.length + j.length ≤ sizeLine ∧ Q (.str (i ++ j)) H) ∨ (rCat x y H Q ∨ rCatT K x y H Q))
theorem opAdd_h : OpH X.K W opAdd (rAddU X.K) := by
  intro P F m h H σ Q x y dx dy S r1 r2 fin
  have lists : ∀ {a b : D}, Den X.K F m x a → Den X.K F m y b → FinG X.K P W σ (Den X.K) Q F m (match lstAt h a, lstAt h b with
    | some xs, some ys => if xs.length + ys.length ≤ big then .ok (.lst (xs ++ ys)) h else .bad
    | _, _ => .bad) → rAddU X.K x y H Q := by
    intro a b q1 q2 fin
    cases e1 : lstAt h a with
    | none => rw [e1] at fin; exact fin.bad_elim
    | some xs =>
      cases e2 : lstAt h b with
      | none => rw [e1, e2] at fin; exact fin.bad_elim
      | some ys =>
        rw [e1, e2] at fin
        dsimp only at fin
        obtain ⟨l, vs, rfl, hl, rl⟩ := lstAt_ok S q1 e1
        obtain ⟨l2, ws, rfl, hl2, rl2⟩ := lstAt_ok S q2 e2
        by_cases hz : xs.length + ys.length ≤ big
        · rw [if_pos hz] at fin
          exact .inr (.inr (.inl ⟨l, l2, vs, ws, rfl, rfl, hl, hl2, by rw [rl.length, rl2.length]; exact big_line hz, fun p hp => fin.newL S (rl.append rl2) hp⟩))
        · rw [if_neg hz] at fin
          exact fin.bad_elim
  cases dx with
  | int i =>
    cases dy with
    | int j =>
      cases den_int r1
      cases den_int r2
      exact .inl ⟨i, j, rfl, rfl, fin.ok S (.int _)⟩
    | _ => exact lists r1 r2 fin
  | str a =>
    cases dy with
    | str b =>
      cases den_str r1
      cases den_str r2
      dsimp only [opAdd] at fin
      by_cases hz : a.length + b.length ≤ big
      · rw [if_pos hz] at fin
        exact .inr (.inl ⟨a, b, rfl, rfl, big_line hz, fin.ok S (.str _)⟩)
      · rw [if_neg hz] at fin
        exact fin.bad_elim
    | _ => exact lists r1 r2 fin
  | tup xs =>
    cases dy with
    | tup ys =>
      dsimp only [opAdd] at fin
      by_cases hz : xs ≠ [] ∧ xs.length + ys.length ≤ big
      · rw [if_pos hz] at fin
        obtain ⟨l, vs, rfl, hl, rl⟩ := tupAt_ok S r1 (rfl : tupAt (.tup xs) = some xs)
        obtain ⟨l2, ws, rfl, hl2, rl2⟩ := tupAt_ok S r2 (rfl : tupAt (.tup ys) = some ys)
        refine .inr (.inr (.inr ⟨l, l2, vs, ws, rfl, rfl, .inl (.inl hl), .inl (.inl hl2), fun z => hz.1 ?_, by rw [rl.length, rl2.length]; exact big_line hz.2, ?_⟩))
        · subst z
          cases rl
          rfl
        · refine ⟨fun z => ?_, fun _ p hp => fin.newT S (rl.append rl2) hp⟩
          subst z
          cases rl2
          rw [List.append_nil] at fin
          exact fin.ok S r1
      · rw [if_neg hz] at fin
        exact fin.bad_elim
    | _ => exact lists r1 r2 fin
  | _ => exact lists r1 r2 fin
theorem or_add : OpR X (binaryOp .Add) (rAddU X.K) := op_add.or (op_add_str.or (op_cat.or op_catT))
theorem de_add {a b : Expr} {pos : Pos} {fa fb : SE} (ha : DE X W a fa) (hb : DE X W b fb) : DE X W (.BinOp a .Add b pos) (sBin opAdd fa fb) := de_op or_add opAdd_h ha hb
abbrev opSub := opI2 (fun i j => .int (i - j)) fun _ _ => true
theorem de_sub {a b : Expr} {pos : Pos} {fa fb : SE} (ha : DE X W a fa) (hb : DE X W b fb) : DE X W (.BinOp a .Sub b pos) (sBin opSub fa fb) := de_op op_sub (opI2_h0 fun _ _ _ _ => .int _) ha hb
/-- a product: one side below 2^64, or both not too large -/
def mulOk (i j : Int) : Bool := decide (i.natAbs < 2 ^ 64) || decide (j.natAbs < 2 ^ 64) || decide (i.natAbs.log2 + j.natAbs.log2 < 1000000)
def opMul : D → D → OH → Res D
  | .int i, .int j, h => if mulOk i j then .ok (.int (i * j)) h else .bad
  | a, .int k, h => (match lstAt h a with
    | some xs => if -(2 ^ 63) ≤ k ∧ k < 2 ^ 63 ∧ xs.length * k.toNat ≤ big then .ok (.lst (List.replicate k.toNat xs).flatten) h else .bad
    | none => .bad)
  | _, _, _ => .bad
theorem mulOk_c {i j : Int} (h : mulOk i j = true) : CMul i j ∨ CMulW i j := by
  unfold mulOk at h
  simp only [Bool.or_eq_true, decide_eq_true_eq] at h
  rcases h with (h | h) | h
  · exact .inl (.inl (by constructor <;> omega))
  · exact .inl (.inr (by constructor <;> omega))
  · exact .inr h
abbrev rMulU : R2 := fun x y H Q => rI CMul (fun i j => .int (i * j)) x y H Q ∨ (rI CMulW (fun i j => .int (i * j)) x y H Q ∨ rRep x y H Q)
theorem opMul_h : OpH X.K W opMul rMulU := by
  intro P F m h H σ Q x y dx dy S r1 r2 fin
  have lists : ∀ {a : D} {k : Int}, Den X.K F m x a → y = .int k → FinG X.K P W σ (Den X.K) Q F m (match lstAt h a with
    | some xs => if -(2 ^ 63) ≤ k ∧ k < 2 ^ 63 ∧ xs.length * k.toNat ≤ big then .ok (.lst (List.replicate k.toNat xs).flatten) h else .bad
    | none => .bad) → rMulU x y H Q := by
    intro a k q1 ey fin
    cases e1 : lstAt h a with
    | none => rw [e1] at fin; exact fin.bad_elim
    | some xs =>
      rw [e1] at fin
      dsimp only at fin
      obtain ⟨l, vs, rfl, hl, rl⟩ := lstAt_ok S q1 e1
      by_cases hz : -(2 ^ 63) ≤ k ∧ k < 2 ^ 63 ∧ xs.length * k.toNat ≤ big
      · rw [if_pos hz] at fin
        exact .inr (.inr ⟨l, k, vs, rfl, ey, hl, hz.1, hz.2.1, by rw [rl.length]; exact big_line hz.2.2, fun p hp => fin.newL S (rl.rep _) hp⟩)
      · rw [if_neg hz] at fin
        exact fin.bad_elim
  cases dy with
  | int j =>
    cases den_int r2
    cases dx with
    | int i =>
      cases den_int r1
      dsimp only [opMul] at fin
      by_cases hm : mulOk i j = true
      · rw [if_pos hm] at fin
        rcases mulOk_c hm with c | c
        · exact .inl ⟨i, j, rfl, rfl, c, fin.ok S (.int _)⟩
        · exact .inr (.inl ⟨i, j, rfl, rfl, c, fin.ok S (.int _)⟩)
      · rw [if_neg hm] at fin
        exact fin.bad_elim
    | _ => exact lists r1 rfl fin
  | _ => cases dx <;> exact fin.bad_elim
theorem de_mul {a b : Expr} {pos : Pos} {fa fb : SE} (ha : DE X W a fa) (hb : DE X W b fb) : DE X W (.BinOp a .Mult b pos) (sBin opMul fa fb) := de_op (op_mul.or (op_mulW.or op_rep)) opMul_h ha hb
def divOk (_ j : Int) : Bool := decide (0 < j) && decide (j.natAbs.log2 < 9000)
abbrev opDiv := opI2 (fun i j => .int (i / j)) divOk
abbrev opMod := opI2 (fun i j => .int (i % j)) fun _ j => decide (0 < j)
theorem de_div {a b : Expr} {pos : Pos} {fa fb : SE} (ha : DE X W a fa) (hb : DE X W b fb) : DE X W (.BinOp a .FloorDiv b pos) (sBin opDiv fa fb) :=
  de_op op_fdivW (opI2_h (fun i j h => by
    unfold divOk at h
    simp only [Bool.and_eq_true, decide_eq_true_eq] at h
    exact h) fun _ _ _ _ => .int _) ha hb
theorem de_mod {a b : Expr} {pos : Pos} {fa fb : SE} (ha : DE X W a fa) (hb : DE X W b fb) : DE X W (.BinOp a .Mod b pos) (sBin opMod fa fb) := de_op op_mod (opI2_h (fun i j h => of_decide_eq_true h) fun _ _ _ _ => .int _) ha hb
abbrev opPow := opI2 (fun i j => .int (i ^ j.toNat)) fun i j => decide (0 ≤ j) && decide (j ≤ 1000000) && decide (i.natAbs < 2 ^ 64)
theorem de_pow {a b : Expr} {pos : Pos} {fa fb : SE} (ha : DE X W a fa) (hb : DE X W b fb) : DE X W (.BinOp a .Pow b pos) (sBin opPow fa fb) :=
  de_op op_pow (opI2_h (fun i j h => by
    simp only [Bool.and_eq_true, decide_eq_true_eq] at h
    exact ⟨h.1.1, h.1.2, h.2⟩) fun _ _ _ _ => .int _) ha hb
def opNeg : D → OH → Res D
  | .int i, h => .ok (.int (-i)) h
  | _, _ => .bad
theorem de_neg {a : Expr} {pos : Pos} {fa : SE} (ha : DE X W a fa) : DE X W (.UnaryOp .USub a pos) (sUn opNeg fa) := de_un un_neg (fun P F m h H σ Q x dx S r fin => by
  cases r with
  | int i => exact ⟨i, rfl, fin.ok S (.int _)⟩
  | _ => exact fin.bad_elim) ha
/-! ### order -/
abbrev opLt := opI2 (fun i j => .bl (decide (i < j))) fun _ _ => true
abbrev opLe := opI2 (fun i j => .bl (decide (i ≤ j))) fun _ _ => true
abbrev opGt := opI2 (fun i j => .bl (decide (j < i))) fun _ _ => true
abbrev opGe := opI2 (fun i j => .bl (decide (j ≤ i))) fun _ _ => true
theorem de_le {a b : Expr} {pos : Pos} {fa fb : SE} (ha : DE X W a fa) (hb : DE X W b fb) : DE X W (.Compare a [.LtE] [b] pos) (sBin opLe fa fb) := de_cmp op_le (opI2_h0 fun _ _ _ _ => .bl _) (nomark _) ha hb
theorem de_ge {a b : Expr} {pos : Pos} {fa fb : SE} (ha : DE X W a fa) (hb : DE X W b fb) : DE X W (.Compare a [.GtE] [b] pos) (sBin opGe fa fb) := de_cmp op_ge (opI2_h0 fun _ _ _ _ => .bl _) (nomark _) ha hb
/-- a op b op' c -/
def sChain (g g' : D → D → OH → Res D) (a b c : SE) : SE := fun e h => (a e h).bind fun x h1 => (b e h1).bind fun y h2 => (g x y h2).bind fun z h3 => match z with
  | .bl true => (c e h3).bind fun u h4 => g' y u h4
  | .bl false => .ok (.bl false) h3
  | _ => .bad
/-! ### is None, is a bool -/
def opIs (neg : Bool) : D → D → OH → Res D
  | a, .non, h => .ok (.bl (match a with
    | .non => !neg
    | _ => neg)) h
  | _, _, _ => .bad
theorem den_is {K : PySem.W.Frag} {F : Hp} {m : List Addr} {v : V} {d : D} (r : Den K F m v d) : decide (v = .non) = (match d with
    | .non => true
    | _ => false) := by
  cases r <;> simp
theorem opIs_h : OpH X.K W (opIs false) (fun x y H Q => y = .non ∧ Q (.bl (decide (x = .non))) H) := by
  intro P F m h H σ Q x y dx dy S r1 r2 fin
  cases r2 with
  | non =>
    refine ⟨rfl, ?_⟩
    rw [den_is r1]
    cases dx <;> exact FinG.ok fin S (.bl _)
  | _ => cases dx <;> exact fin.bad_elim
theorem opIsNot_h : OpH X.K W (opIs true) (fun x y H Q => y = .non ∧ Q (.bl (!decide (x = .non))) H) := by
  intro P F m h H σ Q x y dx dy S r1 r2 fin
  cases r2 with
  | non =>
    refine ⟨rfl, ?_⟩
    rw [den_is r1]
    cases dx <;> exact FinG.ok fin S (.bl _)
  | _ => cases dx <;> exact fin.bad_elim
theorem de_is {a b : Expr} {pos : Pos} {fa fb : SE} (ha : DE X W a fa) (hb : DE X W b fb) : DE X W (.Compare a [.Is] [b] pos) (sBin (opIs false) fa fb) := de_cmp op_isN opIs_h (nomark _) ha hb
theorem de_isnot {a b : Expr} {pos : Pos} {fa fb : SE} (ha : DE X W a fa) (hb : DE X W b fb) : DE X W (.Compare a [.IsNot] [b] pos) (sBin (opIs true) fa fb) := de_cmp op_notN opIsNot_h (nomark _) ha hb
/-! ### arguments, displays -/
def sNil : SA := fun _ h => .ok [] h
def sCons (a : SE) (r : SA) : SA := fun e h => (a e h).bind fun x h1 => (r e h1).bind fun xs h2 => .ok (x :: xs) h2
theorem da_nil : DA X W [] sNil := PA.of pa_nil fun σ H Q => by
  rintro ⟨P, F, m, e, h, S, E, fin⟩
  exact fin.ok S .nil
theorem da_cons {a : Expr} {es : List Expr} {fa : SE} {fr : SA} (ha : DE X W a fa) (hr : DA X W es fr) (hs : starEach (a :: es) X.env = (false, eval a X.env) :: starEach es X.env := by rfl) : DA X W (a :: es) (sCons fa fr) :=
  PA.of (pa_cons ha hr hs) fun σ H Q => by
    rintro ⟨P, F, m, e, h, S, E, fin⟩
    refine rd_seq S E fin fun F1 m1 h1 H1 x dx x1 S1 E1 r1 fin1 => ?_
    refine rd_seq S1 E1 fin1 fun F2 m2 h2 H2 y dy x2 S2 E2 r2 fin2 => ?_
    exact fin2.ok S2 (.cons (r1.mono x2) r2)
def sTup (a : SA) : SE := fun e h => (a e h).bind fun xs h1 => if xs.length ≤ big then .ok (.tup xs) h1 else .bad
def sLst (a : SA) : SE := fun e h => (a e h).bind fun xs h1 => if xs.length ≤ big then .ok (.lst xs) h1 else .bad
/-- .. as an own object -/
def sLstO (a : SA) : SE := fun e h => (a e h).bind fun xs h1 => if xs.length ≤ big then .ok (.ref h1.length) (h1 ++ [.lst xs]) else .bad
theorem de_tup {es : List Expr} {j : Nat} {pos : Pos} {fa : SA} (ha : DA X W es fa) : DE X W (.Tuple es j pos) (sTup fa) := PE.of (pe_tup ha) fun σ H Q => by
  rintro ⟨P, F, m, e, h, S, E, fin⟩
  refine rd_seq S E fin fun F1 m1 h1 H1 x dx x1 S1 E1 r1 fin1 => ?_
  by_cases hz : dx.length ≤ big
  · rw [if_pos hz] at fin1
    exact ⟨by rw [r1.length]; exact big_line hz, fun p hp => fin1.newT S1 r1 hp⟩
  · rw [if_neg hz] at fin1
    exact fin1.bad_elim
theorem de_lst {es : List Expr} {pos : Pos} {fa : SA} (ha : DA X W es fa) : DE X W (.List es pos) (sLst fa) := PE.of (pe_lst ha) fun σ H Q => by
  rintro ⟨P, F, m, e, h, S, E, fin⟩
  refine rd_seq S E fin fun F1 m1 h1 H1 x dx x1 S1 E1 r1 fin1 => ?_
  by_cases hz : dx.length ≤ big
  · rw [if_pos hz] at fin1
    exact ⟨by rw [r1.length]; exact big_line hz, fun p hp => fin1.newL S1 r1 hp⟩
  · rw [if_neg hz] at fin1
    exact fin1.bad_elim
/-- a new own list -/
theorem FinG.ownL {K : PySem.W.Frag} {P : Pins} {F : Hp} {m : List Addr} {h : OH} {H : Hp} {σ : St} {Q : VK} {vs : List V} {xs : List D} {p : Addr} (fin : FinG K P W σ (Den K) Q F m (.ok (.ref h.length) (h ++ [.lst xs]))) (S : Sim K P F m h H) (r : DenL K F m vs xs) (hp : H p = none) : Q (.ref p) (upd H p (.lst vs)) :=
  fin.okX ext_new (S.alloc hp ⟨vs, upd_same, r.mono ext_new, S.free hp⟩) (.ref (by rw [← S.len]; simp))
theorem de_lstO {es : List Expr} {pos : Pos} {fa : SA} (ha : DA X W es fa) : DE X W (.List es pos) (sLstO fa) := PE.of (pe_lst ha) fun σ H Q => by
  rintro ⟨P, F, m, e, h, S, E, fin⟩
  refine rd_seq S E fin fun F1 m1 h1 H1 x dx x1 S1 E1 r1 fin1 => ?_
  by_cases hz : dx.length ≤ big
  · rw [if_pos hz] at fin1
    exact ⟨by rw [r1.length]; exact big_line hz, fun p hp => fin1.ownL S1 r1 hp⟩
  · rw [if_neg hz] at fin1
    exact fin1.bad_elim
end
end HR
set_option Elab.async false
set_option linter.all false
set_option maxRecDepth 100000
set_option maxHeartbeats 2000000
/-! LayC: tests, equality, subscripts, slices, calls of built-ins, attributes, methods of lists. -/
namespace HR
open PySem L2
/-! ### data as a whole -/
mutual
def pyG (get : Nat → Option (List PyData)) : D → Option PyData
  | .non => some .none
  | .bl b => some (.bool b)
  | .int i => some (.int i)
  | .str x => some (.str x)
  | .lst xs => (pyGL get xs).map .list
  | .scr xs => (pyGL get xs).map .list
  | .tup xs => (pyGL get xs).map .tuple
  | .ref i => (get i).map .list
  | .dct _ => none
  | .obj _ _ => none
  | .exc _ => none
  | .excf _ _ _ => none
def pyGL (get : Nat → Option (List PyData)) : List D → Option (List PyData)
  | [] => some []
  | x :: xs => match pyG get x, pyGL get xs with
    | some d, some ds => some (d :: ds)
    | _, _ => none
end
def pyGet (h : OH) : Nat → Nat → Option (List PyData)
  | 0, _ => none
  | n + 1, i => match h[i]? with
    | some (.lst xs) => pyGL (pyGet h n) xs
    | _ => none
/-- what a value is to == and repr -/
def pyAt (h : OH) (d : D) : Option PyData := pyG (pyGet h 4) d
section
variable {K : PySem.W.Frag} {P : Pins} {F : Hp} {m : List Addr} {h : OH} {H : Hp}
theorem dp_of (S : Sim K P F m h H) {get : Nat → Option (List PyData)} (hg : ∀ i a ds, m[i]? = some a → get i = some ds → ∃ vs, H a = some (.lst vs) ∧ DpAll K H vs ds) {v : V} {d : D} (r : Den K F m v d) : ∀ p, pyG get d = some p → Dp K H v p :=
  Den.rec (motive_1 := fun v d _ => ∀ p, pyG get d = some p → Dp K H v p) (motive_2 := fun vs ds _ => ∀ ps, pyGL get ds = some ps → DpAll K H vs ps) (motive_3 := fun _ _ _ => True) (motive_4 := fun _ _ _ => True)
    (fun p e => by simp only [pyG, Option.some.injEq] at e; subst e; exact .non) (fun b p e => by simp only [pyG, Option.some.injEq] at e; subst e; exact .bl b)
    (fun i p e => by simp only [pyG, Option.some.injEq] at e; subst e; exact .int i) (fun x p e => by simp only [pyG, Option.some.injEq] at e; subst e; exact .str x)
    (fun q _ ih p e => by
      simp only [pyG, Option.map_eq_some_iff] at e
      obtain ⟨ps, e1, e2⟩ := e
      subst e2
      exact .lst (.inl (.inl (S.sub _ _ q))) (ih ps e1))
    (fun q _ ih p e => by
      simp only [pyG, Option.map_eq_some_iff] at e
      obtain ⟨ps, e1, e2⟩ := e
      subst e2
      exact .lst (S.sub.seq q) (ih ps e1))
    (fun q _ ih p e => by
      simp only [pyG, Option.map_eq_some_iff] at e
      obtain ⟨ps, e1, e2⟩ := e
      subst e2
      exact .tup (.inl (.inl (S.sub _ _ q))) (ih ps e1))
    (fun _ _ _ p e => by simp only [pyG] at e; cases e) (fun _ _ _ _ p e => by simp only [pyG] at e; cases e)
    (fun {a i} q p e => by
      simp only [pyG, Option.map_eq_some_iff] at e
      obtain ⟨ps, e1, e2⟩ := e
      subst e2
      obtain ⟨vs, k1, k2⟩ := hg i a ps q e1
      exact .lst (.inl (.inl k1)) k2)
    (fun _ p e => by simp only [pyG] at e; cases e) (fun _ _ _ _ p e => by simp only [pyG] at e; cases e)
    (fun ps e => by simp only [pyGL, Option.some.injEq] at e; subst e; exact .nil)
    (fun {v d vs ds} _ _ ih1 ih2 ps e => by
      simp only [pyGL] at e
      cases e1 : pyG get d with
      | none => rw [e1] at e; simp at e
      | some p =>
        cases e2 : pyGL get ds with
        | none => rw [e1, e2] at e; simp at e
        | some qs =>
          rw [e1, e2] at e
          simp only [Option.some.injEq] at e
          subst e
          exact .cons (ih1 p e1) (ih2 qs e2))
    trivial (fun _ _ _ _ => trivial) trivial (fun _ _ _ _ => trivial) r
theorem dpL_of (S : Sim K P F m h H) {get : Nat → Option (List PyData)} (hg : ∀ i a ds, m[i]? = some a → get i = some ds → ∃ vs, H a = some (.lst vs) ∧ DpAll K H vs ds) : ∀ {vs : List V} {ds : List D}, DenL K F m vs ds → ∀ ps, pyGL get ds = some ps → DpAll K H vs ps
  | _, _, .nil, ps, e => by simp only [pyGL, Option.some.injEq] at e; subst e; exact .nil
  | _, d :: ds, .cons a b, ps, e => by
    simp only [pyGL] at e
    cases e1 : pyG get d with
    | none => rw [e1] at e; simp at e
    | some p =>
      cases e2 : pyGL get ds with
      | none => rw [e1, e2] at e; simp at e
      | some qs =>
        rw [e1, e2] at e
        simp only [Option.some.injEq] at e
        subst e
        exact .cons (dp_of S hg a p e1) (dpL_of S hg b qs e2)
theorem pyGet_ok (S : Sim K P F m h H) : ∀ n i a ds, m[i]? = some a → pyGet h n i = some ds → ∃ vs, H a = some (.lst vs) ∧ DpAll K H vs ds
  | 0, _, _, _, _, e => by simp [pyGet] at e
  | n + 1, i, a, ds, e1, e => by
    obtain ⟨o, h1, h2⟩ := S.own e1
    simp only [pyGet, h1] at e
    cases o with
    | lst xs =>
      obtain ⟨vs, k1, k2, _⟩ := h2
      exact ⟨vs, k1, dpL_of S (fun j b es q1 q2 => pyGet_ok S n j b es q1 q2) k2 ds e⟩
    | _ => cases e
theorem pyAt_ok (S : Sim K P F m h H) {v : V} {d : D} {p : PyData} (r : Den K F m v d) (e : pyAt h d = some p) : Dp K H v p := dp_of S (fun i a ds q1 q2 => pyGet_ok S 4 i a ds q1 q2) r p e
end
@[simp] theorem pyAt_int {h : OH} {i : Int} : pyAt h (.int i) = some (.int i) := by simp [pyAt, pyG]
@[simp] theorem pyAt_bl {h : OH} {b : Bool} : pyAt h (.bl b) = some (.bool b) := by simp [pyAt, pyG]
@[simp] theorem pyAt_str {h : OH} {x : Str} : pyAt h (.str x) = some (.str x) := by simp [pyAt, pyG]
@[simp] theorem pyAt_non {h : OH} : pyAt h .non = some .none := by simp [pyAt, pyG]
section
variable {X : Cx} {W : WX}
def opEq (neg : Bool) : D → D → OH → Res D := fun a b h => match pyAt h a, pyAt h b with
  | some p, some q => if SeqAt.shaped p && SeqAt.shaped q then .ok (.bl (if neg then !PyData.eqv p q else PyData.eqv p q)) h else .bad
  | _, _ => .bad
theorem opEq_h (neg : Bool) : OpH X.K W (opEq neg) (if neg then rNeD X.K else rEqD X.K) := by
  intro P F m h H σ Q x y dx dy S r1 r2 fin
  dsimp only [opEq] at fin
  cases e1 : pyAt h dx with
  | none => rw [e1] at fin; exact fin.bad_elim
  | some p =>
    cases e2 : pyAt h dy with
    | none => rw [e1, e2] at fin; exact fin.bad_elim
    | some q =>
      rw [e1, e2] at fin
      dsimp only at fin
      by_cases hs : (SeqAt.shaped p && SeqAt.shaped q) = true
      · rw [if_pos hs] at fin
        obtain ⟨s1, s2⟩ := and2 hs
        cases neg with
        | true => exact ⟨p, q, pyAt_ok S r1 e1, pyAt_ok S r2 e2, s1, s2, fin.ok S (.bl _)⟩
        | false => exact ⟨p, q, pyAt_ok S r1 e1, pyAt_ok S r2 e2, s1, s2, fin.ok S (.bl _)⟩
      · rw [if_neg hs] at fin
        exact fin.bad_elim
theorem de_eq {a b : Expr} {pos : Pos} {fa fb : SE} (hu : X.A.units + 64 < cLine) (ha : DE X W a fa) (hb : DE X W b fb) : DE X W (.Compare a [.Eq] [b] pos) (sBin (opEq false) fa fb) := de_cmp (op_eqD hu) (opEq_h false) (nomark _) ha hb
/-! ### in -/
end
/-! ### tests -/
def sTest (f : SE) : ST := fun e h => (f e h).bind fun d h1 => match d with
  | .bl b => .ok b h1
  | _ => .bad
def sAnd (a b : ST) : ST := fun e h => (a e h).bind fun c h1 => if c then b e h1 else .ok false h1
def sOr (a b : ST) : ST := fun e h => (a e h).bind fun c h1 => if c then .ok true h1 else b e h1
def sNot (a : ST) : ST := fun e h => (a e h).bind fun c h1 => .ok (!c) h1
/-- a test as a value -/
def sVal (a : ST) : SE := fun e h => (a e h).bind fun c h1 => .ok (.bl c) h1
def sIf (c : ST) (a b : SE) : SE := fun e h => (c e h).bind fun t h1 => if t then a e h1 else b e h1
section
variable {X : Cx} {W : WX}
theorem rd_test {f : SE} {σ : St} {H : Hp} {Q : Bool → Hp → Prop} (q : rdG X.K W relB (sTest f) σ H Q) : tTest (rdG X.K W (Den X.K) f) σ H Q := by
  obtain ⟨P, F, m, e, h, S, E, fin⟩ := q
  refine rd_seq S E fin fun F1 m1 h1 H1 x dx x1 S1 E1 r1 fin1 => ?_
  cases r1 with
  | bl b => exact ⟨b, rfl, fin1.ok S1 rfl⟩
  | _ => exact fin1.bad_elim
/-- a call, a name, an attribute, an item as a test -/
theorem dt_val {a : Expr} {f : SE} (ha : DE X W a f) (he : ∀ whole, isTrue a X.env whole = (do let v ← whole; standAt a.pos; holding [v] (truthy v)) := by intro _; rfl) : DT X W a (sTest f) := PT.of (pt_val ha he) fun _ _ _ => rd_test
theorem dt_cmp {a b : Expr} {op : CmpOp} {pos : Pos} {g : D → D → OH → Res D} {r : R2} {fa fb : SE} (ho : OpR X (compareOp op) r) (hg : OpH X.K W g r) (hm : behindInMarks op b = false) (ha : DE X W a fa) (hb : DE X W b fb) : DT X W (.Compare a [op] [b] pos) (sTest (sBin g fa fb)) :=
  PT.of (pt_cmpR ho ha hb hm) fun σ H Q q => by
    obtain ⟨P, F, m, e, h, S, E, fin⟩ := q
    have key : rdG X.K W (Den X.K) (sBin g fa fb) σ H (fun x H' => ∃ k, x = .bl k ∧ Q k H') := rd_test ⟨P, F, m, e, h, S, E, fin⟩
    exact rd_op hg key
theorem dt_eq {a b : Expr} {pos : Pos} {fa fb : SE} (hu : X.A.units + 64 < cLine) (ha : DE X W a fa) (hb : DE X W b fb) : DT X W (.Compare a [.Eq] [b] pos) (sTest (sBin (opEq false) fa fb)) := dt_cmp (op_eqD hu) (opEq_h false) (nomark _) ha hb
theorem dt_ne {a b : Expr} {pos : Pos} {fa fb : SE} (hu : X.A.units + 64 < cLine) (ha : DE X W a fa) (hb : DE X W b fb) : DT X W (.Compare a [.NotEq] [b] pos) (sTest (sBin (opEq true) fa fb)) := dt_cmp (op_neD hu) (opEq_h true) (nomark _) ha hb
theorem dt_lt {a b : Expr} {pos : Pos} {fa fb : SE} (ha : DE X W a fa) (hb : DE X W b fb) : DT X W (.Compare a [.Lt] [b] pos) (sTest (sBin opLt fa fb)) := dt_cmp op_lt (opI2_h0 fun _ _ _ _ => .bl _) (nomark _) ha hb
theorem dt_gt {a b : Expr} {pos : Pos} {fa fb : SE} (ha : DE X W a fa) (hb : DE X W b fb) : DT X W (.Compare a [.Gt] [b] pos) (sTest (sBin opGt fa fb)) := dt_cmp op_gt (opI2_h0 fun _ _ _ _ => .bl _) (nomark _) ha hb
theorem dt_ge {a b : Expr} {pos : Pos} {fa fb : SE} (ha : DE X W a fa) (hb : DE X W b fb) : DT X W (.Compare a [.GtE] [b] pos) (sTest (sBin opGe fa fb)) := dt_cmp op_ge (opI2_h0 fun _ _ _ _ => .bl _) (nomark _) ha hb
theorem dt_is {a b : Expr} {pos : Pos} {fa fb : SE} (ha : DE X W a fa) (hb : DE X W b fb) : DT X W (.Compare a [.Is] [b] pos) (sTest (sBin (opIs false) fa fb)) := dt_cmp op_isN opIs_h (nomark _) ha hb
theorem dt_isnot {a b : Expr} {pos : Pos} {fa fb : SE} (ha : DE X W a fa) (hb : DE X W b fb) : DT X W (.Compare a [.IsNot] [b] pos) (sTest (sBin (opIs true) fa fb)) := dt_cmp op_notN opIsNot_h (nomark _) ha hb
theorem DW.dt {a : Expr} {f : ST} (h : DW X W a f) : DT X W a f := PW.pt h
theorem PW.of {e : Expr} {t t' : TT} (h : PW X e t) (w : ∀ σ H Q, t' σ H Q → t σ H Q) : PW X e t' := ⟨fun wh pins s σ H Q I q => h.run wh pins s σ H Q I (w σ H Q q)⟩
theorem dw_and1 {a : Expr} {f : ST} {pos : Pos} (ha : DT X W a f) : DW X W (.BoolOp .And [a] pos) f := pw_and1 ha
theorem dw_or1 {a : Expr} {f : ST} {pos : Pos} (ha : DT X W a f) : DW X W (.BoolOp .Or [a] pos) f := pw_or1 ha
theorem dw_and {a b : Expr} {rest : List Expr} {f g : ST} {pos : Pos} (ha : DT X W a f) (hb : DW X W (.BoolOp .And (b :: rest) pos) g) : DW X W (.BoolOp .And (a :: b :: rest) pos) (sAnd f g) := PW.of (pw_and ha hb) fun σ H Q => by
  rintro ⟨P, F, m, e, h, S, E, fin⟩
  refine rd_seq S E fin fun F1 m1 h1 H1 x dx x1 S1 E1 r1 fin1 => ?_
  have r1 : x = dx := r1
  subst r1
  cases x with
  | true => exact ⟨P, F1, m1, e, h1, S1, E1, fin1⟩
  | false => exact fin1.ok S1 rfl
theorem dw_or {a b : Expr} {rest : List Expr} {f g : ST} {pos : Pos} (ha : DT X W a f) (hb : DW X W (.BoolOp .Or (b :: rest) pos) g) : DW X W (.BoolOp .Or (a :: b :: rest) pos) (sOr f g) := PW.of (pw_or ha hb) fun σ H Q => by
  rintro ⟨P, F, m, e, h, S, E, fin⟩
  refine rd_seq S E fin fun F1 m1 h1 H1 x dx x1 S1 E1 r1 fin1 => ?_
  have r1 : x = dx := r1
  subst r1
  cases x with
  | true => exact fin1.ok S1 rfl
  | false => exact ⟨P, F1, m1, e, h1, S1, E1, fin1⟩
theorem dt_not {a : Expr} {f : ST} {pos : Pos} (ha : DT X W a f) : DT X W (.UnaryOp .Not a pos) (sNot f) := PT.of (pt_not ha) fun σ H Q => by
  rintro ⟨P, F, m, e, h, S, E, fin⟩
  refine rd_seq S E fin fun F1 m1 h1 H1 x dx x1 S1 E1 r1 fin1 => ?_
  have r1 : x = dx := r1
  subst r1
  exact fin1.ok S1 rfl
/-- and, or, not as values -/
theorem de_one {a : Expr} {op : BoolOp} {f : SE} {pos : Pos} (ha : DE X W a f) : DE X W (.BoolOp op [a] pos) f := pe_one ha
def sAndV (a b : SE) : SE := fun e h => (a e h).bind fun d h1 => match d with
  | .bl true => b e h1
  | .bl false => .ok (.bl false) h1
  | _ => .bad
def sOrV (a b : SE) : SE := fun e h => (a e h).bind fun d h1 => match d with
  | .bl true => .ok (.bl true) h1
  | .bl false => b e h1
  | _ => .bad
def sNotV (a : SE) : SE := fun e h => (a e h).bind fun d h1 => match d with
  | .bl b => .ok (.bl (!b)) h1
  | _ => .bad
theorem de_and {a b : Expr} {rest : List Expr} {f g : SE} {pos : Pos} (ha : DE X W a f) (hb : DE X W (.BoolOp .And (b :: rest) pos) g) : DE X W (.BoolOp .And (a :: b :: rest) pos) (sAndV f g) := PE.of (pe_and ha hb) fun σ H Q => by
  rintro ⟨P, F, m, e, h, S, E, fin⟩
  refine rd_seq S E fin fun F1 m1 h1 H1 x dx x1 S1 E1 r1 fin1 => ?_
  cases r1 with
  | bl b =>
    cases b with
    | true => exact ⟨true, rfl, P, F1, m1, e, h1, S1, E1, fin1⟩
    | false => exact ⟨false, rfl, fin1.ok S1 (.bl _)⟩
  | _ => exact fin1.bad_elim
theorem de_or {a b : Expr} {rest : List Expr} {f g : SE} {pos : Pos} (ha : DE X W a f) (hb : DE X W (.BoolOp .Or (b :: rest) pos) g) : DE X W (.BoolOp .Or (a :: b :: rest) pos) (sOrV f g) := PE.of (pe_or ha hb) fun σ H Q => by
  rintro ⟨P, F, m, e, h, S, E, fin⟩
  refine rd_seq S E fin fun F1 m1 h1 H1 x dx x1 S1 E1 r1 fin1 => ?_
  cases r1 with
  | bl b =>
    cases b with
    | true => exact ⟨true, rfl, fin1.ok S1 (.bl _)⟩
    | false => exact ⟨false, rfl, P, F1, m1, e, h1, S1, E1, fin1⟩
  | _ => exact fin1.bad_elim
theorem de_if {c a b : Expr} {fc : ST} {fa fb : SE} {pos : Pos} (hc : DT X W c fc) (ha : DE X W a fa) (hb : DE X W b fb) : DE X W (.IfExp c a b pos) (sIf fc fa fb) := PE.of (pe_ifExp hc ha hb) fun σ H Q => by
  rintro ⟨P, F, m, e, h, S, E, fin⟩
  refine rd_seq S E fin fun F1 m1 h1 H1 x dx x1 S1 E1 r1 fin1 => ?_
  have r1 : x = dx := r1
  subst r1
  cases x with
  | true => exact ⟨P, F1, m1, e, h1, S1, E1, fin1⟩
  | false => exact ⟨P, F1, m1, e, h1, S1, E1, fin1⟩
theorem rd_chain {g g' : D → D → OH → Res D} {r r' : R2} (hg : OpH X.K W g r) (hg' : OpH X.K W g' r') {fa fb fc : SE} {σ : St} {H : Hp} {Q : VK} (q : rdG X.K W (Den X.K) (sChain g g' fa fb fc) σ H Q) :
    tChain r r' (rdG X.K W (Den X.K) fa) (rdG X.K W (Den X.K) fb) (rdG X.K W (Den X.K) fc) σ H Q := by
  obtain ⟨P, F, m, e, h, S, E, fin⟩ := q
  refine rd_seq S E fin fun F1 m1 h1 H1 x dx x1 S1 E1 r1 fin1 => ?_
  refine rd_seq S1 E1 fin1 fun F2 m2 h2 H2 y dy x2 S2 E2 r2 fin2 => ?_
  refine hg P F2 m2 h2 H2 σ _ x y dx dy S2 (r1.mono x2) r2 ?_
  cases q : g dx dy h2 with
  | bad => rw [q] at fin2; exact fin2
  | exc C p h3 => rw [q] at fin2; exact fin2
  | ok z h3 =>
    rw [q] at fin2
    intro v F3 m3 H3 x3 S3 r3
    cases r3 with
    | bl b =>
      refine ⟨b, rfl, ?_⟩
      cases b with
      | true =>
        rw [if_pos rfl]
        refine rd_seq S3 ((E2.mono x3)) (FinG.weak x3 fin2) fun F4 m4 h4 H4 u du x4 S4 E4 r4 fin4 => ?_
        exact hg' P F4 m4 h4 H4 σ Q y u dy du S4 (r2.mono (x3.trans x4)) r4 fin4
      | false =>
        rw [if_neg Bool.false_ne_true]
        exact FinG.okX fin2 x3 S3 (.bl _)
    | _ => exact FinG.bad_elim fin2
theorem de_chain {a b c : Expr} {op op' : CmpOp} {pos : Pos} {g g' : D → D → OH → Res D} {r r' : R2} {fa fb fc : SE} (ho : OpR X (compareOp op) r) (ho' : OpR X (compareOp op') r') (hg : OpH X.K W g r) (hg' : OpH X.K W g' r') (ha : DE X W a fa) (hb : DE X W b fb) (hc : DE X W c fc)
    (hm : lastMarks [op, op'] [b, c] = false := by with_unfolding_all rfl) : DE X W (.Compare a [op, op'] [b, c] pos) (sChain g g' fa fb fc) := PE.of (pe_chain ho ho' ha hb hc hm) fun _ _ _ => rd_chain hg hg'
theorem de_lele {a b c : Expr} {pos : Pos} {fa fb fc : SE} (ha : DE X W a fa) (hb : DE X W b fb) (hc : DE X W c fc) (hm : lastMarks [.LtE, .LtE] [b, c] = false := by with_unfolding_all rfl) : DE X W (.Compare a [.LtE, .LtE] [b, c] pos) (sChain opLe opLe fa fb fc) :=
  de_chain op_le op_le (opI2_h0 fun _ _ _ _ => .bl _) (opI2_h0 fun _ _ _ _ => .bl _) ha hb hc hm
/-! ### subscripts, slices -/
def opIx : D → D → OH → Res D := fun a b h => match b with
  | .int i => (match a with
    | .str z => if z.length ≤ big then (match atI z.cps.toList i with
      | some c => .ok (.str ⟨#[c]⟩) h
      | none => .bad) else .bad
    | a => match seqAt h a with
      | some xs => (match atI xs i with
        | some d => .ok d h
        | none => .bad)
      | none => .bad)
  | _ => .bad
theorem atI_den {K : PySem.W.Frag} {F : Hp} {m : List Addr} {vs : List V} {ds : List D} {i : Int} {d : D} (r : DenL K F m vs ds) (e : atI ds i = some d) : ∃ v, atI vs i = some v ∧ Den K F m v d := by
  unfold atI at e ⊢
  rw [r.length]
  cases q : ixN ds.length i with
  | none => rw [q] at e; simp at e
  | some j =>
    rw [q] at e
    simp only [Option.bind_some] at e ⊢
    exact r.get e
theorem opIx_h : OpH X.K W opIx (rIx X.K) := by
  intro P F m h H σ Q x y dx dy S r1 r2 fin
  cases r2 with
  | int i =>
    have seqs : ∀ {a : D}, Den X.K F m x a → FinG X.K P W σ (Den X.K) Q F m (match seqAt h a with
      | some xs => (match atI xs i with
        | some d => .ok d h
        | none => .bad)
      | none => .bad) → rIx X.K x (.int i) H Q := by
      intro a q fin
      cases e : seqAt h a with
      | none => rw [e] at fin; exact fin.bad_elim
      | some xs =>
        rw [e] at fin
        dsimp only at fin
        obtain ⟨l, vs, rfl, hl, rl⟩ := seqAt_ok S q e
        cases e2 : atI xs i with
        | none => rw [e2] at fin; exact fin.bad_elim
        | some d =>
          rw [e2] at fin
          obtain ⟨v, e3, r3⟩ := atI_den rl e2
          rcases hl with hl | hl
          · exact .inl ⟨l, vs, i, v, rfl, rfl, hl, e3, fin.ok S r3⟩
          · exact .inr (.inl ⟨l, vs, i, v, rfl, rfl, hl, e3, fin.ok S r3⟩)
    cases dx with
    | str z =>
      cases den_str r1
      dsimp only [opIx] at fin
      by_cases hz : z.length ≤ big
      · rw [if_pos hz] at fin
        cases e : atI z.cps.toList i with
        | none => rw [e] at fin; exact fin.bad_elim
        | some c =>
          rw [e] at fin
          exact .inr (.inr ⟨z, i, c, rfl, rfl, big_line hz, e, fin.ok S (.str _)⟩)
      · rw [if_neg hz] at fin
        exact fin.bad_elim
    | _ => exact seqs r1 fin
  | _ => exact fin.bad_elim
theorem de_ix {a b : Expr} {pos : Pos} {fa fb : SE} (ha : DE X W a fa) (hb : DE X W b fb) (hs : PlainIx b := by exact fun _ _ => rfl) : DE X W (.Subscript a b pos) (sBin opIx fa fb) := PE.of (pe_ix ix_seq ha hb hs) fun _ _ _ => rd_op opIx_h
abbrev SO := Env' → OH → Res (Option Int)
abbrev relO : Rel (Option Int) (Option Int) := fun _ _ b c => b = c
abbrev DO (X : Cx) (W : WX) (e : Option Expr) (f : SO) : Prop := PO X e (rdG X.K W relO f)
def sNoPart : SO := fun _ h => .ok none h
def sPart (f : SE) : SO := fun e h => (f e h).bind fun d h1 => match d with
  | .int i => .ok (some i) h1
  | _ => .bad
theorem PO.of {e : Option Expr} {t t' : TO} (h : PO X e t) (w : ∀ σ H Q, t' σ H Q → t σ H Q) : PO X e t' := by
  obtain ⟨h⟩ := h
  constructor
  intros
  first
    | (apply h <;> first | assumption | (apply w; assumption))
theorem do_none : DO X W none sNoPart := PO.of po_none fun σ H Q => by
  rintro ⟨P, F, m, e, h, S, E, fin⟩
  exact fin.ok S rfl
theorem do_some {a : Expr} {f : SE} (ha : DE X W a f) : DO X W (some a) (sPart f) := PO.of (po_some ha) fun σ H Q => by
  rintro ⟨P, F, m, e, h, S, E, fin⟩
  refine rd_seq S E fin fun F1 m1 h1 H1 x dx x1 S1 E1 r1 fin1 => ?_
  cases r1 with
  | int i => exact ⟨i, rfl, fin1.ok S1 rfl⟩
  | _ => exact fin1.bad_elim
def cutD (xs : List D) (lo hi : Option Int) : List D := (xs.drop (HT.sIx xs.length 0 lo)).take (HT.sIx xs.length xs.length hi - HT.sIx xs.length 0 lo)
theorem cut_den {K : PySem.W.Frag} {F : Hp} {m : List Addr} {vs : List V} {ds : List D} (r : DenL K F m vs ds) (lo hi : Option Int) : DenL K F m (cutV vs lo hi) (cutD ds lo hi) := by
  unfold cutV cutD
  rw [r.length]
  exact (r.drop _).take _
def opCut (own : Bool) (a : D) (lo hi : Option Int) (h : OH) : Res D := match lsqAt h a with
  | some xs => if own then .ok (.ref h.length) (h ++ [.lst (cutD xs lo hi)]) else .ok (.lst (cutD xs lo hi)) h
  | none => (match a with
    | .tup xs => if ¬ (HT.sIx xs.length 0 lo = 0 ∧ HT.sIx xs.length xs.length hi = xs.length) then .ok (.tup (cutD xs lo hi)) h else .bad
    | _ => .bad)
def sCut (own : Bool) (a : SE) (lo hi : SO) : SE := fun e h => (a e h).bind fun x h1 => (lo e h1).bind fun l h2 => (hi e h2).bind fun u h3 => opCut own x l u h3
theorem de_cut {a : Expr} {lo hi : Option Expr} {p2 pos : Pos} {fa : SE} {fl fu : SO} (own : Bool) (ha : DE X W a fa) (hl : DO X W lo fl) (hh : DO X W hi fu) : DE X W (.Subscript a (.Slice lo hi none p2) pos) (sCut own fa fl fu) :=
  PE.of (pe_slice (sl_list.or sl_tup) ha hl hh) fun σ H Q => by
    rintro ⟨P, F, m, e, h, S, E, fin⟩
    refine rd_seq S E fin fun F1 m1 h1 H1 x dx x1 S1 E1 r1 fin1 => ?_
    refine rd_seq S1 E1 fin1 fun F2 m2 h2 H2 l dl x2 S2 E2 r2 fin2 => ?_
    refine rd_seq S2 E2 fin2 fun F3 m3 h3 H3 u du x3 S3 E3 r3 fin3 => ?_
    have r2 : l = dl := r2
    have r3 : u = du := r3
    subst r2 r3
    have r4 := r1.mono (x2.trans x3)
    unfold opCut at fin3
    cases q : lsqAt h3 dx with
    | some xs =>
      rw [q] at fin3
      obtain ⟨c, vs, rfl, hc, rc⟩ := lsqAt_ok S3 r4 q
      refine .inl ⟨c, vs, rfl, hc, fun p hp => ?_⟩
      cases own with
      | true => exact FinG.ownL fin3 S3 (cut_den rc l u) hp
      | false => exact FinG.newL fin3 S3 (cut_den rc l u) hp
    | none =>
      rw [q] at fin3
      cases r4 with
      | tup ct tt =>
        dsimp only at fin3
        rename_i c vs ds
        by_cases hz : HT.sIx ds.length 0 l = 0 ∧ HT.sIx ds.length ds.length u = ds.length
        · rw [if_neg fun z => z hz] at fin3
          exact fin3.bad_elim
        · rw [if_pos hz] at fin3
          refine .inr ⟨c, vs, rfl, .inl (.inl (S3.sub _ _ ct)), ?_, fun p hp => fin3.newT S3 (cut_den tt l u) hp⟩
          rw [tt.length]
          exact hz
      | _ => exact fin3.bad_elim
/-! ### calls of built-ins -/
def sCall (g : List D → OH → Res D) (a : SA) : SE := fun e h => (a e h).bind g
def ClH (K : PySem.W.Frag) (W : WX) (g : List D → OH → Res D) (r : List V → Hp → VK → Prop) : Prop :=
  ∀ (P : Pins) (F : Hp) (m : List Addr) (h : OH) (H : Hp) (σ : St) (Q : VK) (vs : List V) (ds : List D), Sim K P F m h H → DenL K F m vs ds → FinG K P W σ (Den K) Q F m (g ds h) → r vs H Q
theorem rd_call {g : List D → OH → Res D} {r : List V → Hp → VK → Prop} (hg : ClH X.K W g r) {fa : SA} {σ : St} {H : Hp} {Q : VK} (q : rdG X.K W (Den X.K) (sCall g fa) σ H Q) : tCB r (rdG X.K W (DenL X.K) fa) σ H Q := by
  obtain ⟨P, F, m, e, h, S, E, fin⟩ := q
  exact rd_seq S E fin fun F1 m1 h1 H1 x dx x1 S1 E1 r1 fin1 => hg P F1 m1 h1 H1 σ Q x dx S1 r1 fin1
theorem de_blt {id : String} {g : List D → OH → Res D} {r : List V → Hp → VK → Prop} {x : Str} {p pos : Pos} {a : Expr} {es : List Expr} {fa : SA} (hc : CallR X (.builtin id) r) (hg : ClH X.K W g r) (hx : Gl X x) (hm : X.mg x = none) (hv : bootBuiltins x = some (.builtin id)) (ha : DA X W (a :: es) fa)
    (hn : x ≠ "__name__" := by decide) (hdb : (x == ("__debug__" : Str)) = false := by decide) (he : starEach (a :: es) X.env = (false, eval a X.env) :: starEach es X.env := by rfl) (hpl : (backTo pos (starEach es X.env)).any (·.1) = false := by rfl) : DE X W (.Call (.Name x p) (a :: es) [] pos) (sCall g fa) :=
  PE.of (pe_callB hc hx hm hv ha hn hdb he hpl) fun _ _ _ => rd_call hg
theorem de_bty {T : String} {g : List D → OH → Res D} {r : List V → Hp → VK → Prop} {x : Str} {p pos : Pos} {a : Expr} {es : List Expr} {fa : SA} (hc : CallR X (.type T) r) (hg : ClH X.K W g r) (hx : Gl X x) (hm : X.mg x = none) (hv : bootBuiltins x = some (.type T)) (ha : DA X W (a :: es) fa)
    (hn : x ≠ "__name__" := by decide) (hdb : (x == ("__debug__" : Str)) = false := by decide) (he : starEach (a :: es) X.env = (false, eval a X.env) :: starEach es X.env := by rfl) (hpl : (backTo pos (starEach es X.env)).any (·.1) = false := by rfl) : DE X W (.Call (.Name x p) (a :: es) [] pos) (sCall g fa) :=
  PE.of (pe_callTy hc hx hm hv ha hn hdb he hpl) fun _ _ _ => rd_call hg
theorem denL1 {K : PySem.W.Frag} {F : Hp} {m : List Addr} {vs : List V} {d : D} (r : DenL K F m vs [d]) : ∃ v, vs = [v] ∧ Den K F m v d := by
  cases r with
  | cons a b =>
    cases b
    exact ⟨_, rfl, a⟩
theorem denL2 {K : PySem.W.Frag} {F : Hp} {m : List Addr} {vs : List V} {d d2 : D} (r : DenL K F m vs [d, d2]) : ∃ v v2, vs = [v, v2] ∧ Den K F m v d ∧ Den K F m v2 d2 := by
  cases r with
  | cons a b =>
    obtain ⟨v2, rfl, r2⟩ := denL1 b
    exact ⟨_, v2, rfl, a, r2⟩
def b1 (f : D → OH → Res D) : List D → OH → Res D
  | [d], h => f d h
  | _, _ => .bad
def b2 (f : D → D → OH → Res D) : List D → OH → Res D
  | [d, d2], h => f d d2 h
  | _, _ => .bad
theorem b1_inv {f : D → OH → Res D} {P : Pins} {F : Hp} {m : List Addr} {h : OH} {σ : St} {Q : VK} {vs : List V} {ds : List D} (r : DenL X.K F m vs ds) (fin : FinG X.K P W σ (Den X.K) Q F m (b1 f ds h)) : ∃ v d, vs = [v] ∧ Den X.K F m v d ∧ FinG X.K P W σ (Den X.K) Q F m (f d h) := by
  unfold b1 at fin
  split at fin
  · obtain ⟨v, rfl, r1⟩ := denL1 r
    exact ⟨v, _, rfl, r1, fin⟩
  · exact fin.bad_elim
theorem b2_inv {f : D → D → OH → Res D} {P : Pins} {F : Hp} {m : List Addr} {h : OH} {σ : St} {Q : VK} {vs : List V} {ds : List D} (r : DenL X.K F m vs ds) (fin : FinG X.K P W σ (Den X.K) Q F m (b2 f ds h)) : ∃ v v2 d d2, vs = [v, v2] ∧ Den X.K F m v d ∧ Den X.K F m v2 d2 ∧ FinG X.K P W σ (Den X.K) Q F m (f d d2 h) := by
  unfold b2 at fin
  split at fin
  · obtain ⟨v, v2, rfl, r1, r2⟩ := denL2 r
    exact ⟨v, v2, _, _, rfl, r1, r2, fin⟩
  · exact fin.bad_elim
def opLen : D → OH → Res D
  | .str z, h => if z.length ≤ big then .ok (.int z.length) h else .bad
  | d, h => (match seqAt h d with
    | some xs => .ok (.int xs.length) h
    | none => .bad)
abbrev bLen := b1 opLen
theorem bLen_h : ClH X.K W bLen (fun xs H Q => ∃ x n, xs = [x] ∧ LenV X.K x H n ∧ Q (.int n) H) := by
  intro P F m h H σ Q vs ds S r fin
  obtain ⟨v, d, rfl, r1, fin⟩ := b1_inv r fin
  have seqs : FinG X.K P W σ (Den X.K) Q F m (match seqAt h d with
    | some xs => .ok (.int xs.length) h
    | none => .bad) → ∃ x n, [v] = [x] ∧ LenV X.K x H n ∧ Q (.int n) H := by
    intro fin
    cases e : seqAt h d with
    | none => rw [e] at fin; exact fin.bad_elim
    | some xs =>
      rw [e] at fin
      obtain ⟨a, ws, rfl, ha, rl⟩ := seqAt_ok S r1 e
      refine ⟨_, xs.length, rfl, ?_, fin.ok S (.int _)⟩
      rcases ha with ha | ha
      · exact .inl ⟨ws, ha, rl.length.symm⟩
      · exact .inr ⟨ws, ha, rl.length.symm⟩
  cases d with
  | str z =>
    cases den_str r1
    dsimp only [opLen] at fin
    by_cases hz : z.length ≤ big
    · rw [if_pos hz] at fin
      exact ⟨.str z, z.length, rfl, ⟨big_line hz, rfl⟩, fin.ok S (.int _)⟩
    · rw [if_neg hz] at fin
      exact fin.bad_elim
  | _ => exact seqs fin
theorem de_len {p pos : Pos} {a : Expr} {fa : SE} (hx : Gl X "len") (hm : X.mg "len" = none) (ha : DE X W a fa) (he : starEach [a] X.env = (false, eval a X.env) :: starEach [] X.env := by rfl) : DE X W (.Call (.Name "len" p) [a] [] pos) (sCall bLen (sCons fa sNil)) :=
  de_blt call_len bLen_h hx hm PySem.boot_len (da_cons ha da_nil he) (he := he)
def opAbs : D → OH → Res D
  | .int i, h => .ok (.int (if i < 0 then -i else i)) h
  | _, _ => .bad
theorem bI2_inv {f : Int → Int → Int} {P : Pins} {F : Hp} {m : List Addr} {h : OH} {H : Hp} {σ : St} {Q : VK} {vs : List V} {ds : List D} (S : Sim X.K P F m h H) (r : DenL X.K F m vs ds) (fin : FinG X.K P W σ (Den X.K) Q F m (b2 (opI2 (fun i j => .int (f i j)) fun _ _ => true) ds h)) : ∃ i j, vs = [.int i, .int j] ∧ Q (.int (f i j)) H := by
  obtain ⟨v, v2, d, d2, rfl, r1, r2, fin⟩ := b2_inv r fin
  obtain ⟨i, j, rfl, rfl, q⟩ := opI2_h0 (X := X) (W := W) (g := fun i j => V.int (f i j)) (fun _ _ _ _ => .int _) P F m h H σ Q v v2 d d2 S r1 r2 fin
  exact ⟨i, j, rfl, q⟩
abbrev bMax := b2 (opI2 (fun i j => .int (if j > i then j else i)) fun _ _ => true)
abbrev bMin := b2 (opI2 (fun i j => .int (if j < i then j else i)) fun _ _ => true)
theorem de_max2 {p pos : Pos} {a b : Expr} {fa fb : SE} (hc : X.calm = true) (hx : Gl X "max") (hm : X.mg "max" = none) (ha : DE X W a fa) (hb : DE X W b fb) (he : starEach [a, b] X.env = (false, eval a X.env) :: starEach [b] X.env := by rfl) (he2 : starEach [b] X.env = (false, eval b X.env) :: starEach [] X.env := by rfl)
    (hpl : (backTo pos (starEach [b] X.env)).any (·.1) = false := by rfl) : DE X W (.Call (.Name "max" p) [a, b] [] pos) (sCall bMax (sCons fa (sCons fb sNil))) :=
  de_blt (call_max2 hc) (fun P F m h H σ Q vs ds S r fin => bI2_inv S r fin) hx hm (by decide +kernel) (da_cons ha (da_cons hb da_nil he2) he) (he := he) (hpl := hpl)
theorem de_min2 {p pos : Pos} {a b : Expr} {fa fb : SE} (hc : X.calm = true) (hx : Gl X "min") (hm : X.mg "min" = none) (ha : DE X W a fa) (hb : DE X W b fb) (he : starEach [a, b] X.env = (false, eval a X.env) :: starEach [b] X.env := by rfl) (he2 : starEach [b] X.env = (false, eval b X.env) :: starEach [] X.env := by rfl)
    (hpl : (backTo pos (starEach [b] X.env)).any (·.1) = false := by rfl) : DE X W (.Call (.Name "min" p) [a, b] [] pos) (sCall bMin (sCons fa (sCons fb sNil))) :=
  de_blt (call_min2 hc) (fun P F m h H σ Q vs ds S r fin => bI2_inv S r fin) hx hm (by decide +kernel) (da_cons ha (da_cons hb da_nil he2) he) (he := he) (hpl := hpl)
def opDivmod : D → D → OH → Res D
  | .int i, .int j, h => if divOk i j then .ok (.tup [.int (i / j), .int (i % j)]) h else .bad
  | _, _, _ => .bad
end
end HR
set_option Elab.async false
set_option linter.all false
set_option maxRecDepth 100000
set_option maxHeartbeats 2000000
/-! LayD: further built-ins, isinstance, attributes, methods of lists. -/
namespace HR
open PySem L2
section
variable {X : Cx} {W : WX}
/-! ### int, sum, all, any, list, tuple -/
def opInt : D → OH → Res D
  | .int i, h => .ok (.int i) h
  | .bl b, h => .ok (.int (if b then 1 else 0)) h
  | _, _ => .bad
/-- the ints of a list, if it holds no more -/
def intsOf : List D → Option (List Int)
  | [] => some []
  | .int i :: r => (intsOf r).map (i :: ·)
  | _ => none
def bsOf : List D → Option (List Bool)
  | [] => some []
  | .bl b :: r => (bsOf r).map (b :: ·)
  | _ => none
theorem intsOf_ok {K : PySem.W.Frag} {F : Hp} {m : List Addr} : ∀ {vs : List V} {ds : List D} {ns : List Int}, DenL K F m vs ds → intsOf ds = some ns → vs = ns.map V.int
  | _, _, _, .nil, e => by simp only [intsOf, Option.some.injEq] at e; subst e; rfl
  | _, _, _, .cons (.int i) t, e => by
    simp only [intsOf, Option.map_eq_some_iff] at e
    obtain ⟨ns, e1, e2⟩ := e
    subst e2
    rw [intsOf_ok t e1]
    rfl
  | _, _, _, .cons (.non) _, e | _, _, _, .cons (.bl _) _, e | _, _, _, .cons (.str _) _, e | _, _, _, .cons (.lst _ _) _, e | _, _, _, .cons (.scr _ _) _, e | _, _, _, .cons (.tup _ _) _, e | _, _, _, .cons (.dct _ _) _, e | _, _, _, .cons (.obj _ _ _) _, e | _, _, _, .cons (.ref _) _, e | _, _, _, .cons (.exc _) _, e | _, _, _, .cons (.excf _ _ _) _, e => by simp [intsOf] at e
theorem bsOf_ok {K : PySem.W.Frag} {F : Hp} {m : List Addr} : ∀ {vs : List V} {ds : List D} {ns : List Bool}, DenL K F m vs ds → bsOf ds = some ns → vs = ns.map V.bl
  | _, _, _, .nil, e => by simp only [bsOf, Option.some.injEq] at e; subst e; rfl
  | _, _, _, .cons (.bl b) t, e => by
    simp only [bsOf, Option.map_eq_some_iff] at e
    obtain ⟨ns, e1, e2⟩ := e
    subst e2
    rw [bsOf_ok t e1]
    rfl
  | _, _, _, .cons (.non) _, e | _, _, _, .cons (.int _) _, e | _, _, _, .cons (.str _) _, e | _, _, _, .cons (.lst _ _) _, e | _, _, _, .cons (.scr _ _) _, e | _, _, _, .cons (.tup _ _) _, e | _, _, _, .cons (.dct _ _) _, e | _, _, _, .cons (.obj _ _ _) _, e | _, _, _, .cons (.ref _) _, e | _, _, _, .cons (.exc _) _, e | _, _, _, .cons (.excf _ _ _) _, e => by simp [bsOf] at e
@[simp] theorem intsOf_map (ns : List Int) : intsOf (ns.map D.int) = some ns := by
  induction ns with
  | nil => rfl
  | cons n r ih => simp [intsOf, ih]
@[simp] theorem bsOf_map (ns : List Bool) : bsOf (ns.map D.bl) = some ns := by
  induction ns with
  | nil => rfl
  | cons n r ih => simp [bsOf, ih]
def opSum : D → OH → Res D := fun d h => match (lsqAt h d).bind intsOf with
  | some ns => .ok (.int ns.sum) h
  | none => .bad
theorem lints_inv {P : Pins} {F : Hp} {m : List Addr} {h : OH} {H : Hp} {v : V} {d : D} {ns : List Int} (S : Sim X.K P F m h H) (r : Den X.K F m v d) (e : (lsqAt h d).bind intsOf = some ns) : ∃ a, v = .ref a ∧ SqL X.K H a (ns.map V.int) := by
  cases q : lsqAt h d with
  | none => rw [q] at e; simp at e
  | some xs =>
    rw [q] at e
    simp only [Option.bind_some] at e
    obtain ⟨a, vs, rfl, ha, rl⟩ := lsqAt_ok S r q
    rw [intsOf_ok rl e] at ha
    exact ⟨a, rfl, ha⟩
theorem lbls_inv {P : Pins} {F : Hp} {m : List Addr} {h : OH} {H : Hp} {v : V} {d : D} {ns : List Bool} (S : Sim X.K P F m h H) (r : Den X.K F m v d) (e : (lsqAt h d).bind bsOf = some ns) : ∃ a, v = .ref a ∧ SqL X.K H a (ns.map V.bl) := by
  cases q : lsqAt h d with
  | none => rw [q] at e; simp at e
  | some xs =>
    rw [q] at e
    simp only [Option.bind_some] at e
    obtain ⟨a, vs, rfl, ha, rl⟩ := lsqAt_ok S r q
    rw [bsOf_ok rl e] at ha
    exact ⟨a, rfl, ha⟩
def opAll : D → OH → Res D := fun d h => match (lsqAt h d).bind bsOf with
  | some ns => .ok (.bl (ns.all id)) h
  | none => .bad
def opAny : D → OH → Res D := fun d h => match (lsqAt h d).bind bsOf with
  | some ns => .ok (.bl (ns.any id)) h
  | none => .bad
theorem bAll_h : ClH X.K W (b1 opAll) (rAll X.K) := by
  intro P F m h H σ Q vs ds S r fin
  obtain ⟨v, d, rfl, r1, fin⟩ := b1_inv r fin
  unfold opAll at fin
  split at fin
  · rename_i ns e
    obtain ⟨a, rfl, ha⟩ := lbls_inv S r1 e
    exact ⟨a, ns, rfl, ha, fin.ok S (.bl _)⟩
  · exact fin.bad_elim
theorem de_all {p pos : Pos} {a : Expr} {fa : SE} (hc : X.calm = true) (hx : Gl X "all") (hm : X.mg "all" = none) (ha : DE X W a fa) (he : starEach [a] X.env = (false, eval a X.env) :: starEach [] X.env := by rfl) : DE X W (.Call (.Name "all" p) [a] [] pos) (sCall (b1 opAll) (sCons fa sNil)) :=
  de_blt (cr_all hc) bAll_h hx hm (by decide +kernel) (da_cons ha da_nil he) (he := he)
def listMax : List Int → Option Int
  | [] => none
  | x :: r => some (r.foldl max x)
def opMaxL : D → OH → Res D := fun d h => match ((lsqAt h d).bind intsOf).bind listMax with
  | some n => .ok (.int n) h
  | none => .bad
theorem foldl_max (r : List Int) : ∀ x, (∀ y ∈ x :: r, y ≤ r.foldl max x) ∧ r.foldl max x ∈ x :: r := by
  induction r with
  | nil => intro x; simp
  | cons y r ih =>
    intro x
    obtain ⟨h1, h2⟩ := ih (max x y)
    have hm := h1 (max x y) List.mem_cons_self
    refine ⟨fun z hz => ?_, ?_⟩
    · rcases List.mem_cons.mp hz with rfl | hz
      · exact Int.le_trans (Int.le_max_left z y) hm
      · rcases List.mem_cons.mp hz with rfl | hz
        · exact Int.le_trans (Int.le_max_right x z) hm
        · exact h1 z (List.mem_cons_of_mem _ hz)
    · show r.foldl max (max x y) ∈ x :: y :: r
      rcases List.mem_cons.mp h2 with h2 | h2
      · rw [h2]
        rcases Int.le_total x y with c | c
        · rw [Int.max_eq_right c]; simp
        · rw [Int.max_eq_left c]; simp
      · exact List.mem_cons_of_mem _ (List.mem_cons_of_mem _ h2)
theorem bMaxL_h : ClH X.K W (b1 opMaxL) (rMax X.K) := by
  intro P F m h H σ Q vs ds S r fin
  obtain ⟨v, d, rfl, r1, fin⟩ := b1_inv r fin
  unfold opMaxL at fin
  cases e : (lsqAt h d).bind intsOf with
  | none => rw [e] at fin; exact fin.bad_elim
  | some ns =>
    rw [e] at fin
    obtain ⟨a, rfl, ha⟩ := lints_inv S r1 e
    cases ns with
    | nil => exact fin.bad_elim
    | cons x r =>
      refine ⟨a, x :: r, rfl, ha, by simp, fun m' hm hb => ?_⟩
      obtain ⟨h1, h2⟩ := foldl_max r x
      have e2 : m' = r.foldl max x := Int.le_antisymm (h1 _ hm) (hb _ h2)
      subst e2
      exact FinG.ok fin S (.int _)
theorem de_maxL {p pos : Pos} {a : Expr} {fa : SE} (hc : X.calm = true) (hx : Gl X "max") (hm : X.mg "max" = none) (ha : DE X W a fa) (he : starEach [a] X.env = (false, eval a X.env) :: starEach [] X.env := by rfl) : DE X W (.Call (.Name "max" p) [a] [] pos) (sCall (b1 opMaxL) (sCons fa sNil)) :=
  de_blt (cr_max hc) bMaxL_h hx hm (by decide +kernel) (da_cons ha da_nil he) (he := he)
/-- list(x), a new list, frozen or own -/
def opList (own : Bool) : D → OH → Res D := fun d h => match seqAt h d with
  | some xs => if own then .ok (.ref h.length) (h ++ [.lst xs]) else .ok (.lst xs) h
  | none => .bad
theorem bList_h (own : Bool) : ClH X.K W (b1 (opList own)) (fun xs H Q => ∃ p ys, xs = [.ref p] ∧ (SqL X.K H p ys ∨ SqT X.K H p ys) ∧ ∀ l, H l = none → Q (.ref l) (upd H l (.lst ys))) := by
  intro P F m h H σ Q vs ds S r fin
  obtain ⟨v, d, rfl, r1, fin⟩ := b1_inv r fin
  unfold opList at fin
  cases e : seqAt h d with
  | none => rw [e] at fin; exact fin.bad_elim
  | some xs =>
    rw [e] at fin
    obtain ⟨a, ws, rfl, ha, rl⟩ := seqAt_ok S r1 e
    refine ⟨a, ws, rfl, ha, fun l hl => ?_⟩
    cases own with
    | true => exact FinG.ownL fin S rl hl
    | false => exact FinG.newL fin S rl hl
theorem de_list {p pos : Pos} {a : Expr} {fa : SE} (own : Bool) (hx : Gl X "list") (hm : X.mg "list" = none) (ha : DE X W a fa) (he : starEach [a] X.env = (false, eval a X.env) :: starEach [] X.env := by rfl) : DE X W (.Call (.Name "list" p) [a] [] pos) (sCall (b1 (opList own)) (sCons fa sNil)) :=
  de_bty call_list_of (bList_h own) hx hm (by decide +kernel) (da_cons ha da_nil he) (he := he)
def opTuple : D → OH → Res D := fun d h => match d with
  | .tup xs => .ok (.tup xs) h
  | d => (match lsqAt h d with
    | some xs => .ok (.tup xs) h
    | none => .bad)
/-! ### isinstance of built-in types -/
def tyAt (h : OH) : D → Option String
  | .non => some "NoneType"
  | .bl _ => some "bool"
  | .int _ => some "int"
  | .str _ => some "str"
  | .lst _ => some "list"
  | .scr _ => some "list"
  | .tup _ => some "tuple"
  | .dct _ => some "dict"
  | .obj _ _ => none
  | .exc _ => none
  | .excf _ _ _ => none
  | .ref i => (match h[i]? with
    | some (.lst _) => some "list"
    | some (.dct _) => some "dict"
    | _ => none)
def isiB (a b : String) : Bool := a == b || (a == "bool" && b == "int")
theorem kit_tab : (["NoneType", "bool", "int", "str", "list", "tuple", "dict"].all fun a => ["bool", "int", "str", "list", "tuple", "dict"].all fun b => kitB a b == some (isiB a b)) = true := by decide +kernel
theorem kit_at {a b : String} (ha : a ∈ ["NoneType", "bool", "int", "str", "list", "tuple", "dict"]) (hb : b ∈ ["bool", "int", "str", "list", "tuple", "dict"]) : kitB a b = some (isiB a b) := by
  have h := List.all_eq_true.mp kit_tab a ha
  have h2 := List.all_eq_true.mp h b hb
  exact eq_of_beq h2
theorem tyAt_mem {h : OH} {d : D} {t : String} (e : tyAt h d = some t) : t ∈ ["NoneType", "bool", "int", "str", "list", "tuple", "dict"] := by
  unfold tyAt at e
  split at e
  all_goals (try (simp only [Option.some.injEq] at e; subst e; decide))
  · cases e
  · cases e
  · cases e
  · split at e
    all_goals (try (simp only [Option.some.injEq] at e; subst e; decide))
    cases e
theorem tyAt_ok {P : Pins} {F : Hp} {m : List Addr} {h : OH} {H : Hp} {v : V} {d : D} {t : String} (S : Sim X.K P F m h H) (r : Den X.K F m v d) (e : tyAt h d = some t) : TyX X.K H v (.type t) := by
  cases r with
  | non => cases e; exact .base .non
  | bl b => cases e; exact .base (.bl b)
  | int i => cases e; exact .base (.int i)
  | str x => cases e; exact .base (.str x)
  | lst q _ => cases e; exact .base (.lst (S.sub _ _ q))
  | scr q _ =>
    cases e
    rcases S.sub.seq q with (q | ⟨o, q⟩) | ⟨o, its, n, q, c, _⟩
    · exact .base (.lst q)
    · exact .base (.frz q)
    · exact .kList q c
  | tup q _ => cases e; exact .base (.tup (S.sub _ _ q))
  | dct q _ => cases e; exact .base (.dK (S.sub _ _ q))
  | obj _ _ _ => cases e
  | exc _ => cases e
  | excf _ _ _ => cases e
  | ref q =>
    obtain ⟨o, h1, h2⟩ := S.own q
    unfold tyAt at e
    simp only [h1] at e
    cases o with
    | lst xs =>
      cases e
      obtain ⟨vs, k1, _⟩ := h2
      exact .base (.lst k1)
    | dct kvs =>
      cases e
      obtain ⟨ks, k1, _⟩ := h2
      exact .base (.dK k1)
    | ins _ _ => cases e
    | dead => cases e
/-- isinstance(e, T) -/
def sIsi (ts : List String) (f : SE) : SE := fun e h => (f e h).bind fun d h1 => match tyAt h1 d with
  | some t => .ok (.bl (ts.any fun T => isiB t T)) h1
  | none => .bad
theorem de_isi {T : String} {x : Str} {p p2 pos : Pos} {a : Expr} {fa : SE} (hT : T ∈ ["bool", "int", "str", "list", "tuple", "dict"]) (hx : Gl X "isinstance") (hm : X.mg "isinstance" = none) (hx2 : Gl X x) (hm2 : X.mg x = none) (hv2 : bootBuiltins x = some (.type T)) (ha : DE X W a fa) (hn : x ≠ "__name__" := by decide) (hd : (x == ("__debug__" : Str)) = false := by decide)
    (he : starEach [a, .Name x p2] X.env = (false, eval a X.env) :: starEach [.Name x p2] X.env := by rfl) (he2 : starEach [.Name x p2] X.env = (false, eval (.Name x p2) X.env) :: starEach [] X.env := by rfl)
    (hpl : (backTo pos (starEach [.Name x p2] X.env)).any (·.1) = false := by rfl) : DE X W (.Call (.Name "isinstance" p) [a, .Name x p2] [] pos) (sIsi [T] fa) :=
  PE.of (pe_callB call_isi hx hm (by decide +kernel) (pa_cons ha (pa_cons (pe_bltn (v := .ty T) hx2 hm2 hv2 rfl hn hd) pa_nil he2) he) (he := he) (hpl := hpl)) fun σ H Q => by
    rintro ⟨P, F, m, e, h, S, E, fin⟩
    refine rd_seq S E fin fun F1 m1 h1 H1 x dx x1 S1 E1 r1 fin1 => ?_
    cases q : tyAt h1 dx with
    | none => rw [q] at fin1; exact fin1.bad_elim
    | some t =>
      rw [q] at fin1
      exact ⟨x, .ty T, .type t, .type T, isiB t T, rfl, .ty T, tyAt_ok S1 r1 q, kit_ty (kit_at (tyAt_mem q) hT), fin1.ok S1 (by simp only [List.any_cons, List.any_nil, Bool.or_false]; exact .bl _)⟩
theorem kitAny_two {K : PySem.W.Frag} {t T1 T2 : String} (h1 : kitB t T1 = some (isiB t T1)) (h2 : kitB t T2 = some (isiB t T2)) : PySem.W.kitAny K (.type t) [.type T1, .type T2] = some (isiB t T1 || isiB t T2) := by
  refine kitAny_cons (kit_ty h1) (fun e => ?_) (fun e => by rw [e, Bool.true_or])
  rw [e, Bool.false_or]
  refine kitAny_cons (kit_ty h2) (fun e2 => ?_) (fun e2 => e2)
  rw [e2]
  exact kitAny_nil
/-- isinstance(e, (T1, T2)) -/
theorem de_isi2 {T1 T2 : String} {x y : Str} {p p2 p3 p4 pos : Pos} {j : Nat} {a : Expr} {fa : SE} (hT1 : T1 ∈ ["bool", "int", "str", "list", "tuple", "dict"]) (hT2 : T2 ∈ ["bool", "int", "str", "list", "tuple", "dict"]) (hx : Gl X "isinstance") (hm : X.mg "isinstance" = none)
    (hx2 : Gl X x) (hm2 : X.mg x = none) (hv2 : bootBuiltins x = some (.type T1)) (hx3 : Gl X y) (hm3 : X.mg y = none) (hv3 : bootBuiltins y = some (.type T2)) (ha : DE X W a fa) (hn : x ≠ "__name__" := by decide) (hd : (x == ("__debug__" : Str)) = false := by decide) (hn3 : y ≠ "__name__" := by decide) (hd3 : (y == ("__debug__" : Str)) = false := by decide)
    (he : starEach [a, .Tuple [.Name x p2, .Name y p3] j p4] X.env = (false, eval a X.env) :: starEach [.Tuple [.Name x p2, .Name y p3] j p4] X.env := by rfl) (he2 : starEach [.Tuple [.Name x p2, .Name y p3] j p4] X.env = (false, eval (.Tuple [.Name x p2, .Name y p3] j p4) X.env) :: starEach [] X.env := by rfl)
    (he3 : starEach [.Name x p2, .Name y p3] X.env = (false, eval (.Name x p2) X.env) :: starEach [.Name y p3] X.env := by rfl) (he4 : starEach [.Name y p3] X.env = (false, eval (.Name y p3) X.env) :: starEach [] X.env := by rfl)
    (hpl : (backTo pos (starEach [.Tuple [.Name x p2, .Name y p3] j p4] X.env)).any (·.1) = false := by rfl) : DE X W (.Call (.Name "isinstance" p) [a, .Tuple [.Name x p2, .Name y p3] j p4] [] pos) (sIsi [T1, T2] fa) :=
  PE.of (pe_callB call_isiT hx hm (by decide +kernel) (pa_cons ha (pa_cons (pe_tup (pa_cons (pe_bltn (v := .ty T1) hx2 hm2 hv2 rfl hn hd) (pa_cons (pe_bltn (v := .ty T2) hx3 hm3 hv3 rfl hn3 hd3) pa_nil he4) he3)) pa_nil he2) he) (he := he) (hpl := hpl)) fun σ H Q => by
    rintro ⟨P, F, m, e, h, S, E, fin⟩
    refine rd_seq S E fin fun F1 m1 h1 H1 x dx x1 S1 E1 r1 fin1 => ?_
    refine ⟨by show 2 ≤ sizeLine; decide, fun tp hp => ?_⟩
    cases q : tyAt h1 dx with
    | none => rw [q] at fin1; exact fin1.bad_elim
    | some t =>
      rw [q] at fin1
      have S2 := S1.other (o := .tup [.ty T1, .ty T2]) hp
      refine ⟨x, tp, [.ty T1, .ty T2], .type t, [.type T1, .type T2], isiB t T1 || isiB t T2, rfl, upd_same, .cons (.ty _) (.cons (.ty _) .nil), tyAt_ok S2 r1 q, kitAny_two (kit_at (tyAt_mem q) hT1) (kit_at (tyAt_mem q) hT2), fin1.ok S2 ?_⟩
      simp only [List.any_cons, List.any_nil, Bool.or_false]
      exact .bl _
/-! ### attributes -/
theorem ofString_inj {a b : String} (h : Str.ofString a = Str.ofString b) : a = b := by
  rw [Str.ofString_eq_toList, Str.ofString_eq_toList] at h
  have h2 : (a.toList.map Char.toNat) = (b.toList.map Char.toNat) := by simpa using h
  have h3 : a.toList = b.toList := by
    have inj : ∀ (l l' : List Char), l.map Char.toNat = l'.map Char.toNat → l = l' := by
      intro l
      induction l with
      | nil => intro l' e; cases l' with
        | nil => rfl
        | cons _ _ => simp at e
      | cons c l ih => intro l' e; cases l' with
        | nil => simp at e
        | cons c' l' =>
          simp only [List.map_cons, List.cons.injEq] at e
          rw [Char.toNat_inj.mp e.1, ih l' e.2]
    exact inj _ _ h2
  exact String.toList_inj.mp h3
theorem ofString_beq (a b : String) : (Str.ofString a == Str.ofString b) = (a == b) := by
  by_cases e : a = b
  · subst e; simp
  · have e2 : Str.ofString a ≠ Str.ofString b := fun z => e (ofString_inj z)
    rw [beq_eq_false_iff_ne.mpr e, beq_eq_false_iff_ne.mpr e2]
theorem DenF.look {K : PySem.W.Frag} {F : Hp} {m : List Addr} {f : String} {d : D} : ∀ {fv : List (Str × V)} {fs : List (String × D)}, DenF K F m fv fs → fs.lookup f = some d → ∃ v, fv.lookup (Str.ofString f) = some v ∧ Den K F m v d
  | _, _, .nil, e => by simp at e
  | _, _, .cons (f := g) h t, e => by
    rw [List.lookup_cons] at e ⊢
    rw [ofString_beq]
    cases q : (f == g) with
    | true =>
      rw [q] at e
      simp only [Option.some.injEq] at e
      subst e
      exact ⟨_, rfl, h⟩
    | false =>
      rw [q] at e
      exact DenF.look t e
theorem DenF.none {K : PySem.W.Frag} {F : Hp} {m : List Addr} {f : String} : ∀ {fv : List (Str × V)} {fs : List (String × D)}, DenF K F m fv fs → fs.lookup f = none → fv.lookup (Str.ofString f) = none
  | _, _, .nil, _ => rfl
  | _, _, .cons (f := g) h t, e => by
    rw [List.lookup_cons] at e ⊢
    rw [ofString_beq]
    cases q : (f == g) with
    | true => rw [q] at e; cases e
    | false => rw [q] at e; exact DenF.none t e
def putS (f : String) (d : D) : List (String × D) → List (String × D)
  | [] => [(f, d)]
  | (g, x) :: r => if g = f then (g, d) :: r else (g, x) :: putS f d r
/-- the fields of an instance -/
def insAt (h : OH) : D → Option (String × List (String × D))
  | .obj C fs => some (C, fs)
  | .ref i => (match h[i]? with
    | some (.ins C fs) => some (C, fs)
    | _ => none)
  | _ => none
theorem insAt_ok {K : PySem.W.Frag} {P : Pins} {F : Hp} {m : List Addr} {h : OH} {H : Hp} {v : V} {d : D} {C : String} {fs : List (String × D)} (S : Sim K P F m h H) (r : Den K F m v d) (q : insAt h d = some (C, fs)) : ∃ a dx fv, v = .ref a ∧ H a = some (.ins (He.ga K (Str.ofString C)) dx fv) ∧ ObT K C fs ∧ DenF K F m fv fs := by
  cases r with
  | obj e t r => cases q; exact ⟨_, _, _, rfl, S.sub _ _ e, t, r⟩
  | ref e =>
    obtain ⟨o, h1, h2⟩ := S.own e
    unfold insAt at q
    simp only [h1] at q
    cases o with
    | ins C' fs' =>
      cases q
      obtain ⟨dx, fv, k1, k2, k3, _⟩ := h2
      exact ⟨_, dx, fv, rfl, k1, k2, k3⟩
    | _ => cases q
  | _ => cases q
theorem mem_of_lookup {f : String} {d : D} : ∀ {fs : List (String × D)}, fs.lookup f = some d → ∃ q ∈ fs, q.1 = f
  | [], e => by simp at e
  | (g, x) :: r, e => by
    rw [List.lookup_cons] at e
    cases q : (f == g) with
    | true => exact ⟨(g, x), List.mem_cons_self, (eq_of_beq q).symm⟩
    | false =>
      rw [q] at e
      obtain ⟨p, hp, e2⟩ := mem_of_lookup e
      exact ⟨p, List.mem_cons_of_mem _ hp, e2⟩
def opFld (f : String) : D → OH → Res D := fun d h => match insAt h d with
  | some q => (match q.2.lookup f with
    | some x => .ok x h
    | none => .bad)
  | none => .bad
theorem de_fld {a : Expr} {f : String} {pos : Pos} {fa : SE} (ha : DE X W a fa) (hb : attributeBase a (Str.ofString f) X.env (eval a X.env) = eval a X.env := by rfl) : DE X W (.Attribute a (Str.ofString f) pos) (sUn (opFld f) fa) := PE.of (pe_fld ha hb) fun σ H Q => by
  rintro ⟨P, F, m, e, h, S, E, fin⟩
  refine rd_seq S E fin fun F1 m1 h1 H1 x dx x1 S1 E1 r1 fin1 => ?_
  unfold opFld at fin1
  cases q : insAt h1 dx with
  | none => rw [q] at fin1; exact fin1.bad_elim
  | some z =>
    obtain ⟨C, fs⟩ := z
    rw [q] at fin1
    dsimp only at fin1
    obtain ⟨b, dxx, fv, rfl, hb2, ob, rf⟩ := insAt_ok S1 r1 q
    cases q2 : fs.lookup f with
    | none => rw [q2] at fin1; exact fin1.bad_elim
    | some d =>
      rw [q2] at fin1
      obtain ⟨v, l, rv⟩ := rf.look q2
      obtain ⟨p, hp, e2⟩ := mem_of_lookup q2
      subst e2
      exact ⟨b, _, dxx, fv, v, rfl, hb2, ob.1, ob.2 p hp, l, fin1.ok S1 rv⟩
/-! ### methods of own lists -/
/-- the receiver must be an own list all along -/
def isOwn (h : OH) : D → Bool
  | .ref i => (match h[i]? with
    | some (.lst _) => true
    | _ => false)
  | _ => false
def sMtO (g : Nat → List D → List D → OH → Res D) (o : SE) (a : SA) : SE := fun e h => (o e h).bind fun x h1 => if isOwn h1 x then (a e h1).bind fun ys h2 => (match x with
    | .ref i => (match h2[i]? with
      | some (.lst xs) => g i xs ys h2
      | _ => .bad)
    | _ => .bad) else .bad
theorem rd_mt {g : Nat → List D → List D → OH → Res D} {r : V → List V → Hp → VK → Prop} {fo : SE} {fa : SA} {σ : St} {H : Hp} {Q : VK}
    (hg : ∀ (P : Pins) (F : Hp) (m : List Addr) (h : OH) (H : Hp) (i : Nat) (a : Addr) (vs ws : List V) (xs ys : List D), Sim X.K P F m h H → m[i]? = some a → h[i]? = some (.lst xs) → H a = some (.lst vs) → DenL X.K F m vs xs → F a = none → DenL X.K F m ws ys → FinG X.K P W σ (Den X.K) Q F m (g i xs ys h) → r (.ref a) ws H Q)
    (q : rdG X.K W (Den X.K) (sMtO g fo fa) σ H Q) : rdG X.K W (Den X.K) fo σ H (fun x H1 => tyV X.K "list" x H1 ∧ rdG X.K W (DenL X.K) fa σ H1 fun xs H2 => r x xs H2 Q) := by
  obtain ⟨P, F, m, e, h, S, E, fin⟩ := q
  refine rd_seq S E fin fun F1 m1 h1 H1 x dx x1 S1 E1 r1 fin1 => ?_
  by_cases ho : isOwn h1 dx = true
  · rw [if_pos ho] at fin1
    cases r1 with
    | @ref a i e1 =>
      have ty : tyV X.K "list" (.ref a) H1 := by
        obtain ⟨o, k1, k2⟩ := S1.own e1
        simp only [isOwn, k1] at ho
        cases o with
        | lst xs =>
          obtain ⟨vs, k3, _⟩ := k2
          exact .inl ⟨rfl, vs, .inl (.inl k3)⟩
        | _ => cases ho
      refine ⟨ty, ?_⟩
      refine rd_seq S1 E1 fin1 fun F2 m2 h2 H2 ws ys x2 S2 E2 r2 fin2 => ?_
      have e2 := pre_get x2.p e1
      obtain ⟨o, k1, k2⟩ := S2.own e2
      dsimp only at fin2
      rw [k1] at fin2
      cases o with
      | lst xs =>
        obtain ⟨vs, k3, k4, k5⟩ := k2
        exact hg P F2 m2 h2 H2 i a vs ws xs ys S2 e2 k1 k3 k4 k5 r2 fin2
      | _ => exact fin2.bad_elim
    | _ => simp [isOwn] at ho
  · rw [if_neg ho] at fin1
    exact fin1.bad_elim
def gAppend (i : Nat) (xs ys : List D) (h : OH) : Res D := match ys with
  | [y] => if xs.length < big then .ok .non (h.set i (.lst (xs ++ [y]))) else .bad
  | _ => .bad
theorem de_append {o a : Expr} {fo fa : SE} {apos cpos : Pos} (ho : DE X W o fo) (ha : DE X W a fa) (hbase : attributeBase o "append" X.env (eval o X.env) = eval o X.env := by rfl)
    (hfew : ((backTo cpos (starEach [a] X.env)).all (fun x => !x.1) && (backToKw cpos (keywordEach [] X.env)).all (fun x => x.1.isSome) && decide (([a] : List Expr).length + ([] : List Keyword).length + (if ([] : List Keyword).isEmpty then 0 else 1) < 30)) = true := by rfl)
    (hline : (apos.endLine == cpos.line) = true := by rfl) (hs : starEach [a] X.env = (false, eval a X.env) :: starEach [] X.env := by rfl) (hplain : (backTo cpos (starEach [] X.env)).any (·.1) = false := by rfl) : DE X W (.Call (.Attribute o "append" apos) [a] [] cpos) (sMtO gAppend fo (sCons fa sNil)) :=
  PE.of (pe_bm PySem.F.plainAttrs_list PySem.F.slot_list_append PySem.F.type_list_append mt_append ho (da_cons ha da_nil hs) hbase hfew hline hs hplain) fun σ H Q => rd_mt (r := rAppend) fun P F m h H i a vs ws xs ys S e1 e2 ha rl nf rw fin => by
    unfold gAppend at fin
    split at fin
    · rename_i y
      obtain ⟨w, rfl, ry⟩ := denL1 rw
      by_cases hz : xs.length < big
      · rw [if_pos hz] at fin
        refine ⟨a, vs, w, rfl, rfl, ha, by rw [rl.length]; exact big_lt hz, fin.ok (S.write e1 e2 nf ⟨_, upd_same, rl.append (.cons ry .nil), nf⟩) .non⟩
      · rw [if_neg hz] at fin
        exact fin.bad_elim
    · exact fin.bad_elim
def gPopAt (i : Nat) (xs ys : List D) (h : OH) : Res D := match ys with
  | [.int k] => if -(2 ^ 63) ≤ k ∧ k < 2 ^ 63 then (match seqIndex? k xs.length with
    | some j => (match xs[j]? with
      | some y => .ok y (h.set i (.lst (xs.eraseIdx j)))
      | none => .bad)
    | none => .bad) else .bad
  | _ => .bad
theorem de_popAt {o a : Expr} {fo fa : SE} {apos cpos : Pos} (ho : DE X W o fo) (ha : DE X W a fa) (hbase : attributeBase o "pop" X.env (eval o X.env) = eval o X.env := by rfl)
    (hfew : ((backTo cpos (starEach [a] X.env)).all (fun x => !x.1) && (backToKw cpos (keywordEach [] X.env)).all (fun x => x.1.isSome) && decide (([a] : List Expr).length + ([] : List Keyword).length + (if ([] : List Keyword).isEmpty then 0 else 1) < 30)) = true := by rfl)
    (hline : (apos.endLine == cpos.line) = true := by rfl) (hs : starEach [a] X.env = (false, eval a X.env) :: starEach [] X.env := by rfl) (hplain : (backTo cpos (starEach [] X.env)).any (·.1) = false := by rfl) : DE X W (.Call (.Attribute o "pop" apos) [a] [] cpos) (sMtO gPopAt fo (sCons fa sNil)) :=
  PE.of (pe_bm PySem.F.plainAttrs_list PySem.F.slot_list_pop PySem.F.type_list_pop mt_popAt ho (da_cons ha da_nil hs) hbase hfew hline hs hplain) fun σ H Q => rd_mt (r := rPopAt) fun P F m h H i a vs ws xs ys S e1 e2 ha rl nf rw fin => by
    unfold gPopAt at fin
    split at fin
    · rename_i k
      obtain ⟨w, rfl, ry⟩ := denL1 rw
      cases den_int ry
      by_cases hz : -(2 ^ 63) ≤ k ∧ k < 2 ^ 63
      · rw [if_pos hz] at fin
        cases q : seqIndex? k xs.length with
        | none => rw [q] at fin; exact fin.bad_elim
        | some j =>
          rw [q] at fin
          dsimp only at fin
          cases q2 : xs[j]? with
          | none => rw [q2] at fin; exact fin.bad_elim
          | some y =>
            rw [q2] at fin
            obtain ⟨v, e3, rv⟩ := rl.get q2
            exact ⟨a, vs, k, j, v, rfl, rfl, ha, hz.1, hz.2, by rw [rl.length]; exact q, e3, fin.ok (S.write e1 e2 nf ⟨_, upd_same, rl.eraseIdx j, nf⟩) rv⟩
      · rw [if_neg hz] at fin
        exact fin.bad_elim
    · exact fin.bad_elim
end
end HR
set_option Elab.async false
set_option linter.all false
set_option maxRecDepth 100000
set_option maxHeartbeats 2000000
/-! LayE: statements, targets, loops, comprehensions. -/
namespace HR
open PySem L2
def FinS (K : PySem.W.Frag) (P : Pins) (W : WX) (Dn : Ends) (F : Hp) (m : List Addr) : SRes → Prop
  | .nx e h' => ∀ σ F' m' H', Ext F m F' m' → Sim K P F' m' h' H' → EnvR K F' m' σ e → Dn.nx σ H'
  | .bk e h' => ∀ σ F' m' H', Ext F m F' m' → Sim K P F' m' h' H' → EnvR K F' m' σ e → Dn.bk σ H'
  | .ct e h' => ∀ σ F' m' H', Ext F m F' m' → Sim K P F' m' h' H' → EnvR K F' m' σ e → Dn.ct σ H'
  | .rt d h' => ∀ v F' m' H', Ext F m F' m' → Sim K P F' m' h' H' → Den K F' m' v d → Dn.rt v H'
  | .exc C p e h' => ∀ od σ F' m' H', Ext F m F' m' → Sim K P F' m' h' H' → PayD K F' m' p od → EnvR K F' m' σ e → W (.ref (He.ga K (Str.ofString C))) od σ H'
  | .bad => False
def rdS (K : PySem.W.Frag) (W : WX) (f : SS) : TS := fun Dn σ H => ∃ P F m e h, Sim K P F m h H ∧ EnvR K F m σ e ∧ FinS K P W Dn F m (f e h)
abbrev DS (X : Cx) (W : WX) (st : Stmt) (f : SS) : Prop := PS X st (rdS X.K W f)
abbrev DSs (X : Cx) (W : WX) (sts : List Stmt) (f : SS) : Prop := PSs X sts (rdS X.K W f)
/-- behind an expression -/
def Res.toS {α : Type} (r : Res α) (e : Env') (g : α → OH → SRes) : SRes := match r with
  | .ok a h => g a h
  | .exc C p h => .exc C p e h
  | .bad => .bad
@[simp] theorem Res.toS_ok {α : Type} (a : α) (h : OH) (e : Env') (g : α → OH → SRes) : (Res.ok a h).toS e g = g a h := rfl
@[simp] theorem Res.toS_bad {α : Type} (e : Env') (g : α → OH → SRes) : (Res.bad : Res α).toS e g = .bad := rfl
@[simp] theorem Res.toS_exc {α : Type} (C : String) (p : Pay) (h : OH) (e : Env') (g : α → OH → SRes) : (Res.exc C p h : Res α).toS e g = .exc C p e h := rfl
section
variable {K : PySem.W.Frag} {P : Pins} {W : WX} {σ : St} {F F' : Hp} {m m' : List Addr} {h : OH} {H : Hp} {e : Env'} {Dn : Ends}
theorem FinS.weak (x : Ext F m F' m') : ∀ {r : SRes}, FinS K P W Dn F m r → FinS K P W Dn F' m' r
  | .nx _ _, q => fun σ F2 m2 H2 y => q σ F2 m2 H2 (x.trans y)
  | .bk _ _, q => fun σ F2 m2 H2 y => q σ F2 m2 H2 (x.trans y)
  | .ct _ _, q => fun σ F2 m2 H2 y => q σ F2 m2 H2 (x.trans y)
  | .rt _ _, q => fun v F2 m2 H2 y => q v F2 m2 H2 (x.trans y)
  | .exc _ _ _ _, q => fun od σ F2 m2 H2 y => q od σ F2 m2 H2 (x.trans y)
  | .bad, q => q
/-- an expression, then more -/
theorem st_seq {α β : Type} {rel : Rel β α} {f : Env' → OH → Res α} {g : α → OH → SRes} {R : β → Hp → Prop} (S : Sim K P F m h H) (E : EnvR K F m σ e) (fin : FinS K P W Dn F m ((f e h).toS e g))
    (k : ∀ F' m' h' H' v a, Ext F m F' m' → Sim K P F' m' h' H' → EnvR K F' m' σ e → rel F' m' v a → FinS K P W Dn F' m' (g a h') → R v H') : rdG K W rel f σ H R := by
  refine ⟨P, F, m, e, h, S, E, ?_⟩
  cases q : f e h with
  | ok a h1 =>
    rw [q] at fin
    exact fun v F1 m1 H1 x S1 r => k F1 m1 h1 H1 v a x S1 (E.mono x) r (FinS.weak x fin)
  | exc C p h1 =>
    rw [q] at fin
    exact fun od F1 m1 H1 x S1 pd => fin od σ F1 m1 H1 x S1 pd (E.mono x)
  | bad =>
    rw [q] at fin
    exact fin.elim
theorem EnvR.set (E : EnvR K F m σ e) (i : Nat) {v : V} {d : D} (r : Den K F m v d) : EnvR K F m (σ.set i (some v)) (e.set i (some d)) := by
  refine ⟨by simp [E.len], fun j c q => ?_⟩
  by_cases hj : i = j
  · subst hj
    rw [List.getElem?_set] at q
    simp only [if_true] at q
    by_cases hi : i < e.length
    · rw [if_pos hi] at q
      simp only [Option.some.injEq] at q
      subst q
      exact ⟨v, by rw [List.getElem?_set_self (by rw [E.len]; exact hi)], r⟩
    · rw [if_neg hi] at q
      cases q
  · rw [List.getElem?_set_ne hj] at q
    obtain ⟨w, a, b⟩ := E.at_ j c q
    exact ⟨w, by rw [List.getElem?_set_ne hj]; exact a, b⟩
theorem EnvR.clr (E : EnvR K F m σ e) (i : Nat) : EnvR K F m (σ.set i none) (e.set i none) := by
  refine ⟨by simp [E.len], fun j c q => ?_⟩
  by_cases hj : i = j
  · subst hj
    rw [List.getElem?_set] at q
    simp only [if_true] at q
    split at q <;> cases q
  · rw [List.getElem?_set_ne hj] at q
    obtain ⟨w, a, b⟩ := E.at_ j c q
    exact ⟨w, by rw [List.getElem?_set_ne hj]; exact a, b⟩
def wipeD (e : Env') : List Nat → Env'
  | [] => e
  | v :: vs => (wipeD e vs).set v none
theorem EnvR.wipe (E : EnvR K F m σ e) : ∀ vs : List Nat, EnvR K F m (L2.wipe σ vs) (wipeD e vs)
  | [] => E
  | v :: vs => (E.wipe vs).clr v
end
theorem wipe_set {σ : St} {i : Nat} {x : Option V} : ∀ {vs : List Nat}, i ∈ vs → L2.wipe (σ.set i x) vs = L2.wipe σ vs
  | [], h => by simp at h
  | v :: vs, h => by
    show (L2.wipe (σ.set i x) vs).set v none = (L2.wipe σ vs).set v none
    by_cases hi : i ∈ vs
    · rw [wipe_set hi]
    · have hv : i = v := by
        rcases List.mem_cons.mp h with h | h
        · exact h
        · exact absurd h hi
      subst hv
      have comm : ∀ (ws : List Nat), i ∉ ws → L2.wipe (σ.set i x) ws = (L2.wipe σ ws).set i x := by
        intro ws
        induction ws with
        | nil => intro _; rfl
        | cons w ws ih =>
          intro hw
          simp only [List.mem_cons, not_or] at hw
          show (L2.wipe (σ.set i x) ws).set w none = ((L2.wipe σ ws).set w none).set i x
          rw [ih hw.2, List.set_comm _ _ (fun z => hw.1 z)]
      rw [comm vs hi, List.set_set]
section
variable {X : Cx} {W : WX}
theorem PS.of {st : Stmt} {t t' : TS} (h : PS X st t) (w : ∀ Dn σ H, t' Dn σ H → t Dn σ H) : PS X st t' := ⟨fun pins s σ H Dn I q => h.run pins s σ H Dn I (w Dn σ H q)⟩
theorem PSs.of {st : List Stmt} {t t' : TS} (h : PSs X st t) (w : ∀ Dn σ H, t' Dn σ H → t Dn σ H) : PSs X st t' := ⟨fun pins s σ H Dn I q => h.run pins s σ H Dn I (w Dn σ H q)⟩
def sNext : SS := fun e h => .nx e h
def sSeq (f g : SS) : SS := fun e h => match f e h with
  | .nx e1 h1 => g e1 h1
  | r => r
def sBad : SS := fun _ _ => .bad
def sBreak : SS := fun e h => .bk e h
def sCont : SS := fun e h => .ct e h
def sExpr (f : SE) : SS := fun e h => (f e h).toS e fun _ h1 => .nx e h1
def sRet (f : SE) : SS := fun e h => (f e h).toS e fun d h1 => .rt d h1
def sRetN : SS := fun _ h => .rt .non h
def sSet (i : Nat) (f : SE) : SS := fun e h => (f e h).toS e fun d h1 => .nx (e.set i (some d)) h1
def sIfS (c : ST) (a b : SS) : SS := fun e h => (c e h).toS e fun t h1 => if t then a e h1 else b e h1
theorem ds_nil : DSs X W [] sNext := PSs.of pss_nil fun Dn σ H => by
  rintro ⟨P, F, m, e, h, S, E, fin⟩
  exact fin σ F m H .refl S E
theorem ds_cons {st : Stmt} {rest : List Stmt} {f g : SS} (h1 : DS X W st f) (h2 : DSs X W rest g) : DSs X W (st :: rest) (sSeq f g) := PSs.of (pss_cons h1 h2) fun Dn σ H => by
  rintro ⟨P, F, m, e, h, S, E, fin⟩
  refine ⟨P, F, m, e, h, S, E, ?_⟩
  unfold sSeq at fin
  cases q : f e h with
  | nx e1 h1 =>
    rw [q] at fin
    exact fun σ' F1 m1 H1 x S1 E1 => ⟨P, F1, m1, e1, h1, S1, E1, FinS.weak x fin⟩
  | bk e1 h1 => rw [q] at fin; exact fin
  | ct e1 h1 => rw [q] at fin; exact fin
  | rt d h1 => rw [q] at fin; exact fin
  | exc C p e1 h1 => rw [q] at fin; exact fin
  | bad => rw [q] at fin; exact fin
theorem ds_one {st : Stmt} {f : SS} (h1 : DS X W st f) : DSs X W [st] f := PSs.of (pss_one h1) fun Dn σ H q => q
theorem ds_never {st : Stmt} : DS X W st sBad := PS.of ps_never fun Dn σ H => by
  rintro ⟨P, F, m, e, h, S, E, fin⟩
  exact fin
theorem ds_break {pos : Pos} : DS X W (.Break pos) sBreak := PS.of ps_break fun Dn σ H => by
  rintro ⟨P, F, m, e, h, S, E, fin⟩
  exact fin σ F m H .refl S E
theorem ds_expr {a : Expr} {f : SE} {pos : Pos} (ha : DE X W a f) (hs : swapsWith a none pos.line X.env = pure false := by rfl) : DS X W (.Expr a pos) (sExpr f) := PS.of (ps_expr ha hs) fun Dn σ H => by
  rintro ⟨P, F, m, e, h, S, E, fin⟩
  exact st_seq S E fin fun F1 m1 h1 H1 v d x S1 E1 r fin1 => fin1 σ F1 m1 H1 .refl S1 E1
theorem ds_ret {a : Expr} {f : SE} {pos : Pos} (ha : DE X W a f) : DS X W (.Return (some a) pos) (sRet f) := PS.of (ps_ret ha) fun Dn σ H => by
  rintro ⟨P, F, m, e, h, S, E, fin⟩
  exact st_seq S E fin fun F1 m1 h1 H1 v d x S1 E1 r fin1 => fin1 v F1 m1 H1 .refl S1 r
theorem ds_set (i : Nat) {x : Str} {a : Expr} {f : SE} {pos pos' : Pos} (hN : X.N.Nodup) (ha : DE X W a f) (hi : X.N[i]? = some x := by rfl) (hx : Loc X.env.scope x := by first | exact Or.inl rfl | exact Or.inr rfl) (hs : swapsWith a (some (.Name x pos')) pos.line X.env = pure false := by rfl)
    (hf : X.fn x = true ∨ X.env.scope.names.lookup x = some .local := by first | exact .inl rfl | exact .inr rfl | assumption) : DS X W (.Assign [.Name x pos'] a pos) (sSet i f) := PS.of (ps_set hN hi hx ha hs hf) fun Dn σ H => by
  rintro ⟨P, F, m, e, h, S, E, fin⟩
  exact st_seq S E fin fun F1 m1 h1 H1 v d x S1 E1 r fin1 => fin1 _ F1 m1 H1 .refl S1 (E1.set i r)
theorem ds_if {c : Expr} {a b : List Stmt} {fc : ST} {fa fb : SS} {pos : Pos} (hc : DT X W c fc) (ha : DSs X W a fa) (hb : DSs X W b fb) : DS X W (.If c a b pos) (sIfS fc fa fb) := PS.of (ps_if hc ha hb) fun Dn σ H => by
  rintro ⟨P, F, m, e, h, S, E, fin⟩
  refine st_seq S E fin fun F1 m1 h1 H1 v d x S1 E1 r fin1 => ?_
  have r : v = d := r
  subst r
  cases v with
  | true => exact ⟨P, F1, m1, e, h1, S1, E1, fin1⟩
  | false => exact ⟨P, F1, m1, e, h1, S1, E1, fin1⟩
/-! ### targets -/
abbrev TF := D → Env' → OH → Option Env'
def rdTG (K : PySem.W.Frag) (vs : List Nat) (g : TF) : TG := fun v σ H Q => ∃ P F m e h d, Sim K P F m h H ∧ EnvR K F m σ e ∧ Den K F m v d ∧ ∃ e', g d e h = some e' ∧ ∀ σ', EnvR K F m σ' e' → L2.wipe σ' vs = L2.wipe σ vs → Q σ' H
abbrev DG (X : Cx) (vs : List Nat) (tg : Expr) (g : TF) : Prop := PG X tg (rdTG X.K vs g)
abbrev TFs := List D → Env' → OH → Option Env'
def rdTGs (K : PySem.W.Frag) (vs : List Nat) (g : TFs) : TGs := fun ws σ H Q => ∃ P F m e h ds, Sim K P F m h H ∧ EnvR K F m σ e ∧ DenL K F m ws ds ∧ ∃ e', g ds e h = some e' ∧ ∀ σ', EnvR K F m σ' e' → L2.wipe σ' vs = L2.wipe σ vs → Q σ' H
abbrev DGs (X : Cx) (vs : List Nat) (ts : List Expr) (g : TFs) : Prop := PGs X ts (rdTGs X.K vs g)
theorem PG.of {tg : Expr} {t t' : TG} (h : PG X tg t) (w : ∀ v σ H Q, t' v σ H Q → t v σ H Q) : PG X tg t' := ⟨fun pins s σ H v u Q I r q => h.run pins s σ H v u Q I r (w v σ H Q q)⟩
theorem PGs.of {ts : List Expr} {t t' : TGs} (h : PGs X ts t) (w : ∀ v σ H Q, t' v σ H Q → t v σ H Q) : PGs X ts t' := ⟨fun pins s σ H v u Q I r q => h.run pins s σ H v u Q I r (w v σ H Q q)⟩
theorem pgOr {tg : Expr} {t t' : TG} (h : PG X tg t) (h' : PG X tg t') : PG X tg (fun v σ H Q => t v σ H Q ∨ t' v σ H Q) := ⟨fun pins s σ H v u Q I r q => q.elim (h.run pins s σ H v u Q I r) (h'.run pins s σ H v u Q I r)⟩
def gN (i : Nat) : TF := fun d e _ => some (e.set i (some d))
def gNl : TFs := fun ds e _ => match ds with
  | [] => some e
  | _ => none
def gCs (g : TF) (r : TFs) : TFs := fun ds e h => match ds with
  | d :: ds => (g d e h).bind fun e1 => r ds e1 h
  | [] => none
/-- a tuple or a list of n -/
def gT (n : Nat) (g : TFs) : TF := fun d e h => match seqAt h d with
  | some xs => if xs.length = n then g xs e h else none
  | none => none
theorem dg_name (i : Nat) {x : Str} {pos : Pos} {vs : List Nat} (hN : X.N.Nodup) (hi : X.N[i]? = some x := by rfl) (hx : Loc X.env.scope x := by first | exact Or.inl rfl | exact Or.inr rfl) (hv : i ∈ vs := by simp) (hf : X.fn x = true ∨ X.env.scope.names.lookup x = some .local := by first | exact .inl rfl | exact .inr rfl | assumption) : DG X vs (.Name x pos) (gN i) :=
  PG.of (pg_name hN hi hx hf) fun v σ H Q => by
    rintro ⟨P, F, m, e, h, d, S, E, r, e', q, k⟩
    cases q
    exact k _ (E.set i r) (wipe_set hv)
theorem dg_nil {vs : List Nat} : DGs X vs [] gNl := PGs.of pgs_nil fun v σ H Q => by
  rintro ⟨P, F, m, e, h, ds, S, E, r, e', q, k⟩
  cases r with
  | nil =>
    cases q
    exact ⟨rfl, k σ E rfl⟩
  | cons _ _ => cases q
theorem dg_cons {t : Expr} {ts : List Expr} {vs : List Nat} {g : TF} {gr : TFs} (h1 : DG X vs t g) (h2 : DGs X vs ts gr) (hs : (assignEach (t :: ts) X.env).map (·.2) = assign t X.env :: (assignEach ts X.env).map (·.2) := by rfl) : DGs X vs (t :: ts) (gCs g gr) := PGs.of (pgs_cons h1 h2 hs) fun v σ H Q => by
  rintro ⟨P, F, m, e, h, ds, S, E, r, e', q, k⟩
  cases r with
  | nil => cases q
  | @cons v d ws ds a b =>
    simp only [gCs, Option.bind_eq_some_iff] at q
    obtain ⟨e1, q1, q2⟩ := q
    exact ⟨v, ws, rfl, P, F, m, e, h, d, S, E, a, e1, q1, fun σ1 E1 w1 => ⟨P, F, m, e1, h, ds, S, E1, b, e', q2, fun σ2 E2 w2 => k σ2 E2 (w2.trans w1)⟩⟩
theorem dg_tup {ts : List Expr} {n j : Nat} {vs : List Nat} {pos : Pos} {gr : TFs} (hc : X.calm = true) (h : DGs X vs ts gr) (hn : ts.length = n := by rfl) (h1 : PG X (.Tuple ts j pos) (gTup X.K n (rdTGs X.K vs gr))) (h2 : PG X (.Tuple ts j pos) (gLst X.K n (rdTGs X.K vs gr))) : DG X vs (.Tuple ts j pos) (gT n gr) :=
  PG.of (pgOr h1 h2) fun v σ H Q => by
    rintro ⟨P, F, m, e, h, d, S, E, r, e', q, k⟩
    unfold gT at q
    cases q1 : seqAt h d with
    | none => rw [q1] at q; cases q
    | some xs =>
      rw [q1] at q
      dsimp only at q
      by_cases hz : xs.length = n
      · rw [if_pos hz] at q
        obtain ⟨a, ws, rfl, ha, rl⟩ := seqAt_ok S r q1
        have body : rdTGs X.K vs gr ws σ H Q := ⟨P, F, m, e, h, xs, S, E, rl, e', q, k⟩
        rcases ha with ha | ha
        · exact .inr ⟨a, ws, rfl, ha, by rw [rl.length]; exact hz, body⟩
        · exact .inl ⟨a, ws, rfl, ha, by rw [rl.length]; exact hz, body⟩
      · rw [if_neg hz] at q
        cases q
/-- target = e, a tuple of names -/
def sAsg (g : TF) (f : SE) : SS := fun e h => (f e h).toS e fun d h1 => match g d e h1 with
  | some e1 => .nx e1 h1
  | none => .bad
theorem ds_asg {tg a : Expr} {vs : List Nat} {g : TF} {f : SE} {pos : Pos} (ha : DE X W a f) (hg : DG X vs tg g) (hs : swapsWithSole [tg] a pos.line X.env = pure false := by rfl) (hw : swappedStores [tg] a X.env = pure none := by rfl) (h1 : (assignEach [tg] X.env).map (·.2) = [assign tg X.env] := by rfl) : DS X W (.Assign [tg] a pos) (sAsg g f) :=
  PS.of (ps_asg ha hg hs hw h1) fun Dn σ H => by
    rintro ⟨P, F, m, e, h, S, E, fin⟩
    refine st_seq S E fin fun F1 m1 h1 H1 v d x S1 E1 r fin1 => ?_
    cases q : g d e h1 with
    | none => rw [q] at fin1; exact fin1.elim
    | some e1 =>
      rw [q] at fin1
      exact ⟨P, F1, m1, e, h1, d, S1, E1, r, e1, q, fun σ' E' _ => fin1 σ' F1 m1 H1 .refl S1 E'⟩
/-! ### x op= e -/
def sAug (i : Nat) (g : D → D → OH → Res D) (f : SE) : SS := fun e h => match e[i]? with
  | some (some x) => (f e h).toS e fun y h1 => (g x y h1).toS e fun z h2 => .nx (e.set i (some z)) h2
  | _ => .bad
/-- o.f = e -/
def sFldS (C f : String) (o v : SE) : SS := fun e h => (v e h).toS e fun y h1 => (o e h1).toS e fun x h2 => match x with
  | .ref i => (match h2[i]? with
    | some (.ins C' fs) => if C' = C ∧ fs.length < 900 then .nx e (h2.set i (.ins C (putS f y fs))) else .bad
    | _ => .bad)
  | _ => .bad
theorem putF_den {K : PySem.W.Frag} {F : Hp} {m : List Addr} {f : String} {v : V} {d : D} (r : Den K F m v d) : ∀ {fv : List (Str × V)} {fs : List (String × D)}, DenF K F m fv fs → DenF K F m (putF (Str.ofString f) v fv) (putS f d fs)
  | _, _, .nil => .cons r .nil
  | _, _, .cons (f := g) (d := d0) h t => by
    unfold putF putS
    by_cases e : g = f
    · subst e
      rw [if_pos rfl]
      first
        | (rw [if_pos rfl]; exact .cons r t)
        | (simp only [beq_self_eq_true, if_true]; exact .cons r t)
    · have e2 : ¬ Str.ofString g = Str.ofString f := fun z => e (ofString_inj z)
      rw [if_neg e]
      first
        | (rw [if_neg e2]; exact .cons h (putF_den r t))
        | (rw [if_neg (fun z => e2 z.symm)]; exact .cons h (putF_den r t))
theorem putS_keys {f : String} {d : D} : ∀ {fs : List (String × D)} {q : String × D}, q ∈ putS f d fs → q.1 = f ∨ ∃ p ∈ fs, p.1 = q.1
  | [], q, h => by
    simp only [putS, List.mem_singleton] at h
    subst h
    exact .inl rfl
  | (g, x) :: r, q, h => by
    unfold putS at h
    by_cases e : g = f
    · rw [if_pos e] at h
      rcases List.mem_cons.mp h with h | h
      · subst h; exact .inl e
      · exact .inr ⟨q, List.mem_cons_of_mem _ h, rfl⟩
    · rw [if_neg e] at h
      rcases List.mem_cons.mp h with h | h
      · subst h; exact .inr ⟨(g, x), List.mem_cons_self, rfl⟩
      · rcases putS_keys h with h | ⟨p, hp, e2⟩
        · exact .inl h
        · exact .inr ⟨p, List.mem_cons_of_mem _ hp, e2⟩
theorem DenF.length {K : PySem.W.Frag} {F : Hp} {m : List Addr} : ∀ {fv : List (Str × V)} {fs : List (String × D)}, DenF K F m fv fs → fv.length = fs.length
  | _, _, .nil => rfl
  | _, _, .cons _ t => by rw [List.length_cons, List.length_cons, DenF.length t]
theorem ds_fld {o a : Expr} {C f : String} {fo fa : SE} {pos pos' : Pos} (hn : NoAttr X.K (He.ga X.K (Str.ofString C)) (Str.ofString f)) (ho : DE X W o fo) (ha : DE X W a fa) (hs : swapsWith a (some (.Attribute o (Str.ofString f) pos')) pos.line X.env = pure false := by rfl) :
    DS X W (.Assign [.Attribute o (Str.ofString f) pos'] a pos) (sFldS C f fo fa) := PS.of (ps_fld ho ha hs) fun Dn σ H => by
  rintro ⟨P, F, m, e, h, S, E, fin⟩
  refine st_seq S E fin fun F1 m1 h1 H1 y dy x1 S1 E1 ry fin1 => ?_
  refine st_seq S1 E1 fin1 fun F2 m2 h2 H2 x dx x2 S2 E2 rx fin2 => ?_
  cases rx with
  | @ref b i e1 =>
    obtain ⟨ob, k1, k2⟩ := S2.own e1
    dsimp only at fin2
    rw [k1] at fin2
    cases ob with
    | ins C' fs =>
      dsimp only at fin2
      by_cases hz : C' = C ∧ fs.length < 900
      · rw [if_pos hz] at fin2
        obtain ⟨rfl, hl⟩ := hz
        obtain ⟨dx2, fv, k3, k4, k5, k6⟩ := k2
        have rd := putF_den (f := f) (ry.mono x2) k5
        refine ⟨b, _, dx2, fv, rfl, k3, k4.1, hn, by rw [k5.length]; omega, fin2 σ F2 m2 _ .refl (S2.write e1 k1 k6 ⟨dx2, _, upd_same, ⟨k4.1, fun q hq => ?_⟩, rd, k6⟩) E2⟩
        rcases putS_keys hq with h | ⟨p, hp, e2⟩
        · rw [h]; exact hn
        · rw [← e2]; exact k4.2 p hp
      · rw [if_neg hz] at fin2
        exact fin2.elim
    | _ => exact fin2.elim
  | _ => exact fin2.elim
/-- x[i] = e, x an own list -/
def sIxS (o i v : SE) : SS := fun e h => (v e h).toS e fun y h1 => (o e h1).toS e fun x h2 => (i e h2).toS e fun k h3 => match x, k with
  | .ref n, .int j => (match h3[n]? with
    | some (.lst xs) => (match ixN xs.length j with
      | some q => .nx e (h3.set n (.lst (xs.set q y)))
      | none => .bad)
    | _ => .bad)
  | _, _ => .bad
theorem ds_ix {o i a : Expr} {fo fi fa : SE} {pos pos' : Pos} (ho : DE X W o fo) (hi : DE X W i fi) (ha : DE X W a fa)
    (hg : PG X (.Subscript o i pos') (gSub (rdG X.K W (Den X.K) fo) (rdG X.K W (Den X.K) fi) rSetL)) (hs : swapsWithSole [.Subscript o i pos'] a pos.line X.env = pure false := by rfl) (hw : swappedStores [.Subscript o i pos'] a X.env = pure none := by rfl) (h1 : (assignEach [.Subscript o i pos'] X.env).map (·.2) = [assign (.Subscript o i pos') X.env] := by rfl) :
    DS X W (.Assign [.Subscript o i pos'] a pos) (sIxS fo fi fa) := PS.of (ps_asg ha hg hs hw h1) fun Dn σ H => by
  rintro ⟨P, F, m, e, h, S, E, fin⟩
  refine st_seq S E fin fun F1 m1 h1 H1 y dy x1 S1 E1 ry fin1 => ?_
  refine st_seq S1 E1 fin1 fun F2 m2 h2 H2 x dx x2 S2 E2 rx fin2 => ?_
  refine st_seq S2 E2 fin2 fun F3 m3 h3 H3 z dz x3 S3 E3 rz fin3 => ?_
  cases rx with
  | @ref b n e1 =>
    cases rz with
    | int j =>
      have e2 := pre_get x3.p e1
      obtain ⟨ob, k1, k2⟩ := S3.own e2
      dsimp only at fin3
      rw [k1] at fin3
      cases ob with
      | lst xs =>
        dsimp only at fin3
        obtain ⟨vs, k3, k4, k5⟩ := k2
        cases q : ixN xs.length j with
        | none => rw [q] at fin3; exact fin3.elim
        | some t =>
          rw [q] at fin3
          exact ⟨b, vs, j, t, rfl, rfl, k3, by rw [k4.length]; exact q, fin3 σ F3 m3 _ .refl (S3.write e2 k1 k5 ⟨_, upd_same, k4.set (ry.mono (x2.trans x3)) t, k5⟩) E3⟩
      | _ => exact fin3.elim
    | _ => exact fin3.elim
  | _ => cases dz <;> exact fin3.elim
/-! ### while -/
end
end HR
set_option Elab.async false
set_option linter.all false
set_option maxRecDepth 100000
set_option maxHeartbeats 2000000
/-! LayF: what is walked, for, comprehensions, defs and their calls, the law's end. -/
namespace HR
open PySem L2
open PyProof.Rows (envOfC)
/-- the iterator J gives ds -/
def Walks (K : PySem.W.Frag) (F0 : Hp) (m0 : List Addr) (J : It) (ds : List D) : Prop :=
  ∀ (P : Pins) (F : Hp) (m : List Addr) (h : OH) (H : Hp) (i : Nat), Ext F0 m0 F m → Sim K P F m h H →
    (i < ds.length → J.go i H ∧ ∀ x H', J.yld i H x H' → ∃ F', Ext F m F' m ∧ Sim K P F' m h H' ∧ ∃ d, ds[i]? = some d ∧ Den K F' m x d) ∧ (ds.length ≤ i → J.stop i H)
abbrev relI (K : PySem.W.Frag) : Rel It (List D) := fun F m J ds => Walks K F m J ds
abbrev DI (X : Cx) (W : WX) (tg iter : Expr) (f : SA) : Prop := PI X tg iter (rdG X.K W (relI X.K) f)
theorem Walks.mono {K : PySem.W.Frag} {F F' : Hp} {m m' : List Addr} {J : It} {ds : List D} (x : Ext F m F' m') (w : Walks K F m J ds) : Walks K F' m' J ds := fun P F2 m2 h H i y S => w P F2 m2 h H i (x.trans y) S
theorem PI.of {X : Cx} {tg iter : Expr} {w w' : TI} (h : PI X tg iter w) (k : ∀ σ H R, w' σ H R → w σ H R) : PI X tg iter w' := ⟨fun pins s σ H R I q => h.run pins s σ H R I (k σ H R q)⟩
section
variable {X : Cx} {W : WX}
/-- what a for takes from a frozen list or tuple -/
def frzAt : D → Option (List D)
  | .lst xs => some xs
  | .scr xs => some xs
  | _ => none
theorem den_sq {K : PySem.W.Frag} {F : Hp} {m : List Addr} {v : V} {d : D} {xs : List D} (r : Den K F m v d) (q : frzAt d = some xs) : ∃ a vs, v = .ref a ∧ SqL K F a vs ∧ DenL K F m vs xs := by
  cases r with
  | lst e t => cases q; exact ⟨_, _, rfl, .inl (.inl e), t⟩
  | scr e t => cases q; exact ⟨_, _, rfl, e, t⟩
  | _ => cases q
theorem walks_list {K : PySem.W.Frag} {F : Hp} {m : List Addr} {a : Addr} {vs : List V} {xs : List D} (q : SqL K F a vs) (r : DenL K F m vs xs) : Walks K F m (Itl K a) xs := by
  intro P F2 m2 h H i x S
  have q2 : SqL K H a vs := S.sub.seq (x.s.seq q)
  refine ⟨fun hi => ?_, fun hi => ⟨vs, q2, by rw [r.length]; exact hi⟩⟩
  have hv : i < vs.length := by rw [r.length]; exact hi
  refine ⟨⟨vs, vs[i], q2, List.getElem?_eq_getElem hv⟩, fun y H' yl => ?_⟩
  obtain ⟨rfl, yl⟩ := yl
  obtain ⟨d, e1, r1⟩ := r.getV (yl vs q2)
  exact ⟨F2, .refl, S, d, e1, r1.mono x⟩
theorem walks_tup {K : PySem.W.Frag} {F : Hp} {m : List Addr} {a : Addr} {vs : List V} {xs : List D} (q : SqT K F a vs) (r : DenL K F m vs xs) : Walks K F m (Itt K a) xs := by
  intro P F2 m2 h H i x S
  have q2 : SqT K H a vs := Same.sqT S.sub (Same.sqT x.s q)
  refine ⟨fun hi => ?_, fun hi => ⟨vs, q2, by rw [r.length]; exact hi⟩⟩
  have hv : i < vs.length := by rw [r.length]; exact hi
  refine ⟨⟨vs, vs[i], q2, List.getElem?_eq_getElem hv⟩, fun y H' yl => ?_⟩
  obtain ⟨rfl, yl⟩ := yl
  obtain ⟨d, e1, r1⟩ := r.getV (yl vs q2)
  exact ⟨F2, .refl, S, d, e1, r1.mono x⟩
def rngD (lo : Int) (n : Nat) : List D := (List.range n).map fun (k : Nat) => D.int (lo + k)
theorem walks_rng {K : PySem.W.Frag} {F : Hp} {m : List Addr} (lo : Int) (n : Nat) : Walks K F m (Itr lo n) (rngD lo n) := by
  intro P F2 m2 h H i x S
  have hl : (rngD lo n).length = n := by simp [rngD]
  rw [hl]
  refine ⟨fun hi => ⟨hi, fun y H' yl => ?_⟩, fun hi => hi⟩
  obtain ⟨rfl, rfl⟩ := yl
  exact ⟨F2, .refl, S, .int (lo + i), by simp [rngD, hi], .int _⟩
/-- a list or a tuple -/
def sItS (f : SE) : SA := fun e h => (f e h).bind fun d h1 => match d with
  | .tup xs => .ok xs h1
  | d => (match frzAt d with
    | some xs => .ok xs h1
    | none => .bad)
theorem pi_or {tg iter : Expr} {w w' : TI} (a : PI X tg iter w) (b : PI X tg iter w') : PI X tg iter (fun σ H R => w σ H R ∨ w' σ H R) := ⟨fun pins s σ H R I q => q.elim (a.run pins s σ H R I) (b.run pins s σ H R I)⟩
/-- what both walk: decided by the value (the expression is read once by either rule) -/
theorem di_seq {tg a : Expr} {f : SE} (ha : DE X W a f) : DI X W tg a (sItS f) := PI.of (pi_or (pi_list ha) (pi_tup ha)) fun σ H R => by
  rintro ⟨P, F, m, e, h, S, E, fin⟩
  cases q : f e h with
  | bad => unfold sItS at fin; rw [q] at fin; exact fin.elim
  | exc C p h1 =>
    unfold sItS at fin
    rw [q] at fin
    exact .inl ⟨P, F, m, e, h, S, E, by rw [q]; exact fin⟩
  | ok d h1 =>
    unfold sItS at fin
    rw [q] at fin
    simp only [Res.bind_ok] at fin
    cases d with
    | tup xs =>
      refine .inr ⟨P, F, m, e, h, S, E, ?_⟩
      rw [q]
      intro v F1 m1 H1 x S1 r
      cases r with
      | @tup b vs ds q rl => exact ⟨b, rfl, ⟨vs, .inl (.inl (S1.sub _ _ q))⟩, FinG.okX fin x S1 (walks_tup (.inl (.inl q)) rl)⟩
    | _ =>
      refine .inl ⟨P, F, m, e, h, S, E, ?_⟩
      rw [q]
      intro v F1 m1 H1 x S1 r
      first
        | exact False.elim fin
        | (obtain ⟨b, vs, rfl, hb, rl⟩ := den_sq r rfl
           exact ⟨b, rfl, ⟨vs, S1.sub.seq hb⟩, FinG.okX fin x S1 (walks_list hb rl)⟩)
def rngOk (i : Int) : Bool := decide (-(2 ^ 62) ≤ i) && decide (i < 2 ^ 62)
def sRng1 (a : SE) : SA := fun e h => (a e h).bind fun d h1 => match d with
  | .int j => if rngOk j then .ok (rngD 0 j.toNat) h1 else .bad
  | _ => .bad
def sRng2 (a b : SE) : SA := fun e h => (a e h).bind fun d h1 => (b e h1).bind fun d2 h2 => match d, d2 with
  | .int i, .int j => if rngOk i && rngOk j then .ok (rngD i (j - i).toNat) h2 else .bad
  | _, _ => .bad
theorem rngOk_ok {i : Int} (h : rngOk i = true) : -(2 ^ 62) ≤ i ∧ i < 2 ^ 62 := by
  unfold rngOk at h
  simpa using h
theorem di_rng1 {tg a : Expr} {f : SE} {p pos : Pos} (hg : Gl X "range") (hm : X.mg "range" = none) (ha : DE X W a f) (he : starEach [a] X.env = (false, eval a X.env) :: starEach [] X.env := by rfl) (hs : starEach [a] X.env = [(false, eval a X.env)] := by rfl) : DI X W tg (.Call (.Name "range" p) [a] [] pos) (sRng1 f) :=
  PI.of (pi_range1 hg hm (da_cons ha da_nil he) hs) fun σ H R => by
    rintro ⟨P, F, m, e, h, S, E, fin⟩
    refine ⟨P, F, m, e, h, S, E, ?_⟩
    unfold sRng1 at fin
    unfold sCons sNil
    cases q : f e h with
    | bad => rw [q] at fin; exact fin.elim
    | exc C p h1 => rw [q] at fin; exact fin
    | ok d h1 =>
      rw [q] at fin
      simp only [Res.bind_ok] at fin ⊢
      intro vs F1 m1 H1 x S1 r
      obtain ⟨v, rfl, r1⟩ := denL1 r
      cases d with
      | int j =>
        cases den_int r1
        dsimp only at fin
        by_cases hk : rngOk j = true
        · rw [if_pos hk] at fin
          have k := rngOk_ok hk
          exact ⟨j, rfl, k.1, k.2, FinG.okX fin x S1 (walks_rng 0 _)⟩
        · rw [if_neg hk] at fin
          exact fin.elim
      | _ => exact False.elim fin
theorem di_rng2 {tg a b : Expr} {f g : SE} {p pos : Pos} (hg : Gl X "range") (hm : X.mg "range" = none) (ha : DE X W a f) (hb : DE X W b g) (he : starEach [a, b] X.env = (false, eval a X.env) :: starEach [b] X.env := by rfl) (he2 : starEach [b] X.env = (false, eval b X.env) :: starEach [] X.env := by rfl)
    (hs : starEach [a, b] X.env = [(false, eval a X.env), (false, eval b X.env)] := by rfl) (hs2 : starEach [b] X.env = [(false, eval b X.env)] := by rfl) : DI X W tg (.Call (.Name "range" p) [a, b] [] pos) (sRng2 f g) :=
  PI.of (pi_range2 hg hm (da_cons ha (da_cons hb da_nil he2) he) hs hs2) fun σ H R => by
    rintro ⟨P, F, m, e, h, S, E, fin⟩
    refine ⟨P, F, m, e, h, S, E, ?_⟩
    unfold sRng2 at fin
    unfold sCons sNil
    cases q : f e h with
    | bad => rw [q] at fin; exact fin.elim
    | exc C p h1 => rw [q] at fin; exact fin
    | ok d h1 =>
      rw [q] at fin
      simp only [Res.bind_ok] at fin ⊢
      cases q2 : g e h1 with
      | bad => rw [q2] at fin; exact fin.elim
      | exc C p h2 => rw [q2] at fin; exact fin
      | ok d2 h2 =>
        rw [q2] at fin
        simp only [Res.bind_ok] at fin ⊢
        intro vs F1 m1 H1 x S1 r
        obtain ⟨v, v2, rfl, r1, r2⟩ := denL2 r
        cases d with
        | int i =>
          cases d2 with
          | int j =>
            cases den_int r1
            cases den_int r2
            dsimp only at fin
            by_cases hk : (rngOk i && rngOk j) = true
            · rw [if_pos hk] at fin
              obtain ⟨k1, k2⟩ := and2 hk
              have k1 := rngOk_ok k1
              have k2 := rngOk_ok k2
              exact ⟨i, j, rfl, ⟨k1.1, k1.2, k2.1, k2.2⟩, FinG.okX fin x S1 (walks_rng i _)⟩
            · rw [if_neg hk] at fin
              exact fin.elim
          | _ => exact False.elim fin
        | _ => cases d2 <;> exact False.elim fin
/-! ### for -/
def forL (g : TF) (b : SS) : List D → SS
  | [] => fun e h => .nx e h
  | d :: ds => fun e h => match g d e h with
    | none => .bad
    | some e1 => (match b e1 h with
      | .nx e2 h2 => forL g b ds e2 h2
      | .ct e2 h2 => forL g b ds e2 h2
      | .bk e2 h2 => .nx e2 h2
      | r => r)
def sFor (it : SA) (g : TF) (b : SS) : SS := fun e h => (it e h).toS e fun ds h1 => forL g b ds e h1
theorem ds_for {tg iter : Expr} {body : List Stmt} {pos : Pos} {it : SA} {vs : List Nat} {g : TF} {b : SS} (hp : PassesOwn (model X.prog X.w) X.A X.env X.xe) (hc : X.calm = true) (hi : DI X W tg iter it) (hg : DG X vs tg g) (hb : DSs X W body b) (hs : ∀ x, foldedSetIterable iter X.env x = pure x := by intro _; rfl) :
    DS X W (.For tg iter body [] pos) (sFor it g b) := PS.of (ps_for hp hc hi hg hb hs) fun Dn σ H => by
  rintro ⟨P0, F0, m0, e0, h0, S0, E0, fin0⟩
  refine st_seq S0 E0 fin0 fun F1 m1 h1 H1 J ds x1 S1 E1 wk fin1 => ?_
  let Wd : Nat → Nat → St → Hp → Prop := fun i n σ H => ∃ P F m e h, Sim X.K P F m h H ∧ EnvR X.K F m σ e ∧ Ext F1 m1 F m ∧ n = (ds.drop i).length ∧ FinS X.K P W Dn F m (forL g b (ds.drop i) e h)
  refine ⟨Wd, ⟨ds.length, P0, F1, m1, e0, h1, S1, E1, .refl, by simp, by simpa using fin1⟩, ?_⟩
  rintro i n σ H ⟨P, F, m, e, h, S, E, x, rfl, fin⟩
  obtain ⟨w1, w2⟩ := wk P F m h H i x S
  by_cases hi : i < ds.length
  · obtain ⟨go, yl⟩ := w1 hi
    have dr : ds.drop i = ds[i] :: ds.drop (i + 1) := List.drop_eq_getElem_cons hi
    rw [dr] at fin
    refine .inr ⟨go, fun σ' H' => Wd (i + 1) (ds.drop (i + 1)).length σ' H', fun σ' H' q => ⟨_, by rw [dr]; exact Nat.lt_succ_self _, q⟩, fun y H' hy => ?_⟩
    obtain ⟨F2, x2, S2, d, e1, r⟩ := yl y H' hy
    have ed : d = ds[i] := by
      rw [List.getElem?_eq_getElem hi] at e1
      exact (Option.some.inj e1).symm
    subst ed
    simp only [forL] at fin
    cases q : g ds[i] e h with
    | none => rw [q] at fin; exact fin.elim
    | some e2 =>
      rw [q] at fin
      refine ⟨P, F2, m, e, h, _, S2, E.mono x2, r, e2, q, fun σ' E' _ => ⟨P, F2, m, e2, h, S2, E', ?_⟩⟩
      dsimp only at fin
      cases q3 : b e2 h with
      | nx e3 h3 => rw [q3] at fin; exact fun σ3 F3 m3 H3 x3 S3 E3 => ⟨P, F3, m3, e3, h3, S3, E3, x.trans (x2.trans x3), rfl, FinS.weak (x2.trans x3) fin⟩
      | ct e3 h3 => rw [q3] at fin; exact fun σ3 F3 m3 H3 x3 S3 E3 => ⟨P, F3, m3, e3, h3, S3, E3, x.trans (x2.trans x3), rfl, FinS.weak (x2.trans x3) fin⟩
      | bk e3 h3 => rw [q3] at fin; exact fun σ3 F3 m3 H3 x3 S3 E3 => fin σ3 F3 m3 H3 (x2.trans x3) S3 E3
      | rt d3 h3 => rw [q3] at fin; exact fun v F3 m3 H3 x3 S3 r3 => fin v F3 m3 H3 (x2.trans x3) S3 r3
      | exc C p e3 h3 => rw [q3] at fin; exact fun od σ3 F3 m3 H3 x3 S3 pd E3 => fin od σ3 F3 m3 H3 (x2.trans x3) S3 pd E3
      | bad => rw [q3] at fin; exact fin.elim
  · have hi2 : ds.length ≤ i := Nat.le_of_not_lt hi
    rw [List.drop_eq_nil_of_le hi2] at fin
    exact .inl ⟨w2 hi2, fin σ F m H .refl S E⟩
/-! ### comprehensions -/
def Res.noX {α : Type} : Res α → Res α
  | .ok a h => .ok a h
  | _ => .bad
def lcGo (g : TF) (tt : ST) (el : SE) (e : Env') : List D → OH → List D → Res (List D)
  | [], h, acc => .ok acc h
  | d :: ds, h, acc => match g d e h with
    | none => .bad
    | some e1 => (tt e1 h).noX.bind fun b h1 => if b then (el e1 h1).noX.bind fun y h2 => if acc.length < big then lcGo g tt el e ds h2 (acc ++ [y]) else .bad else lcGo g tt el e ds h1 acc
def sLc (own : Bool) (it : SA) (g : TF) (tt : ST) (el : SE) (vs : List Nat) : SE := fun e h => (it e h).bind fun ds h1 => (lcGo g tt el (wipeD e vs) ds h1 []).bind fun acc h2 => if own then .ok (.ref h2.length) (h2 ++ [.lst acc]) else .ok (.lst acc) h2
def sYes : ST := fun _ h => .ok true h
abbrev W0 : WX := fun _ _ _ _ => False
abbrev DTs (X : Cx) (W : WX) (ifs : List Expr) (f : ST) : Prop := PTs X ifs (rdG X.K W relB f)
theorem PTs.of {ifs : List Expr} {t t' : TT} (h : PTs X ifs t) (w : ∀ σ H Q, t' σ H Q → t σ H Q) : PTs X ifs t' := by
  obtain ⟨h⟩ := h
  constructor
  intro pins s σ H Q I q
  exact h pins s σ H Q I (w σ H Q q)
theorem dts_nil : DTs X W [] sYes := PTs.of pts_nil fun σ H Q => by
  rintro ⟨P, F, m, e, h, S, E, fin⟩
  exact fin.ok S rfl
theorem dts_one {c : Expr} {f : ST} (h : DT X W c f) : DTs X W [c] f := pts_one h
theorem lc_rd {it : SA} {g : TF} {tt : ST} {el : SE} {vs : List Nat} (own : Bool) {σ : St} {H : Hp} {Q : VK} (q : rdG X.K W (Den X.K) (sLc own it g tt el vs) σ H Q) :
    tLc (rdG X.K W (relI X.K) it) (rdTG X.K vs g) (rdG X.K W0 relB tt) (rdG X.K W0 (Den X.K) el) vs σ H Q := by
  obtain ⟨P0, F0, m0, e0, h0, S0, E0, fin0⟩ := q
  refine rd_seq S0 E0 fin0 fun F1 m1 h1 H1 J ds x1 S1 E1 wk fin1 => ?_
  intro D0 hD
  let go := lcGo g tt el (wipeD e0 vs)
  let fl : List D → OH → Res D := fun acc h2 => if own then .ok (.ref h2.length) (h2 ++ [.lst acc]) else .ok (.lst acc) h2
  let Wd : Nat → Nat → Hp → Prop := fun i n H => ∃ F m h acc ws, Sim X.K ((D0, .lst ws) :: P0) F m h H ∧ Ext F1 m1 F m ∧ DenL X.K F m ws acc ∧ acc.length ≤ big ∧ n = (ds.drop i).length ∧ FinG X.K P0 W σ (Den X.K) Q F m ((go (ds.drop i) h acc).bind fl)
  refine ⟨Wd, ⟨ds.length, F1, m1, h1, [], [], S1.hid hD, .refl, .nil, Nat.zero_le _, by simp, by simpa using fin1⟩, ?_⟩
  rintro i n H ⟨F, m, h, acc, ws, S, x, ra, hl, rfl, fin⟩
  obtain ⟨w1, w2⟩ := wk _ F m h H i x S
  by_cases hi : i < ds.length
  · obtain ⟨go1, yl⟩ := w1 hi
    have dr : ds.drop i = ds[i] :: ds.drop (i + 1) := List.drop_eq_getElem_cons hi
    rw [dr] at fin
    refine .inr ⟨go1, fun H' => Wd (i + 1) (ds.drop (i + 1)).length H', fun H' q => ⟨_, by rw [dr]; exact Nat.lt_succ_self _, q⟩, fun y H' hy => ?_⟩
    obtain ⟨F2, x2, S2, d, e1, r⟩ := yl y H' hy
    have ed : d = ds[i] := by
      rw [List.getElem?_eq_getElem hi] at e1
      exact (Option.some.inj e1).symm
    subst ed
    simp only [go, lcGo] at fin
    have E2 : EnvR X.K F2 m (L2.wipe σ vs) (wipeD e0 vs) := ((E1.mono (x.trans x2))).wipe vs
    cases q : g ds[i] (wipeD e0 vs) h with
    | none => rw [q] at fin; exact fin.elim
    | some e2 =>
      rw [q] at fin
      dsimp only at fin
      refine ⟨_, F2, m, wipeD e0 vs, h, _, S2, E2, r, e2, q, fun σ' E' wi => ⟨?_, _, F2, m, e2, h, S2, E', ?_⟩⟩
      · have idem : L2.wipe (L2.wipe σ vs) vs = L2.wipe σ vs := by
          have key : ∀ (us : List Nat) (τ : St), (∀ u ∈ us, ∀ z, τ[u]? = some z → z = none) → L2.wipe τ us = τ := by
            intro us
            induction us with
            | nil => intro τ _; rfl
            | cons u us ih =>
              intro τ hz
              show (L2.wipe τ us).set u none = τ
              rw [ih τ fun w hw => hz w (List.mem_cons_of_mem _ hw)]
              apply List.ext_getElem?
              intro j
              by_cases hj : u = j
              · subst hj
                rw [List.getElem?_set]
                simp only [if_true]
                by_cases hu : u < τ.length
                · rw [if_pos hu, List.getElem?_eq_getElem hu, hz u List.mem_cons_self τ[u] (List.getElem?_eq_getElem hu)]
                · rw [if_neg hu, List.getElem?_eq_none (Nat.le_of_not_lt hu)]
              · rw [List.getElem?_set_ne hj]
          refine key vs _ fun u hu z hz => ?_
          have cl : ∀ (us : List Nat) (τ : St), u ∈ us → (L2.wipe τ us)[u]? = some z → z = none := by
            intro us
            induction us with
            | nil => intro τ h; simp at h
            | cons w us ih =>
              intro τ h hz
              have hz : ((L2.wipe τ us).set w none)[u]? = some z := hz
              by_cases hw : w = u
              · subst hw
                rw [List.getElem?_set] at hz
                simp only [if_true] at hz
                split at hz
                · simpa using hz.symm
                · cases hz
              · rw [List.getElem?_set_ne hw] at hz
                rcases List.mem_cons.mp h with h | h
                · exact absurd h.symm hw
                · exact ih τ h hz
          exact cl vs σ hu hz
        rw [wi, idem]
      · cases qt : tt e2 h with
        | bad => rw [qt] at fin; exact fin.elim
        | exc C p h3 => rw [qt] at fin; exact fin.elim
        | ok b h3 =>
          rw [qt] at fin
          simp only [Res.noX, Res.bind_ok] at fin
          intro b' F3 m3 H3 x3 S3 rb
          have rb : b' = b := rb
          subst rb
          cases b' with
          | false =>
            simp only [Bool.false_eq_true, if_false] at fin ⊢
            exact ⟨F3, m3, h3, acc, ws, S3, x.trans (x2.trans x3), ra.mono (x2.trans x3), hl, rfl, FinG.weak (x2.trans x3) fin⟩
          | true =>
            simp only [if_true] at fin ⊢
            refine ⟨_, F3, m3, e2, h3, S3, E'.mono x3, ?_⟩
            cases qe : el e2 h3 with
            | bad => rw [qe] at fin; exact fin.elim
            | exc C p h4 => rw [qe] at fin; exact fin.elim
            | ok z h4 =>
              rw [qe] at fin
              simp only [Res.noX, Res.bind_ok] at fin
              intro v F4 m4 H4 x4 S4 rv
              have xx := x2.trans (x3.trans x4)
              by_cases hz : acc.length < big
              · rw [if_pos hz] at fin
                refine ⟨ws, (S4.pin _ List.mem_cons_self).1, by rw [ra.length]; exact big_lt hz, F4, m4, h4, acc ++ [z], ws ++ [v], S4.hidSet, x.trans xx, (ra.mono xx).append (.cons rv .nil), by simp; omega, rfl, FinG.weak xx fin⟩
              · rw [if_neg hz] at fin
                exact fin.elim
  · have hi2 : ds.length ≤ i := Nat.le_of_not_lt hi
    rw [List.drop_eq_nil_of_le hi2] at fin
    refine .inl ⟨w2 hi2, ?_⟩
    simp only [go, lcGo, Res.bind_ok, fl] at fin
    cases own with
    | true =>
      exact FinG.okX fin ext_new (S.hidOwn ra) (.ref (by rw [← S.len]; simp))
    | false =>
      obtain ⟨k1, k2, k3⟩ := S.pin _ List.mem_cons_self
      exact FinG.okX fin (ext_frz k2) S.hidFrz (.lst upd_same (ra.mono (ext_frz k2)))
theorem de_lc {elt tg iter : Expr} {ifs : List Expr} {scope : Scope} (own : Bool) (ow : List (Str × Nat)) {pos : Pos} {it : SA} {g : TF} {tt : ST} {el : SE} (hc : X.calm = true) (hN : X.N.Nodup) (hi : DI X W tg iter it) (ok : BlkOk X.N X.env.scope scope ow)
    (hg : ∀ (s : Shared) (H : Hp) (C : Addr) (cl : List (Str × Addr)) (fp : List Addr), DG (X.blk s H scope (compEnvC scope cl C X.env) fp) (ow.map (·.2)) tg g) (ht : ∀ (s : Shared) (H : Hp) (C : Addr) (cl : List (Str × Addr)) (fp : List Addr), DTs (X.blk s H scope (compEnvC scope cl C X.env) fp) W0 ifs tt)
    (he : ∀ (s : Shared) (H : Hp) (C : Addr) (cl : List (Str × Addr)) (fp : List Addr), DE (X.blk s H scope (compEnvC scope cl C X.env) fp) W0 elt el) (hs : ∀ x, foldedSetIterable iter X.env x = pure x := by intro _; rfl) :
    DE X W (.ListComp elt [⟨tg, iter, ifs, 0⟩] scope pos) (sLc own it g tt el (ow.map (·.2))) := PE.of (pe_lc hc hN hi ok hg ht he hs) fun σ H Q => lc_rd own
theorem ds_setLc (i : Nat) {y : Str} {py : Pos} {elt tg iter : Expr} {ifs : List Expr} {scope : Scope} (own : Bool) (ow : List (Str × Nat)) {pos spos : Pos} {it : SA} {g : TF} {tt : ST} {el : SE} (hc : X.calm = true) (hN : X.N.Nodup) (hi : DI X W tg iter it) (ok : BlkOk X.N X.env.scope scope ow)
    (hg : ∀ (s : Shared) (H : Hp) (C : Addr) (cl : List (Str × Addr)) (fp : List Addr), DG (X.blk s H scope (compEnvC scope cl C X.env) fp) (ow.map (·.2)) tg g) (ht : ∀ (s : Shared) (H : Hp) (C : Addr) (cl : List (Str × Addr)) (fp : List Addr), DTs (X.blk s H scope (compEnvC scope cl C X.env) fp) W0 ifs tt)
    (he : ∀ (s : Shared) (H : Hp) (C : Addr) (cl : List (Str × Addr)) (fp : List Addr), DE (X.blk s H scope (compEnvC scope cl C X.env) fp) W0 elt el)
    (hsw : swapsWith (.ListComp elt [⟨tg, iter, ifs, 0⟩] scope pos) (some (.Name y py)) spos.line X.env = pure true) (hy : X.N[i]? = some y := by rfl) (hyl : X.env.scope.names.lookup y = some .local := by rfl) (hs : ∀ x, foldedSetIterable iter X.env x = pure x := by intro _; rfl) :
    DS X W (.Assign [.Name y py] (.ListComp elt [⟨tg, iter, ifs, 0⟩] scope pos) spos) (sSet i (sLc own it g tt el (ow.map (·.2)))) := PS.of (ps_setLc (own := ow) hc hN hy hyl hsw hi ok hg ht he hs) fun Dn σ H => by
  rintro ⟨P, F, m, e, h, S, E, fin⟩
  refine lc_rd (W := W) own (st_seq S E fin fun F1 m1 h1 H1 v d x S1 E1 r fin1 => ?_)
  exact fin1 _ F1 m1 H1 .refl S1 (E1.set i r)
/-! ### defs -/
def fnOf (n : Nat) (body : SS) : FN := fun ds h => match body (ds.map some ++ List.replicate (n - ds.length) none) h with
  | .nx _ h1 => .ok .non h1
  | .rt d h1 => .ok d h1
  | .exc C p _ h1 => .exc C p h1
  | _ => .bad
def spN (K : PySem.W.Frag) (np : Nat) (f : FN) : Sp := fun vs H Q E => vs.length = np ∧ ∃ P F m ds h, Sim K P F m h H ∧ DenL K F m vs ds ∧ FinG K P (fun cls od _ H => E cls od H) [] (Den K) Q F m (f ds h)
theorem fn_ok {P : Program} {w : World} {K : PySem.W.Frag} {mg : Str → Option Value} {base : Heap} {CX : CXT} {x qual : Str} {params : Arguments} {body : List Stmt} {scope : Scope} {dvs : List V} {kws : List (Str × V)} {f : Addr} {fd : FuncData} {N ps : List Str} {k : Nat} {fB : SS}
    (Fu : FunD K x qual params body scope dvs kws f fd) (S : FnScope N ps scope) (hN : ps.length ≤ N.length)
    (hb : ∀ (cdv : Value) (A : Around) (outer : List Env) (s : Shared) (H : Hp) (E : XK), Room k (A.deeper (envOfC qual scope s.heap.objs.size f cdv)) → DSs (cxOf CX P w K mg base N qual scope f cdv A outer s H E) (fun cls od _ H => E cls od H) body fB) :
    FnOk P w K mg base CX (k + 1) f fd ps (spN K ps.length (fnOf N.length fB)) := by
  refine Fu.ok S (fun vs H Q E h => h.1) (fun cdv A outer s H vs Q E hr h => ?_)
  obtain ⟨hl, P0, F, m, ds, h, S0, r, fin⟩ := h
  refine ⟨_, hb cdv A outer s H E hr, P0, F, m, _, h, S0, (⟨?_, fun i d q => ?_⟩ : EnvR K F m (L2.start N vs) (ds.map some ++ List.replicate (N.length - ds.length) none)), ?_⟩
  · unfold L2.start
    simp [r.length]
  · have hi : i < ds.length := by
      by_cases hi : i < ds.length
      · exact hi
      · rw [List.getElem?_append_right (by simp; omega)] at q
        rw [List.getElem?_replicate] at q
        split at q <;> cases q
    rw [List.getElem?_append_left (by simpa using hi)] at q
    simp only [List.getElem?_map, Option.map_eq_some_iff] at q
    obtain ⟨d', q1, q2⟩ := q
    simp only [Option.some.injEq] at q2
    subst q2
    obtain ⟨v, e1, r1⟩ := r.get q1
    refine ⟨v, ?_, r1⟩
    unfold L2.start
    rw [List.getElem?_append_left (by simp; rw [r.length]; exact hi)]
    simp [e1]
  · unfold fnOf at fin
    cases q : fB (ds.map some ++ List.replicate (N.length - ds.length) none) h with
    | nx e1 h1 => rw [q] at fin; exact fun σ F1 m1 H1 x1 S1 E1 => fin .non F1 m1 H1 x1 S1 .non
    | rt d h1 => rw [q] at fin; exact fin
    | exc C p e1 h1 => rw [q] at fin; exact fun od σ F1 m1 H1 x1 S1 pd E1 => fin od F1 m1 H1 x1 S1 pd
    | bk e1 h1 => rw [q] at fin; exact fin.elim
    | ct e1 h1 => rw [q] at fin; exact fin.elim
    | bad => rw [q] at fin; exact fin.elim
/-! ### calls -/
/-- a call that sees none of the own objects -/
def pureF (f : FN) : FN := fun ds h => if D.pureL ds then (match f ds [] with
  | .ok d _ => if d.pure then .ok d h else .bad
  | .exc C none _ => .exc C none h
  | .exc C (some q) _ => if q.2.pure then .exc C (some q) h else .bad
  | .bad => .bad) else .bad
theorem pure_sp {K : PySem.W.Frag} {np : Nat} {f : FN} {vs : List V} {H : Hp} {Q : VK} {E : XK} (h : spN K np (pureF f) vs H Q E) : spN K np f vs H Q E := by
  obtain ⟨hl, P, F, m, ds, h, S, r, fin⟩ := h
  unfold pureF at fin
  by_cases hp : D.pureL ds = true
  · rw [if_pos hp] at fin
    refine ⟨hl, _, F, [], ds, [], S.hide, r.pureM hp, ?_⟩
    cases q : f ds [] with
    | ok d h' =>
      rw [q] at fin
      dsimp only at fin
      by_cases hd : d.pure = true
      · rw [if_pos hd] at fin
        exact fun v F' m' H' x S' rv => FinG.okX fin ⟨x.s, List.prefix_rfl⟩ (S.unhide x.s S') (rv.pureM hd)
      · rw [if_neg hd] at fin
        exact fin.elim
    | exc C p h' =>
      rw [q] at fin
      cases p with
      | none =>
        intro od F' m' H' x S' pd
        exact fin od F' m H' ⟨x.s, List.prefix_rfl⟩ (S.unhide x.s S') pd
      | some z =>
        dsimp only at fin
        by_cases hd : z.2.pure = true
        · rw [if_pos hd] at fin
          intro od F' m' H' x S' pd
          obtain ⟨a, v, e1, e2, e3⟩ := pd
          exact fin od F' m H' ⟨x.s, List.prefix_rfl⟩ (S.unhide x.s S') ⟨a, v, e1, e2, e3.pureM hd⟩
        · rw [if_neg hd] at fin
          exact fin.elim
    | bad => rw [q] at fin; exact fin
  · rw [if_neg hp] at fin
    exact fin.elim
theorem FnOk.pure {P : Program} {w : World} {K : PySem.W.Frag} {mg : Str → Option Value} {base : Heap} {CX : CXT} {k : Nat} {f : Addr} {fd : FuncData} {ps : List Str} {g : FN} (F : FnOk P w K mg base CX k f fd ps (spN K ps.length g)) : FnOk P w K mg base CX k f fd ps (spN K ps.length (pureF g)) := L2.FnOk.imp F fun _ _ _ _ h => pure_sp h
section
variable {CX : CXT} {k : Nat} {f : Addr} {fd : FuncData} {ps : List Str} {g : FN}
def withD (dd : List D) (g : FN) : FN := fun ds h => g (ds ++ dd) h
/-- f(e, ..); dd: the defaults that fill up -/
theorem de_call {x : Str} {p pos : Pos} {a : Expr} {es : List Expr} {fa : SA} {dvs : List V} {dus : List Value} (dd : List D) (Fk : FnOk X.prog X.w X.K X.mg X.base CX k f fd ps (spN X.K ps.length g)) (hr : Room k X.A) (hm : X.mg x = some (.ref f)) (hk : PySem.W.keepIn X.K (.ref f) = true) (hb : Binds X.K fd ps dus) (hd : Vals dvs dus)
    (hdd : ∀ F m, DenL X.K F m dvs dd) (hn : (a :: es).length + dvs.length = ps.length) (hx : ∀ σ, PassesAt CX X σ fun cls od H => W cls od σ H) (ha : DA X W (a :: es) fa) (hl : ∀ e h ds h', fa e h = .ok ds h' → ds.length = (a :: es).length) (hg : Gl X x := by rfl) (hdb : (x == ("__debug__" : Str)) = false := by decide)
    (he : starEach (a :: es) X.env = (false, eval a X.env) :: starEach es X.env := by rfl) (hpl : (backTo pos (starEach es X.env)).any (·.1) = false := by rfl) : DE X W (.Call (.Name x p) (a :: es) [] pos) (sCall (withD dd g) fa) :=
  PE.of (pe_callSD Fk hr hg hm hk hb hd hx ha hdb he hpl) fun σ H Q => by
    rintro ⟨P, F, m, e, h, S, E, fin⟩
    refine ⟨P, F, m, e, h, S, E, ?_⟩
    unfold sCall at fin
    cases q : fa e h with
    | bad => rw [q] at fin; exact fin.elim
    | exc C p h1 => rw [q] at fin; exact fin
    | ok ds h1 =>
      rw [q] at fin
      intro vs F1 m1 H1 x1 S1 r1
      exact ⟨by rw [List.length_append, r1.length, hl e h ds h1 q]; exact hn, P, F1, m1, ds ++ dd, h1, S1, r1.append (hdd F1 m1), FinG.weak x1 fin⟩
theorem sNil_len : ∀ e h ds h', sNil e h = .ok ds h' → ds.length = 0 := fun e h ds h' q => by
  cases q
  rfl
theorem sCons_len {fa : SE} {fr : SA} {n : Nat} (k : ∀ e h ds h', fr e h = .ok ds h' → ds.length = n) : ∀ e h ds h', sCons fa fr e h = .ok ds h' → ds.length = n + 1 := fun e h ds h' q => by
  unfold sCons at q
  cases q1 : fa e h with
  | bad => rw [q1] at q; cases q
  | exc C p h1 => rw [q1] at q; cases q
  | ok x h1 =>
    rw [q1] at q
    simp only [Res.bind_ok] at q
    cases q2 : fr e h1 with
    | bad => rw [q2] at q; cases q
    | exc C p h2 => rw [q2] at q; cases q
    | ok xs h2 =>
      rw [q2] at q
      simp only [Res.bind_ok, Res.ok.injEq] at q
      rw [← q.1, List.length_cons, k e h1 xs h2 q2]
theorem passAt0 {σ : St} {E : XK} : PassesAt CX0 X σ E := fun _ _ _ _ _ _ h => h.elim
/-- o.m(e, ..), the class written: nothing is raised -/
def sMeth (C mt : String) (g : FN) (o : SE) (a : SA) : SE := fun e h => (o e h).bind fun x h1 => match insAt h1 x with
  | some q => if q.1 = C ∧ q.2.lookup mt = none then (a e h1).bind fun ys h2 => (g (x :: ys) h2).noX else .bad
  | none => .bad
theorem rd_meth {C mt : String} {fo : SE} {fa : SA} {n : Nat} (hn : n + 1 = ps.length) (hl : ∀ e h ds h', fa e h = .ok ds h' → ds.length = n) {σ : St} {H : Hp} {Q : VK} (q : rdG X.K W (Den X.K) (sMeth C mt g fo fa) σ H Q) :
    tMeth (He.ga X.K (Str.ofString C)) (Str.ofString mt) (spN X.K ps.length g) [] E0 (rdG X.K W (Den X.K) fo) (rdG X.K W (DenL X.K) fa) σ H Q := by
  obtain ⟨P, F, m, e, h, S, E, fin⟩ := q
  refine rd_seq S E fin fun F1 m1 h1 H1 x dx x1 S1 E1 r1 fin1 => ?_
  cases q1 : insAt h1 dx with
  | none => rw [q1] at fin1; exact fin1.bad_elim
  | some z =>
    obtain ⟨C', fs⟩ := z
    rw [q1] at fin1
    dsimp only at fin1
    by_cases hz : C' = C ∧ fs.lookup mt = none
    · rw [if_pos hz] at fin1
      obtain ⟨rfl, hm⟩ := hz
      obtain ⟨a, dxx, fv, rfl, ha, ob, rf⟩ := insAt_ok S1 r1 q1
      refine ⟨a, dxx, fv, rfl, ha, rf.none hm, P, F1, m1, e, h1, S1, E1, ?_⟩
      cases q2 : fa e h1 with
      | bad => rw [q2] at fin1; exact fin1.elim
      | exc C p h2 => rw [q2] at fin1; exact fin1
      | ok ys h2 =>
        rw [q2] at fin1
        simp only [Res.bind_ok] at fin1
        intro vs F2 m2 H2 x2 S2 r2
        refine ⟨by rw [List.append_nil, List.length_cons, r2.length, hl e h1 ys h2 q2]; exact hn, P, F2, m2, dx :: ys, h2, S2, by rw [List.append_nil]; exact .cons (r1.mono x2) r2, ?_⟩
        cases q3 : g (dx :: ys) h2 with
        | ok d h3 => rw [q3] at fin1; exact FinG.weak x2 fin1
        | exc C p h3 => rw [q3] at fin1; exact fin1.elim
        | bad => rw [q3] at fin1; exact fin1.elim
    · rw [if_neg hz] at fin1
      exact fin1.bad_elim
theorem de_meth {C mt : String} {o a : Expr} {es : List Expr} {apos pos : Pos} {fo : SE} {fa : SA} (pl : Sem Bool) (c : Cls X.K (He.ga X.K (Str.ofString C))) (hm : Meth X.K (He.ga X.K (Str.ofString C)) (Str.ofString mt) f) (Fk : FnOk X.prog X.w X.K X.mg X.base CX0 k f fd ps (spN X.K ps.length g)) (hr : Room k X.A) (hb : Binds X.K fd ps []) (ho : DE X W o fo) (ha : DA X W (a :: es) fa)
    (hn : (a :: es).length + 1 = ps.length) (hl : ∀ e h ds h', fa e h = .ok ds h' → ds.length = (a :: es).length) (hst : starEach (a :: es) X.env = (false, eval a X.env) :: starEach es X.env := by rfl) (hpl : (backTo pos (starEach es X.env)).any (·.1) = false := by rfl)
    (ht : eval (.Call (.Attribute o (Str.ofString mt) apos) (a :: es) [] pos) X.env = (do
      let ov ← eval o X.env
      standAt apos.atName
      let (f, first) ← holding [ov] (getMethod ov (Str.ofString mt) pl)
      callWith pos f first (backTo pos (starEach (a :: es) X.env)) (backToKw pos (keywordEach [] X.env))) := by rfl) :
    DE X W (.Call (.Attribute o (Str.ofString mt) apos) (a :: es) [] pos) (sMeth C mt g fo fa) := PE.of (pe_meth (pl := pl) ho c hm Fk hr hb .nil (pass0 (X := X)) ha hst hpl ht) fun σ H Q => rd_meth hn hl
theorem de_meth0 {C mt : String} {o : Expr} {apos pos : Pos} {fo : SE} (pl : Sem Bool) (c : Cls X.K (He.ga X.K (Str.ofString C))) (hm : Meth X.K (He.ga X.K (Str.ofString C)) (Str.ofString mt) f) (Fk : FnOk X.prog X.w X.K X.mg X.base CX0 k f fd ps (spN X.K ps.length g)) (hr : Room k X.A) (hb : Binds X.K fd ps []) (ho : DE X W o fo) (hn : 1 = ps.length)
    (ht : eval (.Call (.Attribute o (Str.ofString mt) apos) [] [] pos) X.env = (do
      let ov ← eval o X.env
      standAt apos.atName
      let (f, first) ← holding [ov] (getMethod ov (Str.ofString mt) pl)
      callWith pos f first (backTo pos (starEach [] X.env)) (backToKw pos (keywordEach [] X.env))) := by rfl) :
    DE X W (.Call (.Attribute o (Str.ofString mt) apos) [] [] pos) (sMeth C mt g fo sNil) := PE.of (pe_meth0 (pl := pl) ho c hm Fk hr hb .nil (pass0 (X := X)) ht) fun σ H Q q => by
  obtain ⟨P, F, m, e, h, S, E, fin⟩ := rd_meth (n := 0) hn sNil_len q
  refine ⟨P, F, m, e, h, S, E, ?_⟩
  cases q1 : fo e h with
  | bad => rw [q1] at fin; exact fin.elim
  | exc C p h1 => rw [q1] at fin; exact fin
  | ok d h1 =>
    rw [q1] at fin
    intro v F1 m1 H1 x S1 r
    obtain ⟨b, dx, fs, e1, e2, e3, P2, F2, m2, e5, h2, S2, E2, fin2⟩ := fin v F1 m1 H1 x S1 r
    exact ⟨b, dx, fs, e1, e2, e3, FinG.ok fin2 S2 .nil⟩
/-- C(e, ..), the instance an own object -/
def sMake (C : String) (g : FN) (a : SA) : SE := fun e h => (a e h).bind fun ys h1 => (g (.ref h1.length :: ys) (h1 ++ [.ins C []])).noX.bind fun d h2 => match d with
  | .non => .ok (.ref h1.length) h2
  | _ => .bad
theorem ins_new {K : PySem.W.Frag} {P : Pins} {F : Hp} {m : List Addr} {h : OH} {H : Hp} {C : String} (S : Sim K P F m h H) (c : Cls K (He.ga K (Str.ofString C))) {x dx : Addr} (hx : H x = none) (hdx : H dx = none) (ne : dx ≠ x) :
    Sim K P F (m ++ [x]) (h ++ [.ins C []]) (upd (upd H dx (.own x)) x (.ins (He.ga K (Str.ofString C)) dx [])) := by
  have hx2 : (upd H dx (.own x)) x = none := by rw [upd_ne ne.symm]; exact hx
  exact (S.other hdx).alloc hx2 ⟨dx, [], upd_same, ⟨c, fun _ z => by simp at z⟩, .nil, S.free hx⟩
theorem DenF.pureM {K : PySem.W.Frag} {F : Hp} {m m' : List Addr} : ∀ {vs : List (Str × V)} {ds : List (String × D)}, DenF K F m vs ds → D.pureF ds = true → DenF K F m' vs ds
  | _, _, .nil, _ => .nil
  | _, _, .cons h t, e => by
    have e' := and2 (by simpa only [D.pureF] using e)
    exact .cons (h.pureM e'.1) (DenF.pureM t e'.2)
end
/-! ### an own list is frozen -/
def frzE (f : SE) : SE := fun e h => (f e h).bind fun d h1 => match d with
  | .ref i => (match h1[i]? with
    | some (.lst xs) => .ok (.lst xs) (h1.set i .dead)
    | _ => .bad)
  | _ => .bad
end
/-! ### the law's end -/
theorem law_sp {K : PySem.W.Frag} {g : FN} {n : Nat} (hg : ∀ ns : List Int, ns.length ≤ n → ∃ h', g [.scr (ns.map D.int)] [] = .ok (.bl true) h') (H : Hp) (a : Addr) (ns : List Int) (hl : ns.length ≤ n) (hO : Only H) (hS : SqL K H a (ns.map V.int)) : spN K 1 g [.ref a] H (fun v _ => v = .bl true) fun _ _ _ => False := by
  obtain ⟨h', e⟩ := hg ns hl
  refine ⟨rfl, [], H, [], [.scr (ns.map D.int)], [], ⟨Same.refl _, rfl, List.nodup_nil, fun _ z => by simp at z, fun _ _ _ z => by simp at z, fun _ z => by simp at z, by simp⟩, .cons (.scr hS (DenL.ints ns)) .nil, ?_⟩
  rw [e]
  intro v F' m' H' x S r
  exact den_bl r
end HR
set_option Elab.async false
set_option linter.all false
set_option maxRecDepth 100000
set_option maxHeartbeats 4000000
/-! LayG: len(set(xs)) of ints and texts; signs of a text; in; repr. -/
namespace HR
open PySem L2
/-! ### set(xs) of keys -/
abbrev inK (acc : List Key) : Key → Bool := fun k => acc.any fun y => decide (y = k)
/-- keys met so far, each once, in order -/
def ddK : List Key → List Key → List Key
  | acc, [] => acc
  | acc, x :: r => ddK (if inK acc x then acc else acc ++ [x]) r
section
variable {prog : Program} {w : World} {A : Around} {R : Result → Shared → Prop} {I : Addr} {fp wr : List Addr} {G : Array GenState → Array GenState → Prop} {n : Nat} {PV : Nat → Value → Prop} {StI : Nat → Shared → Prop}
theorem setOf_eq {h : Heap} {S : Addr} {f f' : Key → Bool} {c c' : Nat} (q : h.SetOf (mixKind prog w) S f c) (e : ∀ k, f k = f' k) (e2 : c = c') : h.SetOf (mixKind prog w) S f' c' := by
  obtain rfl : f = f' := funext e
  exact e2 ▸ q
theorem setOf_moved {h h' : Heap} {S : Addr} {f : Key → Bool} {c : Nat} (q : h.SetOf (mixKind prog w) S f c) (k : ∀ o, h.get? S = some o → h'.get? S = some o) : h'.SetOf (mixKind prog w) S f c := by
  obtain ⟨o, es, ep, t, ho, r⟩ := q
  exact ⟨o, es, ep, t, k o ho, r⟩
theorem set_loopK (Wk : WalksS prog w A.in1 I fp wr G n PV StI) (S : Addr) (hSf : S ∉ fp) (ks : List Key) (hlen : ks.length = n) (hn : n + 1 < scanBound) (hval : ∀ (i : Nat) (v : Value), PV i v → ∃ k, ks[i]? = some k ∧ keyIs k v = true) :
    ∀ (rest : List Key) (i : Nat) (acc : List Key) (s : Shared), ks.drop i = rest → acc.length ≤ i → i ≤ n → StI i s → s.heap.SetOf (mixKind prog w) S (inK acc) acc.length →
      (∀ s', Moved (S :: wr) G s s' → s'.heap.SetOf (mixKind prog w) S (inK (ddK acc rest)) (ddK acc rest).length → R (.ok (.ret .none)) s') →
      codeAny (model prog w) A (.builtin "set.update.loop" ⟨[.ref S, .ref I], []⟩) R s := by
  have hSw : S ∉ wr := fun z => hSf (Wk.sub _ z)
  have more : ∀ b ∈ wr, b ∈ S :: wr := fun b z => List.mem_cons_of_mem _ z
  intro rest
  induction rest with
  | nil =>
    intro i acc s hr ha hi st hS hR
    have hin : i = n := by
      have z := congrArg List.length hr
      simp at z
      omega
    subst hin
    refine codeAny_builtin (PyProof.Rows.F.entry_set_update_loop) ?_
    rw [Around.under_plainId (PyProof.Rows.F.plain_set_update_loop) _]
    refine wpAny_bind (m := pyNext (.ref I)) (Wk.done s _ _ st fun s' mv => ?_)
    show wpAny _ A.in1 (ret .none) _ _ s'
    exact wpAny_pure (hR s' (mv.mono more) (setOf_moved hS fun o e => mv.heap S o hSw e))
  | cons x r ih =>
    intro i acc s hr ha hi st hS hR
    have hlt : i < n := by
      have z := congrArg List.length hr
      simp at z
      omega
    have hx : ks[i]? = some x := by
      have z : (ks.drop i)[0]? = some x := by rw [hr]; rfl
      simpa using z
    have hr2 : ks.drop (i + 1) = r := by
      have z := congrArg (List.drop 1) hr
      rw [List.drop_drop] at z
      simpa [Nat.add_comm] using z
    refine codeAny_builtin (PyProof.Rows.F.entry_set_update_loop) ?_
    rw [Around.under_plainId (PyProof.Rows.F.plain_set_update_loop) _]
    refine wpAny_bind (m := pyNext (.ref I)) (Wk.item i s _ _ hlt st fun v s' hv st' mv => ?_)
    obtain ⟨k, e1, hk⟩ := hval i v hv
    rw [hx] at e1
    obtain rfl : x = k := Option.some.inj e1
    have hS' := setOf_moved hS fun o e => mv.heap S o hSw e
    show wpAny _ A.in1 (holding [v] (setAdd S v) >>= _) _ _ s'
    refine wpAny_bind (wpAny_holding ?_)
    unfold setAdd
    refine wpAny_holding (wpAny_bind ((mixKind prog w).pyHash (k := x) (by rw [mixKind_is]; exact hk) ?_))
    have sc : v.scannable = true := by
      rcases keyIs_shape hk with ⟨a, t, rfl, rfl⟩ | ⟨a, t, rfl, rfl⟩ <;> rfl
    refine wpAny_setAddHashed_of (knd := mixKind prog w) (s := { s' with toks := s'.toks + 1 }) (by rw [mixKind_is]; exact hk) sc hS' (by omega) fun h' hsb hS2 => ?_
    let acc2 := if inK acc x then acc else acc ++ [x]
    have hS3 : h'.SetOf (mixKind prog w) S (inK acc2) acc2.length := by
      refine setOf_eq hS2 (fun k' => ?_) ?_
      · show (inK acc k' || decide (k' = x)) = inK acc2 k'
        simp only [acc2]
        cases c : inK acc x with
        | true =>
          simp only [if_true]
          by_cases ek : k' = x
          · subst ek; simp [c]
          · simp [ek]
        | false =>
          have comm : decide (k' = x) = decide (x = k') := by
            by_cases ek : k' = x
            · subst ek; simp
            · have ek2 : ¬ x = k' := fun z => ek z.symm
              simp [ek, ek2]
          simp [inK, comm]
      · show (if inK acc x = true then acc.length else acc.length + 1) = (if inK acc x = true then acc else acc ++ [x]).length
        cases inK acc x <;> simp
    have ha2 : acc2.length ≤ i + 1 := by
      show (if inK acc x = true then acc else acc ++ [x]).length ≤ i + 1
      cases inK acc x <;> simp <;> omega
    have ne : ∀ b, b ≠ S → ∀ o, s'.heap.get? b = some o → h'.get? b = some o := fun b hb o e => (hsb.2 b hb).trans e
    refine wpAny_pure ⟨plainId_quiet PyProof.Rows.F.plain_set_update_loop _, ih (i + 1) acc2 _ hr2 ha2 hlt (Wk.frame _ s' _ _ st' (Nat.le_succ _) fun b hb o e => ne b (fun z => hSf (z ▸ hb)) o e) hS3 fun s2 mv2 hS4 => ?_⟩
    exact hR s2 (Moved.trans Wk.gtrans ((mv.mono more).then_heap (Nat.le_succ _) fun b o hb e => ne b (fun z => hb (by rw [z]; exact List.mem_cons_self)) o e) mv2) hS4
end
section
variable {prog : Program} {w : World} {A : Around} {E : Value → Shared → Prop} {s : Shared}
/-- set(xs), xs a list of ints and texts -/
theorem set_of_keys {l : Addr} {items : Array Value} {ks : List Key} {Q : Value → Shared → Prop} (hh : A.handled = none) (hl : s.heap.IsList l items) (hlen : ks.length = items.size) (hi : ∀ (i : Nat) (v : Value), items[i]? = some v → ∃ k, ks[i]? = some k ∧ keyIs k v = true) (hb : items.size + 1 < scanBound)
    (h : ∀ (h' : Heap) (tk : Nat), h'.SetOf (mixKind prog w) s.heap.objs.size (inK (ddK [] ks)) (ddK [] ks).length → (∀ b o, b < s.heap.objs.size → s.heap.get? b = some o → h'.get? b = some o) → Q (.ref s.heap.objs.size) { s with heap := h', toks := tk }) :
    wpAny (model prog w) A (call (.type "set") [.ref l]) Q E s := by
  let fresh (led : Bool) : Obj := { cls := .type "set", dict := none, data := .set #[] 0 (.fresh 0 0 led) }
  obtain ⟨c, tl, hmro⟩ := PySem.F.called_set.mro
  have f1 := PySem.F.called_set.made; have f2 := PySem.F.called_set.sub
  refine wpAny_call (codeAny_of_tree ?_)
  show wpAny _ _ (callAny (.type "set") ⟨[.ref l], []⟩) _ _ _
  refine wpAny_pure ⟨Code.quiet_builtin _ (by decide +kernel), codeAny_builtin (PySem.F.entry_type_call) ?_⟩
  rw [Around.under_plain (weight_type_call_type "set" [.ref l] []) rfl]
  have f3 := PySem.F.called_set.notType; have f4 := PySem.F.called_set.canCreate; have f5 := PySem.F.typeCall_set_1 (.ref l)
  repeat (any_goals (first | assumption | wp_step))
  refine codeAny_mono (code_set_new_1 (.ref l) (E := E) (Q₁ := fun ob t => ∃ led, ob = .ref s.heap.objs.size ∧ t = { s with heap := s.heap.push (fresh led) }) fun led => ⟨led, rfl, rfl⟩) fun r t hr => ?_
  cases r with
  | error e => exact hr
  | ok fl =>
    cases fl with
    | ret ob =>
      obtain ⟨led, rfl, rfl⟩ := hr
      have gS : (s.heap.push (fresh led)).get? s.heap.objs.size = some (fresh led) := Heap.get?_push_size _ rfl
      have tS : Shared.TypeIs { s with heap := s.heap.push (fresh led) } (.ref s.heap.objs.size) "set" := ⟨_, gS, rfl⟩
      have f6 := PySem.F.called_set.init.lookup; have f7 := PySem.F.called_set.init.bind (.ref s.heap.objs.size)
      repeat (any_goals (first | assumption | wp_step))
      let Done : Value → Shared → Prop := fun r t => r = .none ∧ ∃ h' tk, t = { s with heap := h', toks := tk } ∧ h'.SetOf (mixKind prog w) s.heap.objs.size (inK (ddK [] ks)) (ddK [] ks).length ∧ ∀ b o, b < s.heap.objs.size → s.heap.get? b = some o → h'.get? b = some o
      refine codeAny_mono (codeAny_call_builtin (R := wants Done E) PySem.F.called_set.init.plain PySem.F.entry_set_init (check_set_init_1 tS ?_)) fun r₂ t₂ hr₂ => ?_
      · obtain ⟨ol, hol, hcl, nl, hdl⟩ := hl
        obtain ⟨c0, d0, dt0, sl0⟩ := ol
        simp only at hcl hdl; subst hcl hdl
        have hol' : (s.heap.push (fresh led)).get? l = some { cls := .type "list", dict := d0, data := .seq items nl, slots := sl0 } := Heap.get?_push_of_some _ hol
        have g1 := PySem.F.sub_list_set; have g2 := PySem.F.sub_list_frozenset; have g3 : (Value.type "list" == Value.type "dict") = false := by decide
        have hl1 : (s.heap.push (fresh led)).IsList l items := ⟨_, hol', rfl, nl, rfl⟩
        unfold Builtin.«set.__init__»; unfold noKeywords Builtin.Frozenset.updateFrom
        generalize hPI : pyIter = PI
        wp_walk
        subst hPI
        refine wpAny_pyIter_list hl1 (?_)
        refine wpAny_bind (wpAny_runValue (?_))
        have lS : l < s.heap.objs.size := Heap.lt_size hol
        have hh3 : A.in1.in1.in1.handled = none := by rw [show A.in1.in1.in1.handled = A.handled from by simp]; exact hh
        have sz : (s.heap.push (fresh led)).objs.size = s.heap.objs.size + 1 := Heap.size_push _ _
        have nI : l ≠ (s.heap.push (fresh led)).objs.size := by rw [sz]; exact Nat.ne_of_lt (Nat.lt_succ_of_lt lS)
        have nS : s.heap.objs.size ∉ [(s.heap.push (fresh led)).objs.size, l] := by
          rw [sz]
          intro z
          simp only [List.mem_cons, List.not_mem_nil, or_false] at z
          rcases z with z | z
          · exact absurd z (Nat.ne_of_lt (Nat.lt_succ_self _))
          · exact absurd z (Nat.ne_of_gt lS)
        refine set_loopK ((Walks.list hh3 _ l nI items).toS) s.heap.objs.size nS ks hlen hb hi ks 0 [] _ (by simp) (Nat.le_refl _) (Nat.zero_le _) ⟨⟨_, Heap.get?_push_size _ rfl, rfl, rfl⟩, (hl1.push _)⟩ ?hS0 ?hR
        case hS0 =>
          exact ⟨_, #[], 0, _, Heap.get?_push_of_some _ gS, ⟨rfl, rfl, rfl⟩, rfl, fun e he => by simp at he, fun k => by simp [inK], by decide, by rfl, rfl⟩
        case hR =>
          intro t' mv hS'
          obtain ⟨h', g', d', tk', os'⟩ := t'
          obtain rfl : g' = s.gens := mv.gens
          obtain rfl : d' = s.drawn := mv.drawn
          obtain rfl : os' = s.os := mv.os
          refine wpAny_pure ?_
          show wpAny _ _ (ret .none) _ _ _
          refine wpAny_pure ⟨rfl, h', tk', rfl, hS', fun b o hb e => ?_⟩
          refine mv.heap b o (fun z => ?_) (Heap.get?_push_of_some _ (Heap.get?_push_of_some _ e))
          rcases List.mem_cons.mp z with z | z
          · exact absurd z (Nat.ne_of_lt hb)
          · rw [sz] at z
            rcases List.mem_singleton.mp z with rfl
            exact absurd (Nat.lt_of_lt_of_le hb (Nat.le_succ _)) (Nat.lt_irrefl _)
      · cases r₂ with
        | error e => exact hr₂
        | ok fl₂ =>
          cases fl₂ with
          | ret r =>
            obtain ⟨rfl, h', tk, rfl, hS', hk'⟩ := hr₂
            repeat (any_goals (first | assumption | wp_step))
            exact h _ _ hS' hk'
          | _ => exact hr₂.elim
    | _ => exact hr.elim
end
end HR
set_option Elab.async false
set_option linter.all false
set_option maxRecDepth 100000
set_option maxHeartbeats 4000000
/-! LayH: len(set(xs)), signs of a text, in, repr; defs that may call repr. -/
namespace HR
open PySem L2
open PyProof.Rows (envOfC)
/-! ### defs called where no repr runs -/
structure FnOkG (P : Program) (w : World) (K : PySem.W.Frag) (mg : Str → Option Value) (base : Heap) (CX : CXT) (k : Nat) (f : Addr) (fd : FuncData) (ps : List Str) (sp : Sp) : Prop where
  len : ∀ vs H Q E, sp vs H Q E → vs.length = ps.length
  run : ∀ (A : Around) (out : List Env) (s : Shared) (H : Hp) (args : Args) (us : List Value) (vs : List V) (Q : VK) (E : XK), Room k A → A.guards = some [] → Env0 P w K mg base A out s H → BindsTo s fd args (ps.zip us) → Vals vs us → sp vs H Q E →
    codeAny (model P w) A (.call (.ref f) args) (CR CX out P w H s Q E) s
section
variable {P : Program} {w : World} {K : PySem.W.Frag} {mg : Str → Option Value} {base : Heap} {CX : CXT} {k : Nat} {f : Addr} {fd : FuncData} {ps : List Str} {sp : Sp}
theorem FnOkG.mono {j : Nat} (F : FnOkG P w K mg base CX j f fd ps sp) (hj : j ≤ k) : FnOkG P w K mg base CX k f fd ps sp := ⟨F.len, fun A out s H args us vs Q E hr => F.run A out s H args us vs Q E (hr.mono hj)⟩
theorem FnOkG.pure {g : FN} (F : FnOkG P w K mg base CX k f fd ps (spN K ps.length g)) : FnOkG P w K mg base CX k f fd ps (spN K ps.length (pureF g)) :=
  ⟨fun vs H Q E q => F.len vs H Q E (pure_sp q), fun A out s H args us vs Q E hr hg e0 hb r q => F.run A out s H args us vs Q E hr hg e0 hb r (pure_sp q)⟩
end
section
variable {X : Cx} {W : WX} {CX : CXT} {k : Nat} {f : Addr} {fd : FuncData} {ps : List Str} {g : FN}
/-! ### len(set(xs)) -/
theorem bootSet : bootBuiltins "set" = some (.type "set") := by decide +kernel
def keysOf : List D → Option (List Key)
  | [] => some []
  | .int i :: r => (keysOf r).map (Sum.inl i :: ·)
  | .str x :: r => (keysOf r).map (Sum.inr x :: ·)
  | _ => none
theorem keysOf_ok {K : PySem.W.Frag} {F : Hp} {m : List Addr} : ∀ {vs : List V} {ds : List D} {ks : List Key}, DenL K F m vs ds → keysOf ds = some ks → vs = ks.map kV
  | _, _, _, .nil, e => by simp only [keysOf, Option.some.injEq] at e; subst e; rfl
  | _, _, _, .cons (.int i) t, e => by
    simp only [keysOf, Option.map_eq_some_iff] at e
    obtain ⟨ks, e1, e2⟩ := e
    subst e2
    rw [keysOf_ok t e1]
    rfl
  | _, _, _, .cons (.str i) t, e => by
    simp only [keysOf, Option.map_eq_some_iff] at e
    obtain ⟨ks, e1, e2⟩ := e
    subst e2
    rw [keysOf_ok t e1]
    rfl
  | _, _, _, .cons (.non) _, e | _, _, _, .cons (.bl _) _, e | _, _, _, .cons (.lst _ _) _, e | _, _, _, .cons (.scr _ _) _, e | _, _, _, .cons (.tup _ _) _, e | _, _, _, .cons (.dct _ _) _, e | _, _, _, .cons (.obj _ _ _) _, e | _, _, _, .cons (.ref _) _, e | _, _, _, .cons (.exc _) _, e => by simp [keysOf] at e
def sLenSet (f : SE) : SE := fun e h => (f e h).bind fun d h1 => match (lsqAt h1 d).bind keysOf with
  | some ks => if ks.length ≤ 4000 then .ok (.int (ddK [] ks).length) h1 else .bad
  | none => .bad
theorem kV_keyIs {k : Key} {u : Value} (r : RelV (kV k) u) : keyIs k u = true := by
  cases k with
  | inl i =>
    obtain ⟨t, rfl⟩ := r
    exact keyIs_int i t
  | inr x =>
    obtain ⟨t, rfl⟩ := r
    exact keyIs_str x t
theorem de_lenset {a : Expr} {fa : SE} {p p2 q pos : Pos} (hc : X.calm = true) (hg : Gl X "len") (hm : X.mg "len" = none) (hg2 : Gl X "set") (hm2 : X.mg "set" = none) (ha : DE X W a fa) (na : starEach [a] X.env = (false, eval a X.env) :: starEach [] X.env := by rfl) :
    DE X W (.Call (.Name "len" p) [.Call (.Name "set" p2) [a] [] q] [] pos) (sLenSet fa) := by
  refine ⟨fun pins s σ H Q I z => PyProof.Rows.Call_ (ld_blt I hg hm PySem.boot_len (PyProof.Rows.callWith_builtin1 (PyProof.Rows.args_cons (PyProof.Rows.Call_ (ld_blt I hg2 hm2 bootSet (PyProof.Rows.callWith_type1 (PyProof.Rows.args_cons ?_ na) na rfl))) rfl) rfl rfl))⟩
  obtain ⟨P, F, m, e, h, S, E, fin⟩ := z
  have key : rdG X.K W (Den X.K) fa σ H (fun x H1 => ∃ (l : Addr) (ks : List Key), x = .ref l ∧ SqL X.K H1 l (ks.map kV) ∧ ks.length ≤ 4000 ∧ Q (.int (ddK [] ks).length) H1) := by
    refine rd_seq S E fin fun F1 m1 h1 H1 x dx x1 S1 E1 r1 fin1 => ?_
    cases q1 : lsqAt h1 dx with
    | none => rw [q1] at fin1; exact fin1.bad_elim
    | some xs =>
      rw [q1] at fin1
      simp only [Option.bind_some] at fin1
      cases q2 : keysOf xs with
      | none => rw [q2] at fin1; exact fin1.bad_elim
      | some ks =>
        rw [q2] at fin1
        dsimp only at fin1
        by_cases hz : ks.length ≤ 4000
        · rw [if_pos hz] at fin1
          obtain ⟨b, vs, rfl, hb, rl⟩ := lsqAt_ok S1 r1 q1
          rw [keysOf_ok rl q2] at hb
          exact ⟨b, ks, rfl, hb, hz, fin1.ok S1 (.int _)⟩
        · rw [if_neg hz] at fin1
          exact fin1.bad_elim
  refine thn (ha.run pins s σ H _ I key) fun v s1 ⟨x, H1, I1, r1, l, ks, ex, hq, hl, q1⟩ => PyProof.Rows.args_nil ?_
  subst ex
  cases r1
  obtain ⟨its, r, pl, hz⟩ := I1.list hq
  have hlen : ks.length = its.toArray.size := by rw [List.size_toArray, ← r.length, List.length_map]
  refine set_of_keys (I1.ok.hd hc) pl.isList hlen (fun i v hv => ?_) (by rw [← hlen]; unfold scanBound; omega) fun h' tk hS hk => PyProof.Rows.args_nil ?_
  · have hi : i < ks.length := by
      rw [hlen]
      exact (Array.getElem?_eq_some_iff.mp hv).1
    refine ⟨ks[i], List.getElem?_eq_getElem hi, ?_⟩
    obtain ⟨u, e1, ru⟩ := r.get (i := i) (x := kV ks[i]) (by simp [hi])
    have hv2 : its[i]? = some v := by simpa using hv
    rw [hv2] at e1
    obtain rfl : v = u := Option.some.inj e1
    exact kV_keyIs ru
  · obtain ⟨o, es, ep, t, ho, hex, hd, _, _, hbd, hf, hn⟩ := hS
    have I2 : Inv X pins σ H1 { s1 with heap := h', toks := tk } := I1.kept fun b o e => hk b o (Heap.lt_size e) e
    refine call_len_set ho hex hd hf (by rw [hn] at hbd ⊢; unfold scanBound at hbd; omega) ⟨.int (ddK [] ks).length, H1, I2.tok _, ⟨_, by rw [hn]⟩, q1⟩
/-! ### the signs of a text -/
def signsD (x : Str) : List D := x.cps.toList.map fun c => D.str ⟨#[c]⟩
def sItStr (f : SE) : SA := fun e h => (f e h).bind fun d h1 => match d with
  | .str x => .ok (signsD x) h1
  | _ => .bad
theorem di_str {tg a : Expr} {f : SE} (ha : DE X W a f) : DI X W tg a (sItStr f) := PI.of (pi_str ha) fun σ H R => by
  rintro ⟨P, F, m, e, h, S, E, fin⟩
  refine rd_seq S E fin fun F1 m1 h1 H1 v d x S1 E1 r fin1 => ?_
  cases r with
  | str z =>
    refine ⟨z, rfl, FinG.ok fin1 S1 ?_⟩
    intro P2 F2 m2 h2 H2 i x2 S2
    have hl : (signsD z).length = z.cps.size := by simp [signsD]
    rw [hl]
    refine ⟨fun hi => ⟨hi, fun y H' yl => ?_⟩, fun hi => hi⟩
    obtain ⟨rfl, c, ec, rfl⟩ := yl
    refine ⟨F2, .refl, S2, .str ⟨#[c]⟩, ?_, .str _⟩
    simp [signsD, ec]
  | _ => exact fin1.bad_elim
/-! ### in -/
/-- one sign in a text -/
def opInS (neg : Bool) : D → D → OH → Res D
  | .str x, .str z, h => (match x.cps.toList with
    | [c] => .ok (.bl (if neg then !decide (c ∈ z.cps.toList) else decide (c ∈ z.cps.toList))) h
    | _ => .bad)
  | _, _, _ => .bad
theorem opInS_h (neg : Bool) : OpH X.K W (opInS neg) (fun x y H Q => ∃ (c : Nat) (z : Str), x = .str ⟨#[c]⟩ ∧ y = .str z ∧ Q (.bl (if neg then !decide (c ∈ z.cps.toList) else decide (c ∈ z.cps.toList))) H) := by
  intro P F m h H σ Q x y dx dy S r1 r2 fin
  unfold opInS at fin
  split at fin
  · rename_i a z
    cases den_str r1
    cases den_str r2
    split at fin
    · rename_i c hc
      have ea : a = ⟨#[c]⟩ := by
        obtain ⟨l⟩ := a
        obtain ⟨l⟩ := l
        simp only at hc
        subst hc
        rfl
      exact ⟨c, z, by rw [ea], rfl, fin.ok S (.bl _)⟩
    · exact fin.bad_elim
  · exact fin.bad_elim
theorem de_inS {a b : Expr} {pos : Pos} {fa fb : SE} (ha : DE X W a fa) (hb : DE X W b fb) (hm : behindInMarks .In b = false := by rfl) : DE X W (.Compare a [.In] [b] pos) (sBin (opInS false) fa fb) := de_cmp op_in_sign (opInS_h false) hm ha hb
/-- a flat value in a list or tuple of such -/
def flatD : D → Option V
  | .non => some .non
  | .int i => some (.int i)
  | .str x => some (.str x)
  | .bl b => some (.bl b)
  | _ => none
def flatsD : List D → Option (List V)
  | [] => some []
  | d :: r => match flatD d, flatsD r with
    | some v, some vs => some (v :: vs)
    | _, _ => none
theorem flatD_ok {K : PySem.W.Frag} {F : Hp} {m : List Addr} {v w : V} {d : D} (r : Den K F m v d) (e : flatD d = some w) : v = w := by
  cases r <;> simp only [flatD, Option.some.injEq, reduceCtorEq] at e <;> exact e
theorem flatsD_ok {K : PySem.W.Frag} {F : Hp} {m : List Addr} : ∀ {vs : List V} {ds : List D} {ws : List V}, DenL K F m vs ds → flatsD ds = some ws → vs = ws
  | _, _, _, .nil, e => by simp only [flatsD, Option.some.injEq] at e; exact e
  | _, d :: ds, _, .cons a t, e => by
    simp only [flatsD] at e
    cases q1 : flatD d with
    | none => rw [q1] at e; simp at e
    | some v =>
      cases q2 : flatsD ds with
      | none => rw [q1, q2] at e; simp at e
      | some vs =>
        rw [q1, q2] at e
        simp only [Option.some.injEq] at e
        rw [flatD_ok a q1, flatsD_ok t q2]
        exact e
def opInL (neg : Bool) : D → D → OH → Res D := fun a b h => match flatD a, (seqAt h b).bind flatsD with
  | some x, some xs => if flatV x && xs.all flatV then .ok (.bl (if neg then !inV x xs else inV x xs)) h else .bad
  | _, _ => .bad
theorem opInL_h (neg : Bool) : OpH X.K W (opInL neg) (rIn X.K neg) := by
  intro P F m h H σ Q x y dx dy S r1 r2 fin
  unfold opInL at fin
  cases q1 : flatD dx with
  | none => rw [q1] at fin; exact fin.bad_elim
  | some a =>
    cases q2 : seqAt h dy with
    | none => rw [q1, q2] at fin; exact fin.bad_elim
    | some xs =>
      rw [q1, q2] at fin
      simp only [Option.bind_some] at fin
      cases q3 : flatsD xs with
      | none => rw [q3] at fin; exact fin.bad_elim
      | some ws =>
        rw [q3] at fin
        dsimp only at fin
        obtain ⟨b, vs, rfl, hb, rl⟩ := seqAt_ok S r2 q2
        by_cases hz : (flatV a && ws.all flatV) = true
        · rw [if_pos hz] at fin
          obtain ⟨z1, z2⟩ := and2 hz
          obtain rfl := flatD_ok r1 q1
          obtain rfl := flatsD_ok rl q3
          exact ⟨b, vs, rfl, hb, z1, z2, fin.ok S (.bl _)⟩
        · rw [if_neg hz] at fin
          exact fin.bad_elim
theorem de_inL {a b : Expr} {pos : Pos} {fa fb : SE} (ha : DE X W a fa) (hb : DE X W b fb) (hm : behindInMarks .In b = false := by rfl) : DE X W (.Compare a [.In] [b] pos) (sBin (opInL false) fa fb) := de_cmp op_in_seq (opInL_h false) hm ha hb
theorem dt_inL {a b : Expr} {pos : Pos} {fa fb : SE} (ha : DE X W a fa) (hb : DE X W b fb) (hm : behindInMarks .In b = false := by rfl) : DT X W (.Compare a [.In] [b] pos) (sTest (sBin (opInL false) fa fb)) := dt_cmp op_in_seq (opInL_h false) hm ha hb
end
end HR
set_option Elab.async false
set_option linter.all false
set_option maxRecDepth 100000
set_option maxHeartbeats 4000000
/-! LayI: iteration over any sequence or text; a def as its callers take it. -/
namespace HR
open PySem L2
open PyProof.Rows (envOfC)
section
variable {X : Cx} {W : WX}
/-- a list, a tuple, a text -/
def itAt : D → Option (List D)
  | .lst xs => some xs
  | .scr xs => some xs
  | .tup xs => some xs
  | .str x => some (signsD x)
  | _ => none
def sIt (f : SE) : SA := fun e h => (f e h).bind fun d h1 => match itAt d with
  | some xs => .ok xs h1
  | none => .bad
theorem di_any {tg a : Expr} {f : SE} (ha : DE X W a f) : DI X W tg a (sIt f) := PI.of (pi_or (di_seq ha) (di_str ha)) fun σ H R => by
  rintro ⟨P, F, m, e, h, S, E, fin⟩
  unfold sIt at fin
  cases q : f e h with
  | bad => rw [q] at fin; exact fin.elim
  | exc C p h1 =>
    rw [q] at fin
    exact .inl ⟨P, F, m, e, h, S, E, by unfold sItS; rw [q]; exact fin⟩
  | ok d h1 =>
    rw [q] at fin
    cases d with
    | str x => exact .inr ⟨P, F, m, e, h, S, E, by unfold sItStr; rw [q]; exact fin⟩
    | lst xs => exact .inl ⟨P, F, m, e, h, S, E, by unfold sItS; rw [q]; exact fin⟩
    | scr xs => exact .inl ⟨P, F, m, e, h, S, E, by unfold sItS; rw [q]; exact fin⟩
    | tup xs => exact .inl ⟨P, F, m, e, h, S, E, by unfold sItS; rw [q]; exact fin⟩
    | _ => exact False.elim fin
end
/-! ### a def as its callers take it -/
structure Def (P : Program) (w : World) (K : PySem.W.Frag) (mg : Str → Option Value) (base : Heap) (CX : CXT) (k : Nat) (f : Addr) (ps : List Str) (dvs : List V) (g : FN) : Prop where
  ex : ∃ fd dus, FnOk P w K mg base CX k f fd ps (spN K ps.length g) ∧ Binds K fd ps dus ∧ Vals dvs dus
  kp : PySem.W.keepIn K (.ref f) = true
structure DefG (P : Program) (w : World) (K : PySem.W.Frag) (mg : Str → Option Value) (base : Heap) (CX : CXT) (k : Nat) (f : Addr) (ps : List Str) (dvs : List V) (g : FN) : Prop where
  ex : ∃ fd dus, FnOkG P w K mg base CX k f fd ps (spN K ps.length g) ∧ Binds K fd ps dus ∧ Vals dvs dus
  kp : PySem.W.keepIn K (.ref f) = true
section
variable {P : Program} {w : World} {K : PySem.W.Frag} {mg : Str → Option Value} {base : Heap} {CX : CXT} {k : Nat} {f : Addr} {ps : List Str} {dvs : List V} {g : FN}
theorem Def.up {j : Nat} (d : Def P w K mg base CX j f ps dvs g) (h : j ≤ k) : Def P w K mg base CX k f ps dvs g := let ⟨fd, dus, a, b, c⟩ := d.ex; ⟨⟨fd, dus, a.mono h, b, c⟩, d.kp⟩
theorem Def.pure (d : Def P w K mg base CX k f ps dvs g) : Def P w K mg base CX k f ps dvs (pureF g) := let ⟨fd, dus, a, b, c⟩ := d.ex; ⟨⟨fd, dus, FnOk.pure a, b, c⟩, d.kp⟩
theorem DefG.up {j : Nat} (d : DefG P w K mg base CX j f ps dvs g) (h : j ≤ k) : DefG P w K mg base CX k f ps dvs g := let ⟨fd, dus, a, b, c⟩ := d.ex; ⟨⟨fd, dus, a.mono h, b, c⟩, d.kp⟩
theorem DefG.pure (d : DefG P w K mg base CX k f ps dvs g) : DefG P w K mg base CX k f ps dvs (pureF g) := let ⟨fd, dus, a, b, c⟩ := d.ex; ⟨⟨fd, dus, a.pure, b, c⟩, d.kp⟩
end
section
variable {X : Cx} {W : WX} {CX : CXT} {k : Nat} {f : Addr} {ps : List Str} {g : FN}
theorem de_callF {x : Str} {p pos : Pos} {a : Expr} {es : List Expr} {fa : SA} {dvs : List V} (dd : List D) (Fk : Def X.prog X.w X.K X.mg X.base CX k f ps dvs g) (hr : Room k X.A) (hm : X.mg x = some (.ref f))
    (hdd : ∀ F m, DenL X.K F m dvs dd) (hx : ∀ σ, PassesAt CX X σ fun cls od H => W cls od σ H) (ha : DA X W (a :: es) fa) (hl : ∀ e h ds h', fa e h = .ok ds h' → ds.length = (a :: es).length) (hn : (a :: es).length + dvs.length = ps.length := by rfl) (hg : Gl X x := by rfl) (hdb : (x == ("__debug__" : Str)) = false := by decide)
    (he : starEach (a :: es) X.env = (false, eval a X.env) :: starEach es X.env := by rfl) (hpl : (backTo pos (starEach es X.env)).any (·.1) = false := by rfl) : DE X W (.Call (.Name x p) (a :: es) [] pos) (sCall (withD dd g) fa) := by
  obtain ⟨fd, dus, F1, hb, hd⟩ := Fk.ex
  exact de_call dd F1 hr hm Fk.kp hb hd hdd hn hx ha hl hg hdb he hpl
theorem de_methF {C mt : String} {o a : Expr} {es : List Expr} {apos pos : Pos} {fo : SE} {fa : SA} (pl : Sem Bool) (c : Cls X.K (He.ga X.K (Str.ofString C))) (hm : Meth X.K (He.ga X.K (Str.ofString C)) (Str.ofString mt) f) (Fk : Def X.prog X.w X.K X.mg X.base CX0 k f ps [] g) (hr : Room k X.A) (ho : DE X W o fo) (ha : DA X W (a :: es) fa)
    (hl : ∀ e h ds h', fa e h = .ok ds h' → ds.length = (a :: es).length) (hn : (a :: es).length + 1 = ps.length := by rfl) (hst : starEach (a :: es) X.env = (false, eval a X.env) :: starEach es X.env := by rfl) (hpl : (backTo pos (starEach es X.env)).any (·.1) = false := by rfl)
    (ht : eval (.Call (.Attribute o (Str.ofString mt) apos) (a :: es) [] pos) X.env = (do
      let ov ← eval o X.env
      standAt apos.atName
      let (f, first) ← holding [ov] (getMethod ov (Str.ofString mt) pl)
      callWith pos f first (backTo pos (starEach (a :: es) X.env)) (backToKw pos (keywordEach [] X.env))) := by rfl) :
    DE X W (.Call (.Attribute o (Str.ofString mt) apos) (a :: es) [] pos) (sMeth C mt g fo fa) := by
  obtain ⟨fd, dus, F1, hb, hd⟩ := Fk.ex
  cases hd
  exact de_meth pl c hm F1 hr hb ho ha hn hl hst hpl ht
theorem de_methF0 {C mt : String} {o : Expr} {apos pos : Pos} {fo : SE} (pl : Sem Bool) (c : Cls X.K (He.ga X.K (Str.ofString C))) (hm : Meth X.K (He.ga X.K (Str.ofString C)) (Str.ofString mt) f) (Fk : Def X.prog X.w X.K X.mg X.base CX0 k f ps [] g) (hr : Room k X.A) (ho : DE X W o fo) (hn : 1 = ps.length := by rfl)
    (ht : eval (.Call (.Attribute o (Str.ofString mt) apos) [] [] pos) X.env = (do
      let ov ← eval o X.env
      standAt apos.atName
      let (f, first) ← holding [ov] (getMethod ov (Str.ofString mt) pl)
      callWith pos f first (backTo pos (starEach [] X.env)) (backToKw pos (keywordEach [] X.env))) := by rfl) :
    DE X W (.Call (.Attribute o (Str.ofString mt) apos) [] [] pos) (sMeth C mt g fo sNil) := by
  obtain ⟨fd, dus, F1, hb, hd⟩ := Fk.ex
  cases hd
  exact de_meth0 pl c hm F1 hr hb ho hn ht
end
end HR
set_option Elab.async false
set_option linter.all false
set_option maxRecDepth 20000
set_option maxHeartbeats 1000000
/-! what the plain functions give: the weakest demand -/
namespace HR
open PySem L2
section
variable {X : Cx} {W : WX}
/-! ### a list against [] -/
def rNil (K : PySem.W.Frag) (neg : Bool) : R2 := fun x y H Q => ∃ a b xs, x = .ref a ∧ y = .ref b ∧ SqL K H a xs ∧ SqL K H b [] ∧ Q (.bl (if neg then !xs.isEmpty else xs.isEmpty)) H
theorem op_nilN (hu : X.A.units + 64 < cLine) : OpR X (compareOp .NotEq) (fun x y H Q => rNil X.K true x y H Q ∨ rNeD X.K x y H Q) := by
  intro pins s σ H x y v u Q I rx ry h
  rcases h with ⟨a, b, xs, rfl, rfl, ha, hb, q⟩ | h
  · cases (show v = Value.ref a from rx)
    cases (show u = Value.ref b from ry)
    obtain ⟨us, r1, p1, _⟩ := I.list ha
    obtain ⟨ws, r2, p2, _⟩ := I.list hb
    cases r2
    cases r1 with
    | nil => exact SeqAt.RcNeAt.lists (e := fun _ => true) p1.isList p2.isList rfl (by omega) (fun j h1 _ => absurd h1 (Nat.not_lt_zero j)) _ _ _ _ ⟨.bl false, H, I, rfl, q⟩
    | cons h t => exact SeqAt.RcNeAt.lists_lengths p1.isList p2.isList (by simp) (by omega) _ _ _ _ ⟨.bl true, H, I, rfl, q⟩
  · exact op_neD hu pins s σ H x y v u Q I rx ry h
/-- == [], any list -/
def opNil (neg : Bool) : D → D → OH → Res D := fun a b h => match lsqAt h a, b with
  | some xs, .lst [] => .ok (.bl (if neg then !xs.isEmpty else xs.isEmpty)) h
  | _, _ => opEq neg a b h
theorem opNil_h (neg : Bool) : OpH X.K W (opNil neg) (fun x y H Q => rNil X.K neg x y H Q ∨ (if neg then rNeD X.K else rEqD X.K) x y H Q) := by
  intro P F m h H σ Q x y dx dy S r1 r2 fin
  have old := fun fin => opEq_h (X := X) (W := W) neg P F m h H σ Q x y dx dy S r1 r2 fin
  unfold opNil at fin
  split at fin
  · rename_i xs e
    obtain ⟨a, vs, rfl, ha, rl⟩ := lsqAt_ok S r1 e
    cases r2 with
    | @lst b ws _ q rb =>
      cases rb
      refine .inl ⟨a, b, vs, rfl, rfl, ha, .inl (.inl (S.sub _ _ q)), ?_⟩
      have e2 : vs.isEmpty = xs.isEmpty := by cases rl <;> rfl
      rw [e2]
      exact fin _ F m H (Ext.refl ..) S (.bl _)
  · exact .inr (old fin)
theorem dt_neN {a b : Expr} {pos : Pos} {fa fb : SE} (hu : X.A.units + 64 < cLine) (ha : DE X W a fa) (hb : DE X W b fb) : DT X W (.Compare a [.NotEq] [b] pos) (sTest (sBin (opNil true) fa fb)) := dt_cmp (op_nilN hu) (opNil_h true) (nomark _) ha hb
end
def Res.W {α : Type} (r : Res α) (P : α → OH → Prop) : Prop := match r with
  | .ok a h => P a h
  | _ => False
/-- what follows; the loop's next round; behind the loop; the answer -/
def SRes.W (r : SRes) (N C B : Env' → OH → Prop) (R : D → OH → Prop) : Prop := match r with
  | .nx e h => N e h
  | .ct e h => C e h
  | .bk e h => B e h
  | .rt d h => R d h
  | _ => False
abbrev nov : Env' → OH → Prop := fun _ _ => False
section
variable {α β : Type} {P : α → OH → Prop} {N C B : Env' → OH → Prop} {R : D → OH → Prop} {PD : D → OH → Prop} {PL : List D → OH → Prop} {PB : Bool → OH → Prop}
theorem Res.W.out {r : Res α} (h : r.W P) : ∃ a h', r = .ok a h' ∧ P a h' := by
  cases r with
  | ok a h' => exact ⟨a, h', rfl, h⟩
  | exc _ _ _ => exact h.elim
  | bad => exact h.elim
theorem Res.W.of {r : Res α} {a : α} {h' : OH} (e : r = .ok a h') (p : P a h') : r.W P := by rw [e]; exact p
theorem Res.W.mono {r : Res α} {P' : α → OH → Prop} (h : r.W P) (m : ∀ a h', P a h' → P' a h') : r.W P' := by
  obtain ⟨a, h', e, p⟩ := h.out
  exact .of e (m a h' p)
theorem SRes.W.mono {r : SRes} {N' C' B' : Env' → OH → Prop} {R' : D → OH → Prop} (h : r.W N C B R) (m : ∀ e h', N e h' → N' e h') (m1 : ∀ e h', C e h' → C' e h') (m3 : ∀ e h', B e h' → B' e h') (m2 : ∀ d h', R d h' → R' d h') : r.W N' C' B' R' := by
  cases r with
  | nx e h' => exact m e h' h
  | rt d h' => exact m2 d h' h
  | bk e h' => exact m3 e h' h
  | ct e h' => exact m1 e h' h
  | exc _ _ _ _ => exact h.elim
  | bad => exact h.elim
@[simp] theorem W_ok (a : α) (h : OH) : (Res.ok a h).W P = P a h := rfl
@[simp] theorem W_bind (r : Res β) (f : β → OH → Res α) : (r.bind f).W P = r.W fun b h => (f b h).W P := by cases r <;> rfl
@[simp] theorem W_noX (r : Res α) : r.noX.W P = r.W P := by cases r <;> rfl
@[simp] theorem W_toS (r : Res β) (e : Env') (f : β → OH → SRes) : (r.toS e f).W N C B R = r.W fun b h => (f b h).W N C B R := by cases r <;> rfl
@[simp] theorem W_ite (c : Prop) [Decidable c] (a b : Res α) : (if c then a else b).W P = if c then a.W P else b.W P := by split <;> rfl
@[simp] theorem SW_ite (c : Prop) [Decidable c] (a b : SRes) : (if c then a else b).W N C B R = if c then a.W N C B R else b.W N C B R := by split <;> rfl
@[simp] theorem W_bad : (Res.bad : Res α).W P = False := rfl
/-! expressions -/
theorem W_sVar' (i : Nat) (e : Env') (h : OH) : (sVar i e h).W PD = match e[i]? with
  | some (some d) => PD d h
  | _ => False := by unfold sVar; split <;> simp_all
@[simp] theorem W_var0 (d : D) (e : Env') (h : OH) : (sVar 0 (some d :: e) h).W PD = PD d h := rfl
@[simp] theorem W_varS (i : Nat) (d : Option D) (e : Env') (h : OH) : (sVar (i + 1) (d :: e) h).W PD = (sVar i e h).W PD := by rw [W_sVar', W_sVar']; simp
@[simp] theorem W_c (d : D) (e : Env') (h : OH) : (sC d e h).W PD = PD d h := rfl
@[simp] theorem W_sBin (g : D → D → OH → Res D) (a b : SE) (e : Env') (h : OH) : (sBin g a b e h).W PD = (a e h).W fun x h1 => (b e h1).W fun y h2 => (g x y h2).W PD := by simp [sBin]
@[simp] theorem W_sUn (g : D → OH → Res D) (a : SE) (e : Env') (h : OH) : (sUn g a e h).W PD = (a e h).W fun x h1 => (g x h1).W PD := by simp [sUn]
@[simp] theorem W_sCall (g : List D → OH → Res D) (a : SA) (e : Env') (h : OH) : (sCall g a e h).W PD = (a e h).W fun x h1 => (g x h1).W PD := by simp [sCall]
@[simp] theorem W_sNil (e : Env') (h : OH) : (sNil e h).W PL = PL [] h := rfl
@[simp] theorem W_sCons (a : SE) (r : SA) (e : Env') (h : OH) : (sCons a r e h).W PL = (a e h).W fun x h1 => (r e h1).W fun xs h2 => PL (x :: xs) h2 := by simp [sCons]
@[simp] theorem W_sTup (a : SA) (e : Env') (h : OH) : (sTup a e h).W PD = (a e h).W fun xs h1 => if xs.length ≤ 1000000 then PD (.tup xs) h1 else False := by simp [sTup, big]
@[simp] theorem W_sLst (a : SA) (e : Env') (h : OH) : (sLst a e h).W PD = (a e h).W fun xs h1 => if xs.length ≤ 1000000 then PD (.lst xs) h1 else False := by simp [sLst, big]
@[simp] theorem W_sLstO (a : SA) (e : Env') (h : OH) : (sLstO a e h).W PD = (a e h).W fun xs h1 => if xs.length ≤ 1000000 then PD (.ref h1.length) (h1 ++ [.lst xs]) else False := by simp [sLstO, big]
theorem W_sTest' (f : SE) (e : Env') (h : OH) : (sTest f e h).W PB = (f e h).W fun d h1 => match d with
  | .bl b => PB b h1
  | _ => False := by
  unfold sTest; rw [W_bind]; congr; funext d h1; cases d <;> rfl
def isBl (d : D) (P : Bool → Prop) : Prop := match d with
  | .bl b => P b
  | _ => False
@[simp] theorem isBl_bl (b : Bool) (P : Bool → Prop) : isBl (.bl b) P = P b := rfl
@[simp] theorem W_sTest (f : SE) (e : Env') (h : OH) : (sTest f e h).W PB = (f e h).W fun d h1 => isBl d fun b => PB b h1 := by rw [W_sTest']; rfl
@[simp] theorem W_sAnd (a b : ST) (e : Env') (h : OH) : (sAnd a b e h).W PB = (a e h).W fun c h1 => if c then (b e h1).W PB else PB false h1 := by simp [sAnd]
@[simp] theorem W_sOr (a b : ST) (e : Env') (h : OH) : (sOr a b e h).W PB = (a e h).W fun c h1 => if c then PB true h1 else (b e h1).W PB := by simp [sOr]
@[simp] theorem W_sNot (a : ST) (e : Env') (h : OH) : (sNot a e h).W PB = (a e h).W fun c h1 => PB (!c) h1 := by simp [sNot]
@[simp] theorem W_sVal (a : ST) (e : Env') (h : OH) : (sVal a e h).W PD = (a e h).W fun c h1 => PD (.bl c) h1 := by simp [sVal]
@[simp] theorem W_sYes (e : Env') (h : OH) : (sYes e h).W PB = PB true h := rfl
@[simp] theorem W_sIf (c : ST) (a b : SE) (e : Env') (h : OH) : (sIf c a b e h).W PD = (c e h).W fun t h1 => if t then (a e h1).W PD else (b e h1).W PD := by simp [sIf]
@[simp] theorem W_sAndV (a b : SE) (e : Env') (h : OH) : (sAndV a b e h).W PD = (a e h).W fun d h1 => isBl d fun t => if t then (b e h1).W PD else PD (.bl false) h1 := by
  unfold sAndV; rw [W_bind]; congr; funext d h1
  cases d with
  | bl b => cases b <;> rfl
  | _ => rfl
@[simp] theorem W_sOrV (a b : SE) (e : Env') (h : OH) : (sOrV a b e h).W PD = (a e h).W fun d h1 => isBl d fun t => if t then PD (.bl true) h1 else (b e h1).W PD := by
  unfold sOrV; rw [W_bind]; congr; funext d h1
  cases d with
  | bl b => cases b <;> rfl
  | _ => rfl
@[simp] theorem W_sNotV (a : SE) (e : Env') (h : OH) : (sNotV a e h).W PD = (a e h).W fun d h1 => isBl d fun t => PD (.bl (!t)) h1 := by
  unfold sNotV; rw [W_bind]; congr; funext d h1
  cases d <;> rfl
@[simp] theorem W_frzE (f : SE) (e : Env') (h : OH) : (frzE f e h).W PD = (f e h).W fun d h1 => match d with
  | .ref i => (match h1[i]? with
    | some (.lst xs) => PD (.lst xs) (h1.set i .dead)
    | _ => False)
  | _ => False := by
  unfold frzE; rw [W_bind]; congr; funext d h1
  cases d with
  | ref i => dsimp only; split <;> simp_all
  | _ => rfl
/-! operators -/
@[simp] theorem W_opI2 (f : Int → Int → D) (c : Int → Int → Bool) (i j : Int) (h : OH) : (opI2 f c (.int i) (.int j) h).W PD = if c i j then PD (f i j) h else False := by simp [opI2]
@[simp] theorem W_addI (i j : Int) (h : OH) : (opAdd (.int i) (.int j) h).W PD = PD (.int (i + j)) h := rfl
@[simp] theorem W_mulI (i j : Int) (h : OH) : (opMul (.int i) (.int j) h).W PD = if mulOk i j then PD (.int (i * j)) h else False := by simp [opMul]
@[simp] theorem W_negI (i : Int) (h : OH) : (opNeg (.int i) h).W PD = PD (.int (-i)) h := rfl
@[simp] theorem W_absI (i : Int) (h : OH) : (opAbs (.int i) h).W PD = PD (.int (if i < 0 then -i else i)) h := rfl
@[simp] theorem W_divmod (i j : Int) (h : OH) : (opDivmod (.int i) (.int j) h).W PD = if divOk i j then PD (.tup [.int (i / j), .int (i % j)]) h else False := by simp [opDivmod]
@[simp] theorem W_b1 (f : D → OH → Res D) (d : D) (h : OH) : (b1 f [d] h).W PD = (f d h).W PD := rfl
@[simp] theorem W_b2 (f : D → D → OH → Res D) (d d2 : D) (h : OH) : (b2 f [d, d2] h).W PD = (f d d2 h).W PD := rfl
@[simp] theorem W_lenL (xs : List D) (h : OH) : (opLen (.lst xs) h).W PD = PD (.int xs.length) h := rfl
@[simp] theorem W_lenT (xs : List D) (h : OH) : (opLen (.tup xs) h).W PD = PD (.int xs.length) h := rfl
@[simp] theorem W_lenC (xs : List D) (h : OH) : (opLen (.scr xs) h).W PD = PD (.int xs.length) h := rfl
theorem W_lenS (x : Str) (h : OH) : (opLen (.str x) h).W PD = if x.length ≤ big then PD (.int x.length) h else False := by
  show (if x.length ≤ big then Res.ok (D.int x.length) h else Res.bad).W PD = _
  rw [W_ite]; rfl
@[simp] theorem W_withD (dd : List D) (g : FN) (xs : List D) (h : OH) : (withD dd g xs h).W PD = (g (xs ++ dd) h).W PD := rfl
theorem W_fn (n : Nat) (b : SS) (ds : List D) (h : OH) : (fnOf n b ds h).W PD = (b (ds.map some ++ List.replicate (n - ds.length) none) h).W (fun _ h1 => PD .non h1) nov nov PD := by
  unfold fnOf
  cases b (ds.map some ++ List.replicate (n - ds.length) none) h <;> rfl
/-! statements -/
@[simp] theorem SW_nx (e : Env') (h : OH) : (SRes.nx e h).W N C B R = N e h := rfl
@[simp] theorem SW_bad : SRes.bad.W N C B R = False := rfl
@[simp] theorem SW_rt (d : D) (h : OH) : (SRes.rt d h).W N C B R = R d h := rfl
@[simp] theorem SW_next (e : Env') (h : OH) : (sNext e h).W N C B R = N e h := rfl
@[simp] theorem SW_seq (f g : SS) (e : Env') (h : OH) : (sSeq f g e h).W N C B R = (f e h).W (fun e h => (g e h).W N C B R) C B R := by
  unfold sSeq; cases f e h <;> rfl
@[simp] theorem SW_set (i : Nat) (f : SE) (e : Env') (h : OH) : (sSet i f e h).W N C B R = (f e h).W fun d h1 => N (e.set i (some d)) h1 := by unfold sSet; rw [W_toS]; rfl
@[simp] theorem SW_ret (f : SE) (e : Env') (h : OH) : (sRet f e h).W N C B R = (f e h).W R := by unfold sRet; rw [W_toS]; rfl
@[simp] theorem SW_retN (e : Env') (h : OH) : (sRetN e h).W N C B R = R .non h := rfl
@[simp] theorem SW_expr (f : SE) (e : Env') (h : OH) : (sExpr f e h).W N C B R = (f e h).W fun _ h1 => N e h1 := by unfold sExpr; rw [W_toS]; rfl
@[simp] theorem SW_if (c : ST) (a b : SS) (e : Env') (h : OH) : (sIfS c a b e h).W N C B R = (c e h).W fun t h1 => if t then (a e h1).W N C B R else (b e h1).W N C B R := by
  unfold sIfS; rw [W_toS]; simp
@[simp] theorem SW_for (it : SA) (g : TF) (b : SS) (e : Env') (h : OH) : (sFor it g b e h).W N C B R = (it e h).W fun ds h1 => (forL g b ds e h1).W N C B R := by unfold sFor; rw [W_toS]
@[simp] theorem SW_asg (g : TF) (f : SE) (e : Env') (h : OH) : (sAsg g f e h).W N C B R = (f e h).W fun d h1 => match g d e h1 with
  | some e1 => N e1 h1
  | none => False := by
  unfold sAsg; rw [W_toS]; congr; funext d h1; split <;> simp_all
@[simp] theorem SW_brk (e : Env') (h : OH) : (sBreak e h).W N C B R = B e h := rfl
@[simp] theorem SW_cont (e : Env') (h : OH) : (sCont e h).W N C B R = C e h := rfl
@[simp] theorem gN_ev (i : Nat) (d : D) (e : Env') (h : OH) : gN i d e h = some (e.set i (some d)) := rfl
theorem W_forL {g : TF} {b : SS} (I : Nat → Env' → OH → Prop) : ∀ (ds : List D) (e : Env') (h : OH), I 0 e h → (∀ k d, ds[k]? = some d → ∀ e h, I k e h → ∃ e1, g d e h = some e1 ∧ (b e1 h).W (I (k + 1)) (I (k + 1)) N R) → (∀ e h, I ds.length e h → N e h) → (forL g b ds e h).W N C B R
  | [], e, h, i0, _, fin => fin e h i0
  | d :: ds, e, h, i0, st, fin => by
    obtain ⟨e1, q, w⟩ := st 0 d rfl e h i0
    have rest := fun e2 h2 (z : I 1 e2 h2) => W_forL (fun k => I (k + 1)) ds e2 h2 z (fun k d q => st (k + 1) d q) fin
    unfold forL
    rw [q]
    dsimp only
    cases q2 : b e1 h with
    | nx e2 h2 => rw [q2] at w; exact rest e2 h2 w
    | ct e2 h2 => rw [q2] at w; exact rest e2 h2 w
    | bk e2 h2 => rw [q2] at w; exact w
    | rt d h2 => rw [q2] at w; exact w
    | exc _ _ _ _ => rw [q2] at w; exact w.elim
    | bad => rw [q2] at w; exact w.elim
/-! reading the own heap -/
def lkL (o : Option OO) (P : List D → Prop) : Prop := match o with
  | some (.lst xs) => P xs
  | _ => False
@[simp] theorem lkL_lst (xs : List D) (P : List D → Prop) : lkL (some (.lst xs)) P = P xs := rfl
def lkS {α : Type} (o : Option α) (P : α → Prop) : Prop := match o with
  | some x => P x
  | none => False
@[simp] theorem lkS_some {α : Type} (x : α) (P : α → Prop) : lkS (some x) P = P x := rfl
theorem lkS_of {α : Type} {o : Option α} {x : α} {P : α → Prop} (e : o = some x) (p : P x) : lkS o P := by rw [e]; exact p
@[simp] theorem W_ixL (xs : List D) (i : Int) (h : OH) : (opIx (.lst xs) (.int i) h).W PD = lkS (atI xs i) fun d => PD d h := by
  simp only [opIx, seqAt]; split <;> simp_all [lkS]
@[simp] theorem W_ixT (xs : List D) (i : Int) (h : OH) : (opIx (.tup xs) (.int i) h).W PD = lkS (atI xs i) fun d => PD d h := by
  simp only [opIx, seqAt]; split <;> simp_all [lkS]
@[simp] theorem W_ixC (xs : List D) (i : Int) (h : OH) : (opIx (.scr xs) (.int i) h).W PD = lkS (atI xs i) fun d => PD d h := by
  simp only [opIx, seqAt]; split <;> simp_all [lkS]
@[simp] theorem W_ixR (n : Nat) (i : Int) (h : OH) : (opIx (.ref n) (.int i) h).W PD = lkL h[n]? fun xs => lkS (atI xs i) fun d => PD d h := by
  simp only [opIx, seqAt]
  cases h[n]? with
  | none => rfl
  | some o => cases o with
    | lst xs => simp only [lkL_lst]; split <;> simp_all [lkS]
    | _ => rfl
@[simp] theorem W_lenR (n : Nat) (h : OH) : (opLen (.ref n) h).W PD = lkL h[n]? fun xs => PD (.int xs.length) h := by
  simp only [opLen, seqAt]
  cases h[n]? with
  | none => rfl
  | some o => cases o <;> rfl
theorem ixN_z {n : Nat} {j : Int} (h0 : 0 ≤ j) (h : j < n) : ixN n j = some j.toNat := by simp [ixN, h0, h]
theorem atI_z {α : Type} {xs : List α} {j : Int} (h0 : 0 ≤ j) (h : j < xs.length) : atI xs j = xs[j.toNat]? := by simp [atI, ixN_z h0 h]
@[simp] theorem atI_0 {α : Type} (x : α) (xs : List α) : atI (x :: xs) 0 = some x := by rw [atI_z (by omega) (by simp)]; rfl
@[simp] theorem atI_1 {α : Type} (x y : α) (xs : List α) : atI (x :: y :: xs) 1 = some y := by rw [atI_z (by omega) (by simp; omega)]; rfl
@[simp] theorem atI_2 {α : Type} (x y z : α) (xs : List α) : atI (x :: y :: z :: xs) 2 = some z := by rw [atI_z (by omega) (by simp; omega)]; rfl
@[simp] theorem atI_3 {α : Type} (x y z u : α) (xs : List α) : atI (x :: y :: z :: u :: xs) 3 = some u := by rw [atI_z (by omega) (by simp; omega)]; rfl
@[simp] theorem ixN_0 (n : Nat) : ixN (n + 1) 0 = some 0 := ixN_z (by omega) (by omega)
@[simp] theorem ixN_1 (n : Nat) : ixN (n + 1 + 1) 1 = some 1 := ixN_z (by omega) (by omega)
@[simp] theorem ixN_2 (n : Nat) : ixN (n + 1 + 1 + 1) 2 = some 2 := ixN_z (by omega) (by omega)
@[simp] theorem SW_ixS (o i v : SE) (e : Env') (h : OH) : (sIxS o i v e h).W N C B R = (v e h).W fun y h1 => (o e h1).W fun x h2 => (i e h2).W fun k h3 => match x, k with
  | .ref n, .int j => lkL h3[n]? fun xs => lkS (ixN xs.length j) fun q => N e (h3.set n (.lst (xs.set q y)))
  | _, _ => False := by
  unfold sIxS
  simp only [W_toS]
  congr; funext y h1; congr; funext x h2; congr; funext k h3
  cases x <;> cases k <;> first | rfl | skip
  rename_i n j
  dsimp only
  cases h3[n]? with
  | none => rfl
  | some o => cases o with
    | lst xs => simp only [lkL_lst]; cases ixN xs.length j <;> rfl
    | _ => rfl
/-! sizes of numbers -/
def Small (i : Int) : Prop := i.natAbs < 2 ^ 4000
theorem log2_small {n k : Nat} (h : n < 2 ^ k) (hk : 0 < k) : n.log2 < k := by
  rcases Nat.eq_zero_or_pos n with h0 | h0
  · subst h0; simpa using hk
  · exact (Nat.log2_lt (by omega)).mpr h
theorem mulOk_l {i j : Int} (a : i.natAbs < 2 ^ 64) : mulOk i j = true := by simp [mulOk, a]
theorem mulOk_r {i j : Int} (a : j.natAbs < 2 ^ 64) : mulOk i j = true := by simp [mulOk, a]
theorem divOk_small {i j : Int} (a : Small j) (b : 0 < j) : divOk i j = true := by
  have h1 := log2_small a (by decide)
  simp only [divOk, Bool.and_eq_true, decide_eq_true_eq]
  omega
theorem small_of {i : Int} {k : Nat} (h : i.natAbs < 2 ^ k) (hk : k ≤ 4000) : Small i := Nat.lt_of_lt_of_le h (Nat.pow_le_pow_right (by decide) hk)
theorem small_64 {i : Int} (h : i.natAbs < 18446744073709551616) : Small i := small_of (k := 64) h (by decide)
/-! parts -/
def isI (d : D) (P : Int → Prop) : Prop := match d with
  | .int b => P b
  | _ => False
@[simp] theorem isI_int (b : Int) (P : Int → Prop) : isI (.int b) P = P b := rfl
@[simp] theorem W_rng1 (a : SE) (e : Env') (h : OH) : (sRng1 a e h).W PL = (a e h).W fun d h1 => isI d fun j => if rngOk j then PL (rngD 0 j.toNat) h1 else False := by
  unfold sRng1; rw [W_bind]; congr; funext d h1
  cases d <;> first | rfl | simp
@[simp] theorem W_rng2 (a b : SE) (e : Env') (h : OH) : (sRng2 a b e h).W PL = (a e h).W fun d h1 => (b e h1).W fun d2 h2 => isI d fun i => isI d2 fun j => if rngOk i && rngOk j then PL (rngD i (j - i).toNat) h2 else False := by
  unfold sRng2; rw [W_bind]; congr; funext d h1; rw [W_bind]; congr; funext d2 h2
  cases d <;> cases d2 <;> first | rfl | simp
@[simp] theorem W_it (f : SE) (e : Env') (h : OH) : (sIt f e h).W PL = (f e h).W fun d h1 => lkS (itAt d) fun xs => PL xs h1 := by
  unfold sIt; rw [W_bind]; congr; funext d h1
  cases itAt d <;> rfl
@[simp] theorem itAt_lst (xs : List D) : itAt (.lst xs) = some xs := rfl
@[simp] theorem itAt_tup (xs : List D) : itAt (.tup xs) = some xs := rfl
@[simp] theorem itAt_scr (xs : List D) : itAt (.scr xs) = some xs := rfl
@[simp] theorem itAt_str (x : Str) : itAt (.str x) = some (signsD x) := rfl
theorem rngD_at {lo : Int} {n k : Nat} {d : D} (h : (rngD lo n)[k]? = some d) : k < n ∧ d = .int (lo + k) := by
  simp only [rngD, List.getElem?_map, Option.map_eq_some_iff] at h
  obtain ⟨j, e1, e2⟩ := h
  obtain ⟨h1, h2⟩ := List.getElem?_eq_some_iff.mp e1
  rw [List.getElem_range] at h2
  rw [List.length_range] at h1
  subst h2
  exact ⟨h1, e2.symm⟩
@[simp] theorem rngD_len (lo : Int) (n : Nat) : (rngD lo n).length = n := by simp [rngD]
variable {PO : Option Int → OH → Prop}
@[simp] theorem W_noPart (e : Env') (h : OH) : (sNoPart e h).W PO = PO none h := rfl
@[simp] theorem W_part (f : SE) (e : Env') (h : OH) : (sPart f e h).W PO = (f e h).W fun d h1 => isI d fun j => PO (some j) h1 := by
  unfold sPart; rw [W_bind]; congr; funext d h1
  cases d <;> rfl
@[simp] theorem W_sCut (own : Bool) (a : SE) (lo hi : SO) (e : Env') (h : OH) : (sCut own a lo hi e h).W PD = (a e h).W fun x h1 => (lo e h1).W fun l h2 => (hi e h2).W fun u h3 => (opCut own x l u h3).W PD := by simp [sCut]
@[simp] theorem W_cutL (own : Bool) (xs : List D) (lo hi : Option Int) (h : OH) : (opCut own (.lst xs) lo hi h).W PD = if own then PD (.ref h.length) (h ++ [.lst (cutD xs lo hi)]) else PD (.lst (cutD xs lo hi)) h := by
  simp [opCut, lsqAt, seqAt]
@[simp] theorem W_cutC (own : Bool) (xs : List D) (lo hi : Option Int) (h : OH) : (opCut own (.scr xs) lo hi h).W PD = if own then PD (.ref h.length) (h ++ [.lst (cutD xs lo hi)]) else PD (.lst (cutD xs lo hi)) h := by
  simp [opCut, lsqAt, seqAt]
theorem cutD_take (xs : List D) (k : Int) (hk : 0 ≤ k) : cutD xs none (some k) = xs.take k.toNat := by
  have e : ¬ k < 0 := by omega
  simp only [cutD, HT.sIx, e, if_false, List.drop_zero, Nat.sub_zero]
  rw [List.take_eq_take_iff]
  omega
/-! methods of own lists -/
@[simp] theorem W_sMtO (g : Nat → List D → List D → OH → Res D) (o : SE) (a : SA) (e : Env') (h : OH) : (sMtO g o a e h).W PD = (o e h).W fun x h1 => match x with
  | .ref i => lkL h1[i]? fun _ => (a e h1).W fun ys h2 => lkL h2[i]? fun xs => (g i xs ys h2).W PD
  | _ => False := by
  unfold sMtO
  rw [W_bind]; congr; funext x h1
  cases x with
  | ref i =>
    rcases q : h1[i]? with _ | o
    · simp [isOwn, q, lkL]
    · cases o with
      | lst xs =>
        simp only [isOwn, q, lkL_lst, if_true, W_bind]
        congr; funext ys h2
        rcases q2 : h2[i]? with _ | o
        · rfl
        · cases o <;> rfl
      | _ => simp [isOwn, q, lkL]
  | _ => rfl
@[simp] theorem W_append (i : Nat) (xs : List D) (y : D) (h : OH) : (gAppend i xs [y] h).W PD = if xs.length < 1000000 then PD .non (h.set i (.lst (xs ++ [y]))) else False := by simp [gAppend, big]
theorem W_popAt {i : Nat} {xs : List D} {k : Int} {h : OH} {y : D} (h0 : 0 ≤ k) (hy : xs[k.toNat]? = some y) (hb : k < 2 ^ 63) (p : PD y (h.set i (.lst (xs.eraseIdx k.toNat)))) : (gPopAt i xs [.int k] h).W PD := by
  have hl := (List.getElem?_eq_some_iff.mp hy).1
  have e : seqIndex? k xs.length = some k.toNat := by
    have : ¬ k < 0 := by omega
    have : k < xs.length := by omega
    simp [seqIndex?, *]
  have b : -(2 ^ 63) ≤ k ∧ k < 2 ^ 63 := ⟨by omega, hb⟩
  simp only [gPopAt, if_pos b, e, hy]
  exact p
/-! comprehensions -/
@[simp] theorem W_sLc (own : Bool) (it : SA) (g : TF) (tt : ST) (el : SE) (vs : List Nat) (e : Env') (h : OH) : (sLc own it g tt el vs e h).W PD = (it e h).W fun ds h1 => (lcGo g tt el (wipeD e vs) ds h1 []).W fun acc h2 => if own then PD (.ref h2.length) (h2 ++ [.lst acc]) else PD (.lst acc) h2 := by
  simp [sLc]
theorem W_lcGo {g : TF} {tt : ST} {el : SE} {e : Env'} (I : Nat → List D → OH → Prop) : ∀ (ds : List D) (h : OH) (acc : List D), I 0 acc h → (∀ k d, ds[k]? = some d → ∀ acc h, I k acc h → ∃ e1, g d e h = some e1 ∧ (tt e1 h).W fun b h1 => if b then (el e1 h1).W fun y h2 => acc.length < 1000000 ∧ I (k + 1) (acc ++ [y]) h2 else I (k + 1) acc h1) →
    (∀ acc h, I ds.length acc h → PL acc h) → (lcGo g tt el e ds h acc).W PL
  | [], h, acc, i0, _, fin => fin acc h i0
  | d :: ds, h, acc, i0, st, fin => by
    obtain ⟨e1, q, w⟩ := st 0 d rfl acc h i0
    have rest := fun acc2 h2 (z : I 1 acc2 h2) => W_lcGo (fun k => I (k + 1)) ds h2 acc2 z (fun k d q => st (k + 1) d q) fin
    unfold lcGo
    rw [q]
    dsimp only
    rw [W_bind, W_noX]
    refine w.mono fun b h1 hw => ?_
    cases b with
    | true =>
      simp only [if_true] at hw ⊢
      rw [W_bind, W_noX]
      refine hw.mono fun y h2 hw2 => ?_
      rw [if_pos hw2.1]
      exact rest _ _ hw2.2
    | false => exact rest _ _ hw
/-- nothing is changed on the way -/
theorem W_lcMap {ξ : Type} {g : TF} {tt : ST} {el : SE} {e : Env'} (xs : List ξ) (emb : ξ → D) (p : ξ → Bool) (f : ξ → D) (h : OH) (hb : xs.length ≤ big)
    (st : ∀ x ∈ xs, ∃ e1, g (emb x) e h = some e1 ∧ (tt e1 h).W fun b h1 => b = p x ∧ h1 = h ∧ (p x = true → (el e1 h1).W fun y h2 => y = f x ∧ h2 = h)) (fin : PL ((xs.filter p).map f) h) : (lcGo g tt el e (xs.map emb) h []).W PL := by
  refine W_lcGo (fun k acc h' => h' = h ∧ acc = ((xs.take k).filter p).map f) _ _ _ ⟨rfl, rfl⟩ (fun k d hd acc h' hI => ?_) (fun acc h' hI => ?_)
  · obtain ⟨rfl, rfl⟩ := hI
    rw [List.getElem?_map, Option.map_eq_some_iff] at hd
    obtain ⟨x, hx, rfl⟩ := hd
    have hk := (List.getElem?_eq_some_iff.mp hx).1
    obtain ⟨e1, q, w⟩ := st x (List.mem_of_getElem? hx)
    refine ⟨e1, q, w.mono fun b h1 z => ?_⟩
    obtain ⟨rfl, rfl, z⟩ := z
    have ht : xs.take (k + 1) = xs.take k ++ [x] := by
      rw [List.take_succ, hx]; rfl
    cases hp : p x with
    | true =>
      rw [if_pos rfl]
      refine (z hp).mono fun y h2 z => ?_
      obtain ⟨rfl, rfl⟩ := z
      refine ⟨?_, rfl, ?_⟩
      · have a1 := List.length_filter_le p (xs.take k)
        have a2 : (xs.take k).length ≤ k := List.length_take_le ..
        have hb' : xs.length ≤ 1000000 := hb
        rw [List.length_map]
        omega
      · rw [ht]; simp [hp]
    | false => exact ⟨rfl, by rw [ht]; simp [hp]⟩
  · obtain ⟨rfl, rfl⟩ := hI
    simpa using fin
end
end HR
set_option Elab.async false
set_option linter.all false
set_option maxRecDepth 20000
set_option maxHeartbeats 1000000
/-! more of what the plain functions give -/
namespace HR
open PySem L2
section
variable {α β : Type} {P : α → OH → Prop} {N C B : Env' → OH → Prop} {R : D → OH → Prop} {PD : D → OH → Prop} {PL : List D → OH → Prop} {PB : Bool → OH → Prop}
theorem pure_eq {f : FN} {ds : List D} {x : D} (h : OH) (hp : D.pureL ds = true) (hx : x.pure = true) (w : (f ds []).W fun d _ => d = x) : pureF f ds h = .ok x h := by
  obtain ⟨a, h', e, rfl⟩ := w.out
  simp [pureF, hp, e, hx]
theorem pureL_map {ξ : Type} (f : ξ → D) (hf : ∀ x, (f x).pure = true) : ∀ l : List ξ, D.pureL (l.map f) = true
  | [] => rfl
  | x :: l => by simp [D.pureL, hf x, pureL_map f hf l]
@[simp] theorem pureL_nil : D.pureL [] = true := rfl
@[simp] theorem pureL_cons (x : D) (l : List D) : D.pureL (x :: l) = (x.pure && D.pureL l) := rfl
@[simp] theorem pureF_nil : D.pureF [] = true := rfl
@[simp] theorem pureF_cons (x : String × D) (l : List (String × D)) : D.pureF (x :: l) = (x.2.pure && D.pureF l) := rfl
@[simp] theorem pure_non : D.non.pure = true := rfl
@[simp] theorem pure_int (i : Int) : (D.int i).pure = true := rfl
@[simp] theorem pure_str (i : Str) : (D.str i).pure = true := rfl
@[simp] theorem pure_bl (i : Bool) : (D.bl i).pure = true := rfl
@[simp] theorem pure_lst (l : List D) : (D.lst l).pure = D.pureL l := rfl
@[simp] theorem pure_tup (l : List D) : (D.tup l).pure = D.pureL l := rfl
@[simp] theorem pure_scr (l : List D) : (D.scr l).pure = D.pureL l := rfl
@[simp] theorem pure_obj (C : String) (l : List (String × D)) : (D.obj C l).pure = D.pureF l := rfl
@[simp] theorem pureL_ints (l : List Int) : D.pureL (l.map D.int) = true := pureL_map _ (fun _ => rfl) l
@[simp] theorem pureL_strs (l : List Str) : D.pureL (l.map D.str) = true := pureL_map _ (fun _ => rfl) l
/-! == -/
@[simp] theorem W_eqI (neg : Bool) (i j : Int) (h : OH) : (opEq neg (.int i) (.int j) h).W PD = PD (.bl (if neg then !(i == j) else i == j)) h := by
  simp [opEq, SeqAt.shaped, PyData.canLay0, PyData.depth, PyData.eqv]
theorem W_eqS (neg : Bool) (x y : Str) (h : OH) (hx : PyData.strOk x = true) (hy : PyData.strOk y = true) : (opEq neg (.str x) (.str y) h).W PD = PD (.bl (if neg then !(x == y) else x == y)) h := by
  simp [opEq, SeqAt.shaped, PyData.canLay0, PyData.depth, PyData.eqv, hx, hy]
@[simp] theorem W_nilL (neg : Bool) (xs : List D) (h : OH) : (opNil neg (.lst xs) (.lst []) h).W PD = PD (.bl (if neg then !xs.isEmpty else xs.isEmpty)) h := by simp [opNil, lsqAt, seqAt]
@[simp] theorem W_isNon (neg : Bool) (h : OH) : (opIs neg .non .non h).W PD = PD (.bl (!neg)) h := by simp [opIs]
@[simp] theorem W_isInt (neg : Bool) (i : Int) (h : OH) : (opIs neg (.int i) .non h).W PD = PD (.bl neg) h := by simp [opIs]
@[simp] theorem W_isStr (neg : Bool) (i : Str) (h : OH) : (opIs neg (.str i) .non h).W PD = PD (.bl neg) h := by simp [opIs]
@[simp] theorem W_isLst (neg : Bool) (i : List D) (h : OH) : (opIs neg (.lst i) .non h).W PD = PD (.bl neg) h := by simp [opIs]
@[simp] theorem W_isTup (neg : Bool) (i : List D) (h : OH) : (opIs neg (.tup i) .non h).W PD = PD (.bl neg) h := by simp [opIs]
@[simp] theorem W_sChain (g g' : D → D → OH → Res D) (a b c : SE) (e : Env') (h : OH) : (sChain g g' a b c e h).W PD = (a e h).W fun x h1 => (b e h1).W fun y h2 => (g x y h2).W fun z h3 => isBl z fun t => if t then (c e h3).W fun u h4 => (g' y u h4).W PD else PD (.bl false) h3 := by
  unfold sChain
  rw [W_bind]; congr; funext x h1; rw [W_bind]; congr; funext y h2; rw [W_bind]; congr; funext z h3
  cases z with
  | bl t => cases t <;> simp
  | _ => rfl
@[simp] theorem W_sIsi (ts : List String) (f : SE) (e : Env') (h : OH) : (sIsi ts f e h).W PD = (f e h).W fun d h1 => lkS (tyAt h1 d) fun t => PD (.bl (ts.any fun T => isiB t T)) h1 := by
  unfold sIsi; rw [W_bind]; congr; funext d h1
  cases tyAt h1 d <;> rfl
@[simp] theorem ty_non (h : OH) : tyAt h .non = some "NoneType" := rfl
@[simp] theorem ty_bl (h : OH) (b : Bool) : tyAt h (.bl b) = some "bool" := rfl
@[simp] theorem ty_int (h : OH) (i : Int) : tyAt h (.int i) = some "int" := rfl
@[simp] theorem ty_str (h : OH) (x : Str) : tyAt h (.str x) = some "str" := rfl
@[simp] theorem ty_lst (h : OH) (xs : List D) : tyAt h (.lst xs) = some "list" := rfl
@[simp] theorem ty_scr (h : OH) (xs : List D) : tyAt h (.scr xs) = some "list" := rfl
@[simp] theorem ty_tup (h : OH) (xs : List D) : tyAt h (.tup xs) = some "tuple" := rfl
@[simp] theorem isi_ss : isiB "str" "str" = true := by decide
@[simp] theorem isi_ii : isiB "int" "int" = true := by decide
@[simp] theorem isi_bi : isiB "bool" "int" = true := by decide
@[simp] theorem isi_ib : isiB "int" "bool" = false := by decide
@[simp] theorem isi_ll : isiB "list" "list" = true := by decide
@[simp] theorem isi_lt : isiB "list" "tuple" = false := by decide
@[simp] theorem isi_tl : isiB "tuple" "list" = false := by decide
@[simp] theorem isi_tt : isiB "tuple" "tuple" = true := by decide
@[simp] theorem isi_si : isiB "str" "int" = false := by decide
@[simp] theorem isi_is : isiB "int" "str" = false := by decide
@[simp] theorem isi_sl : isiB "str" "list" = false := by decide
@[simp] theorem isi_st : isiB "str" "tuple" = false := by decide
@[simp] theorem isi_il : isiB "int" "list" = false := by decide
@[simp] theorem isi_it : isiB "int" "tuple" = false := by decide
@[simp] theorem W_inS (neg : Bool) (c : Nat) (z : Str) (h : OH) : (opInS neg (.str ⟨#[c]⟩) (.str z) h).W PD = PD (.bl (if neg then !decide (c ∈ z.cps.toList) else decide (c ∈ z.cps.toList))) h := by simp [opInS]
/-! all, any, sum, tuple, list -/
@[simp] theorem W_allL (xs : List D) (h : OH) : (opAll (.lst xs) h).W PD = lkS (bsOf xs) fun bs => PD (.bl (bs.all id)) h := by
  simp only [opAll, lsqAt, seqAt, Option.bind_some]; split <;> simp_all [lkS]
@[simp] theorem W_anyL (xs : List D) (h : OH) : (opAny (.lst xs) h).W PD = lkS (bsOf xs) fun bs => PD (.bl (bs.any id)) h := by
  simp only [opAny, lsqAt, seqAt, Option.bind_some]; split <;> simp_all [lkS]
@[simp] theorem W_sumL (xs : List D) (h : OH) : (opSum (.lst xs) h).W PD = lkS (intsOf xs) fun ns => PD (.int ns.sum) h := by
  simp only [opSum, lsqAt, seqAt, Option.bind_some]; split <;> simp_all [lkS]
@[simp] theorem bs_nil : bsOf [] = some [] := rfl
@[simp] theorem bs_cons (b : Bool) (l : List D) : bsOf (.bl b :: l) = (bsOf l).map (b :: ·) := rfl
theorem bs_mapF {ξ : Type} (f : ξ → Bool) : ∀ l : List ξ, bsOf (l.map fun x => .bl (f x)) = some (l.map f)
  | [] => rfl
  | x :: l => by simp [bs_mapF f l]
@[simp] theorem W_tupT (xs : List D) (h : OH) : (opTuple (.tup xs) h).W PD = PD (.tup xs) h := rfl
@[simp] theorem W_tupL (xs : List D) (h : OH) : (opTuple (.lst xs) h).W PD = PD (.tup xs) h := rfl
/-! comprehensions over what is written -/
@[simp] theorem W_lc_nil (g : TF) (tt : ST) (el : SE) (e : Env') (h : OH) (acc : List D) : (lcGo g tt el e [] h acc).W PL = PL acc h := rfl
@[simp] theorem W_lc_cons (g : TF) (tt : ST) (el : SE) (e : Env') (d : D) (ds : List D) (h : OH) (acc : List D) : (lcGo g tt el e (d :: ds) h acc).W PL = lkS (g d e h) fun e1 => (tt e1 h).W fun b h1 => if b then (el e1 h1).W fun y h2 => if acc.length < 1000000 then (lcGo g tt el e ds h2 (acc ++ [y])).W PL else False else (lcGo g tt el e ds h1 acc).W PL := by
  rw [lcGo]
  cases g d e h with
  | none => rfl
  | some e1 =>
    simp only [lkS_some, W_bind, W_noX]
    congr; funext b h1
    cases b <;> simp [big]
theorem W_lcMap1 {ξ : Type} {g : TF} {tt : ST} {el : SE} {e : Env'} (xs : List ξ) (emb : ξ → D) (f : ξ → D) (h : OH) (hb : xs.length ≤ big)
    (st : ∀ x ∈ xs, ∃ e1, g (emb x) e h = some e1 ∧ (tt e1 h).W fun b h1 => b = true ∧ h1 = h ∧ (el e1 h1).W fun y h2 => y = f x ∧ h2 = h) (fin : PL (xs.map f) h) : (lcGo g tt el e (xs.map emb) h []).W PL :=
  W_lcMap xs emb (fun _ => true) f h hb (fun x hx => by
    obtain ⟨e1, q, w⟩ := st x hx
    exact ⟨e1, q, w.mono fun b h1 z => ⟨z.1, z.2.1, fun _ => z.2.2⟩⟩) (by rw [List.filter_eq_self.mpr (fun _ _ => rfl)]; exact fin)
/-! objects -/
@[simp] theorem W_fld (f : String) (d : D) (h : OH) : (opFld f d h).W PD = lkS (insAt h d) fun q => lkS (q.2.lookup f) fun x => PD x h := by
  unfold opFld
  cases insAt h d with
  | none => rfl
  | some q => simp only [lkS_some]; cases q.2.lookup f <;> rfl
@[simp] theorem ins_obj (C : String) (fs : List (String × D)) (h : OH) : insAt h (.obj C fs) = some (C, fs) := rfl
theorem ins_ref {i : Nat} {h : OH} {C : String} {fs : List (String × D)} (e : h[i]? = some (.ins C fs)) : insAt h (.ref i) = some (C, fs) := by simp [insAt, e]
@[simp] theorem ins_ref0 (C : String) (fs : List (String × D)) (h : OH) : insAt (.ins C fs :: h) (.ref 0) = some (C, fs) := rfl
def lkI (o : Option OO) (P : String → List (String × D) → Prop) : Prop := match o with
  | some (.ins C fs) => P C fs
  | _ => False
@[simp] theorem lkI_ins (C : String) (fs : List (String × D)) (P : String → List (String × D) → Prop) : lkI (some (.ins C fs)) P = P C fs := rfl
def isR (d : D) (P : Nat → Prop) : Prop := match d with
  | .ref i => P i
  | _ => False
@[simp] theorem isR_ref (i : Nat) (P : Nat → Prop) : isR (.ref i) P = P i := rfl
@[simp] theorem SW_fldS (K f : String) (o v : SE) (e : Env') (h : OH) : (sFldS K f o v e h).W N C B R = (v e h).W fun y h1 => (o e h1).W fun x h2 => isR x fun i => lkI h2[i]? fun K' fs => if K' = K ∧ fs.length < 900 then N e (h2.set i (.ins K (putS f y fs))) else False := by
  unfold sFldS
  simp only [W_toS]
  congr; funext y h1; congr; funext x h2
  cases x <;> first | rfl | skip
  rename_i i
  simp only [isR_ref]
  rcases h2[i]? with _ | o
  · rfl
  · cases o <;> first | rfl | simp
@[simp] theorem putS_nil (f : String) (d : D) : putS f d [] = [(f, d)] := rfl
@[simp] theorem putS_cons (f : String) (d : D) (q : String × D) (r : List (String × D)) : putS f d (q :: r) = if q.1 = f then (q.1, d) :: r else q :: putS f d r := by
  obtain ⟨g, x⟩ := q; rfl
/-- no field hides the method -/
def hasNo (fs : List (String × D)) (mt : String) : Prop := fs.lookup mt = none
@[simp] theorem W_sMeth (K mt : String) (g : FN) (o : SE) (a : SA) (e : Env') (h : OH) : (sMeth K mt g o a e h).W PD = (o e h).W fun x h1 => lkS (insAt h1 x) fun q => q.1 = K ∧ hasNo q.2 mt ∧ (a e h1).W fun ys h2 => (g (x :: ys) h2).W PD := by
  unfold sMeth
  rw [W_bind]; congr; funext x h1
  cases insAt h1 x with
  | none => rfl
  | some q =>
    simp only [lkS_some]
    by_cases hz : q.1 = K ∧ q.2.lookup mt = none
    · have h1 : q.1 = K := hz.1
      have h2 : hasNo q.2 mt := hz.2
      rw [if_pos hz]
      simp [h1, h2]
    · rw [if_neg hz]
      exact propext ⟨fun z => z.elim, fun z => absurd ⟨z.1, z.2.1⟩ hz⟩
end
/-! keys -/
theorem ddK_nodup : ∀ (ks acc : List Key), ks.Nodup → (∀ x ∈ ks, x ∉ acc) → ddK acc ks = acc ++ ks
  | [], acc, _, _ => by simp [ddK]
  | x :: r, acc, nd, hn => by
    have n1 : inK acc x = false := by
      simp only [inK, List.any_eq_false, decide_eq_true_eq]
      intro y hy e
      exact hn x List.mem_cons_self (e ▸ hy)
    have nd' := List.nodup_cons.mp nd
    rw [ddK, n1, ddK_nodup r _ nd'.2]
    · simp
    · intro y hy hm
      simp only [Bool.false_eq_true, if_false, List.mem_append, List.mem_singleton] at hm
      rcases hm with hm | hm
      · exact hn y (List.mem_cons_of_mem _ hy) hm
      · subst hm; exact nd'.1 hy
theorem keys_strs : ∀ l : List Str, keysOf (l.map D.str) = some (l.map Sum.inr)
  | [] => rfl
  | x :: l => by simp [keysOf, keys_strs l]
end HR
set_option Elab.async false
set_option linter.all false
set_option maxRecDepth 20000
set_option maxHeartbeats 1000000
/-! range with the step -1, enumerate, zip -/
namespace HR
open PySem L2 RZ
section
variable {X : Cx} {W : WX}
def rngS (lo c : Int) (n : Nat) : List D := (List.range n).map fun (k : Nat) => D.int (lo + k * c)
@[simp] theorem rngS_len (lo c : Int) (n : Nat) : (rngS lo c n).length = n := by simp [rngS]
/-- range(a, b, -1) -/
def sRngN (a : SA) : SA := fun e h => (a e h).bind fun ds h1 => match ds with
  | [.int i, .int j, .int k] => if rngOk i && (rngOk j && decide (k = -1)) then .ok (rngS i (-1) (i - j).toNat) h1 else .bad
  | _ => .bad
/-! enumerate(list), zip(a, b) -/
def enumD (xs : List D) : List D := xs.mapIdx fun i x => .tup [.int (i : Nat), x]
theorem walks_enum {K : PySem.W.Frag} {F : Hp} {m : List Addr} {a : Addr} {vs : List V} {xs : List D} (q : SqL K F a vs) (r : DenL K F m vs xs) : Walks K F m (Ite K a) (enumD xs) := by
  intro P F2 m2 h H i x S
  have q2 : SqL K H a vs := S.sub.seq (x.s.seq q)
  have hl : (enumD xs).length = xs.length := by simp [enumD]
  rw [hl]
  refine ⟨fun hi => ?_, fun hi => ⟨vs, q2, by rw [r.length]; exact hi⟩⟩
  have hv : i < vs.length := by rw [r.length]; exact hi
  refine ⟨⟨vs, vs[i], q2, List.getElem?_eq_getElem hv⟩, fun y H' yl => ?_⟩
  obtain ⟨T, z, rfl, hT, rfl, yl⟩ := yl
  obtain ⟨d, e1, r1⟩ := r.getV (yl vs q2)
  have x2 := S.extF (o := .tup [.int (i : Nat), z]) hT
  exact ⟨_, x2, S.frozen hT, .tup [.int (i : Nat), d], by simp [enumD, e1], .tup upd_same (.cons (.int _) (.cons (r1.mono (x.trans x2)) .nil))⟩
def sEnum (f : SA) : SA := fun e h => (f e h).bind fun ds h1 => match ds with
  | [d] => (match frzAt d with
    | some xs => .ok (enumD xs) h1
    | none => .bad)
  | _ => .bad
theorem di_enum {elts : List Expr} {kk : Nat} {tpos : Pos} {a : Expr} {f : SE} {p pos : Pos} (hg : Gl X "enumerate") (hm : X.mg "enumerate" = none) (ha : DE X W a f) (he : starEach [a] X.env = (false, eval a X.env) :: starEach [] X.env := by rfl) (hs : starEach [a] X.env = [(false, eval a X.env)] := by rfl) :
    DI X W (.Tuple elts kk tpos) (.Call (.Name "enumerate" p) [a] [] pos) (sEnum (sCons f sNil)) :=
  PI.of (pi_enum hg hm (da_cons ha da_nil he) hs) fun σ H R => by
    rintro ⟨P, F, m, e, h, S, E, fin⟩
    refine ⟨P, F, m, e, h, S, E, ?_⟩
    unfold sEnum at fin
    cases q : (sCons f sNil) e h with
    | bad => rw [q] at fin; exact fin.elim
    | exc C p h1 => rw [q] at fin; exact fin
    | ok ds h1 =>
      rw [q] at fin
      simp only [Res.bind_ok] at fin
      intro vs F1 m1 H1 x S1 r
      match ds, fin, r with
      | [d], fin, r =>
        obtain ⟨v, rfl, r1⟩ := denL1 r
        dsimp only at fin
        cases q3 : frzAt d with
        | none => rw [q3] at fin; exact fin.elim
        | some xs =>
          rw [q3] at fin
          obtain ⟨b, ws, rfl, hb, rl⟩ := den_sq r1 q3
          exact ⟨b, ws, rfl, S1.sub.seq hb, FinG.okX fin x S1 (walks_enum hb rl)⟩
def zipD (xs ys : List D) : List D := List.zipWith (fun x y => D.tup [x, y]) xs ys
theorem zipD_at {xs ys : List D} {i : Nat} {x y : D} (hx : xs[i]? = some x) (hy : ys[i]? = some y) : (zipD xs ys)[i]? = some (.tup [x, y]) := by simp [zipD, List.getElem?_zipWith, hx, hy]
theorem walks_zip {K : PySem.W.Frag} {F : Hp} {m : List Addr} {a b : Addr} {vs ws : List V} {xs ys : List D} (q : SqL K F a vs) (r : DenL K F m vs xs) (q' : SqL K F b ws) (r' : DenL K F m ws ys) : Walks K F m (Itz K a b) (zipD xs ys) := by
  intro P F2 m2 h H i x S
  have q2 : SqL K H a vs := S.sub.seq (x.s.seq q)
  have q3 : SqL K H b ws := S.sub.seq (x.s.seq q')
  have l1 := r.length
  have l2 := r'.length
  have hl : (zipD xs ys).length = min xs.length ys.length := by simp [zipD]
  rw [hl]
  refine ⟨fun hi => ?_, fun hi => ⟨vs, ws, q2, q3, by omega⟩⟩
  have hv : i < vs.length := by omega
  have hw : i < ws.length := by omega
  refine ⟨⟨vs, ws, vs[i], ws[i], q2, q3, List.getElem?_eq_getElem hv, List.getElem?_eq_getElem hw⟩, fun y H' yl => ?_⟩
  obtain ⟨T, z, z2, rfl, hT, rfl, yl, yl2⟩ := yl
  obtain ⟨d, e1, r1⟩ := r.getV (yl vs q2)
  obtain ⟨d2, e2, r2⟩ := r'.getV (yl2 ws q3)
  have x2 := S.extF (o := .tup [z, z2]) hT
  exact ⟨_, x2, S.frozen hT, .tup [d, d2], zipD_at e1 e2, .tup upd_same (.cons (r1.mono (x.trans x2)) (.cons (r2.mono (x.trans x2)) .nil))⟩
theorem walks_zipT {K : PySem.W.Frag} {F : Hp} {m : List Addr} {a b : Addr} {vs ws : List V} {xs ys : List D} (q : SqT K F a vs) (r : DenL K F m vs xs) (q' : SqT K F b ws) (r' : DenL K F m ws ys) : Walks K F m (ItzT K a b) (zipD xs ys) := by
  intro P F2 m2 h H i x S
  have q2 : SqT K H a vs := Same.sqT S.sub (Same.sqT x.s q)
  have q3 : SqT K H b ws := Same.sqT S.sub (Same.sqT x.s q')
  have l1 := r.length
  have l2 := r'.length
  have hl : (zipD xs ys).length = min xs.length ys.length := by simp [zipD]
  rw [hl]
  refine ⟨fun hi => ?_, fun hi => ⟨vs, ws, q2, q3, by omega⟩⟩
  have hv : i < vs.length := by omega
  have hw : i < ws.length := by omega
  refine ⟨⟨vs, ws, vs[i], ws[i], q2, q3, List.getElem?_eq_getElem hv, List.getElem?_eq_getElem hw⟩, fun y H' yl => ?_⟩
  obtain ⟨T, z, z2, rfl, hT, rfl, yl, yl2⟩ := yl
  obtain ⟨d, e1, r1⟩ := r.getV (yl vs q2)
  obtain ⟨d2, e2, r2⟩ := r'.getV (yl2 ws q3)
  have x2 := S.extF (o := .tup [z, z2]) hT
  exact ⟨_, x2, S.frozen hT, .tup [d, d2], zipD_at e1 e2, .tup upd_same (.cons (r1.mono (x.trans x2)) (.cons (r2.mono (x.trans x2)) .nil))⟩
def zipAt : D → D → Option (List D)
  | .tup xs, .tup ys => some (zipD xs ys)
  | a, b => match frzAt a, frzAt b with
    | some xs, some ys => some (zipD xs ys)
    | _, _ => none
def sZip (f : SA) : SA := fun e h => (f e h).bind fun ds h1 => match ds with
  | [d, d2] => (match zipAt d d2 with
    | some xs => .ok xs h1
    | none => .bad)
  | _ => .bad
theorem di_zip {elts : List Expr} {kk : Nat} {tpos : Pos} {a b : Expr} {f g : SE} {p pos : Pos} (hg : Gl X "zip") (hm : X.mg "zip" = none) (ha : DE X W a f) (hb : DE X W b g) (he : starEach [a, b] X.env = (false, eval a X.env) :: starEach [b] X.env := by rfl) (he2 : starEach [b] X.env = (false, eval b X.env) :: starEach [] X.env := by rfl) (hpl : (backTo pos (starEach [b] X.env)).any (·.1) = false := by rfl) :
    DI X W (.Tuple elts kk tpos) (.Call (.Name "zip" p) [a, b] [] pos) (sZip (sCons f (sCons g sNil))) :=
  PI.of (pi_zipA hg hm (da_cons ha (da_cons hb da_nil he2) he) he hpl) fun σ H R => by
    rintro ⟨P, F, m, e, h, S, E, fin⟩
    refine ⟨P, F, m, e, h, S, E, ?_⟩
    unfold sZip at fin
    cases q : (sCons f (sCons g sNil)) e h with
    | bad => rw [q] at fin; exact fin.elim
    | exc C p h1 => rw [q] at fin; exact fin
    | ok ds h1 =>
      rw [q] at fin
      simp only [Res.bind_ok] at fin
      intro vs F1 m1 H1 x S1 r
      match ds, fin, r with
      | [d, d2], fin, r =>
        obtain ⟨v, v2, rfl, r1, r2⟩ := denL2 r
        dsimp only at fin
        have lists : ∀ xs ys, frzAt d = some xs → frzAt d2 = some ys → zipAt d d2 = some (zipD xs ys) → ∃ a b xs ys, [v, v2] = [.ref a, .ref b] ∧ ((SqL X.K H1 a xs ∧ SqL X.K H1 b ys ∧ R (Itz X.K a b) H1) ∨ (SqT X.K H1 a xs ∧ SqT X.K H1 b ys ∧ R (ItzT X.K a b) H1)) := fun xs ys q1 q2 q3 => by
          rw [q3] at fin
          obtain ⟨b, ws, rfl, hb, rl⟩ := den_sq r1 q1
          obtain ⟨b2, ws2, rfl, hb2, rl2⟩ := den_sq r2 q2
          exact ⟨b, b2, ws, ws2, rfl, .inl ⟨S1.sub.seq hb, S1.sub.seq hb2, FinG.okX fin x S1 (walks_zip hb rl hb2 rl2)⟩⟩
        cases q4 : zipAt d d2 with
        | none => rw [q4] at fin; exact fin.elim
        | some zs =>
          unfold zipAt at q4
          split at q4
          · cases r1 with
            | @tup a1 _ _ e1 t1 => cases r2 with
              | @tup a2 _ _ e2 t2 => exact ⟨a1, a2, _, _, rfl, .inr ⟨Same.sqT S1.sub (.inl (.inl e1)), Same.sqT S1.sub (.inl (.inl e2)), FinG.okX fin x S1 (walks_zipT (.inl (.inl e1)) t1 (.inl (.inl e2)) t2)⟩⟩
          · rename_i hno
            split at q4
            · rename_i xs ys q1 q2
              refine lists xs ys q1 q2 ?_
              unfold zipAt
              split
              · cases q1
              · rw [q1, q2]
            · cases q4
end
section
variable {PL : List D → OH → Prop}
theorem W_rngN (a : SA) (e : Env') (h : OH) : (sRngN a e h).W PL = (a e h).W fun ds h1 => match ds with
  | [.int i, .int j, .int k] => if rngOk i && (rngOk j && decide (k = -1)) then PL (rngS i (-1) (i - j).toNat) h1 else False
  | _ => False := by
  unfold sRngN; rw [W_bind]; congr; funext ds h1
  split
  · split <;> rfl
  · rfl
@[simp] theorem W_rngN3 (f g k : SE) (e : Env') (h : OH) : (sRngN (sCons f (sCons g (sCons k sNil))) e h).W PL = (f e h).W fun a h1 => (g e h1).W fun b h2 => (k e h2).W fun c h3 => isI a fun i => isI b fun j => isI c fun l => if rngOk i && (rngOk j && decide (l = -1)) then PL (rngS i (-1) (i - j).toNat) h3 else False := by
  rw [W_rngN]; simp only [W_sCons, W_sNil]
  congr; funext a h1; congr; funext b h2; congr; funext c h3
  cases a <;> cases b <;> cases c <;> rfl
@[simp] theorem W_enum (f : SE) (e : Env') (h : OH) : (sEnum (sCons f sNil) e h).W PL = (f e h).W fun d h1 => lkS (frzAt d) fun xs => PL (enumD xs) h1 := by
  unfold sEnum; rw [W_bind]; simp only [W_sCons, W_sNil]; congr; funext d h1
  cases frzAt d <;> rfl
@[simp] theorem W_zip (f g : SE) (e : Env') (h : OH) : (sZip (sCons f (sCons g sNil)) e h).W PL = (f e h).W fun d h1 => (g e h1).W fun d2 h2 => lkS (zipAt d d2) fun xs => PL xs h2 := by
  unfold sZip; rw [W_bind]; simp only [W_sCons, W_sNil]; congr; funext d h1; congr; funext d2 h2
  cases zipAt d d2 <;> rfl
@[simp] theorem frz_lst (xs : List D) : frzAt (.lst xs) = some xs := rfl
@[simp] theorem frz_scr (xs : List D) : frzAt (.scr xs) = some xs := rfl
@[simp] theorem zipAt_ll (xs ys : List D) : zipAt (.lst xs) (.lst ys) = some (zipD xs ys) := rfl
@[simp] theorem zipAt_tt (xs ys : List D) : zipAt (.tup xs) (.tup ys) = some (zipD xs ys) := rfl
end
/-! ### while -/
end HR
set_option Elab.async false
set_option linter.all false
set_option maxRecDepth 100000
set_option maxHeartbeats 2000000
/-! repr; a law's end where the def is called with no guards -/
set_option Elab.async false
set_option linter.all false
set_option maxRecDepth 20000
set_option maxHeartbeats 1000000
/-! recursion: no call at all -/
set_option Elab.async false
set_option linter.all false
set_option maxRecDepth 20000
set_option maxHeartbeats 1000000
/-! lending: own lists are read as frozen trees for a call that changes nothing -/
set_option Elab.async false
set_option linter.all false
set_option maxRecDepth 100000
set_option maxHeartbeats 2000000
/-! exceptions: raise, a try whose except clause keeps what it caught, isinstance of what was kept -/
namespace HR
open PySem L2 PySem.Spec PyProof.Rows
/-! ### a caught exception becomes an object of ours -/
/-! ### as plain functions -/
/-- raise C('..') -/
def sRaise (C : String) : SS := fun e h => .exc C none e h
section
variable {X : Cx} {W : WX}
theorem ds_raise {C : String} {m : Str} {k : Nat} {p p2 p3 pos : Pos} (tk : Takes X W) (hcm : X.calm = true) (q : PySem.W.excIn X.K (He.ga X.K (Str.ofString C)) He.veBase "ValueError.__new__" = true) (kC : PySem.W.keepIn X.K (.ref (He.ga X.K (Str.ofString C))) = true)
    (sC : PySem.W.subIn X.K (.ref (He.ga X.K (Str.ofString C))) (.type "BaseException") = some true) (tC : PySem.W.typeIn X.K (.ref (He.ga X.K (Str.ofString C))) = some (.type "type")) (gC : X.mg (Str.ofString C) = some (.ref (He.ga X.K (Str.ofString C)))) (hg : Gl X (Str.ofString C))
    (hdb : (Str.ofString C == ("__debug__" : Str)) = false := by decide) : DS X W (.Raise (some (.Call (.Name (Str.ofString C) p) [.Constant (.str m) k p2] [] p3)) none pos) (sRaise C) :=
  PS.of (ps_raise hcm tk (pmk_own PySem.F.excBase_ValueError q gC kC (raises_own sC tC) hg hdb)) fun Dn σ H => by
    rintro ⟨P, F, m, e, h, S, E, fin⟩
    exact fin none σ F m H .refl S rfl E
end
/-! ### isinstance of a kept exception -/
/-- what the class at D must say -/
def excCB (K : PySem.W.Frag) (D : Addr) : Bool :=
  decide (PySem.W.findIn K (.ref D) "__getattribute__" = some (some (.builtin "BaseException.__getattribute__"))) && (decide (PySem.W.findIn K (.ref D) "__getattr__" = some none) && (decide (PySem.W.subIn K (.ref D) (.type "BaseException") = some true) && (PySem.W.hasDictIn K D &&
  (decide (PySem.W.findIn K (.ref D) "__class__" = some (some (.builtin "object.__class__"))) && (decide (PySem.W.specialIn K (.builtin "object.__class__") "__get__" = some (some (.builtin "getset_descriptor.__get__"))) && (decide (PySem.W.takesIn K (.builtin "object.__class__") = some true) &&
  decide (PySem.W.mroIn K D (.type "object") = some true)))))))
/-- is the class C below the class c, as names -/
def excB (C c : String) : Bool := C == c || (c == "HushError" || c == "ValueError")
/-! ### what is asked of a class with its own __init__ -/
def oexK (K : PySem.W.Frag) (C : Addr) : Bool := match K.lookup C with
  | some ⟨.type "type", _, .cls cd, sl⟩ => (match cd.mro, sl.toList with
    | .ref C2 :: bm, [_, _, _, _, some (.builtin n), _] => decide (C2 = C) && (decide (n = "ValueError.__new__") && (!cd.hasDel && (cd.hasDict && PySem.HandSPX.refsVE bm)))
    | _, _ => false)
  | _ => false
/-- the facts of one class C with the field f -/
def oexF (K : PySem.W.Frag) (C f : String) : Bool :=
  oexK K (He.ga K (Str.ofString C)) && (decide (PySem.W.findIn K (.ref (He.ga K (Str.ofString C))) "__setattr__" = some (some (.builtin "object.__setattr__"))) && (decide (PySem.W.subIn K (.ref (He.ga K (Str.ofString C))) (.type "BaseException") = some true) &&
  (decide (PySem.W.typeIn K (.ref (He.ga K (Str.ofString C))) = some (.type "type")) && (PySem.W.keepIn K (.ref (He.ga K (Str.ofString C))) && (decide (PySem.W.findIn K (.ref (He.ga K (Str.ofString C))) "__init__" = some (some (.ref (He.ma K (He.ga K (Str.ofString C)) "__init__")))) &&
  (decide (PySem.W.typeIn K (.ref (He.ma K (He.ga K (Str.ofString C)) "__init__")) = some (.type "function")) && (decide (PySem.W.findIn K (.ref (He.ga K (Str.ofString C))) (Str.ofString f) = some none) &&
  (PySem.W.readsIn K (He.ga K (Str.ofString "HushError")) (.type "type") && (decide (PySem.W.specialIn K (.ref (He.ga K (Str.ofString "HushError"))) "__getattribute__" = some (some (.builtin "type.__getattribute__"))) &&
  (match PySem.W.findCls K (.ref (He.ga K (Str.ofString "HushError"))) (.type "type") "__init__" with
    | some (.val v) => decide (v = .builtin "ValueError.__init__")
    | _ => false))))))))))
/-- the field of a class with its own __init__ -/
def fieldOf (C : String) : Option String := if C = "TooMany" then some "count" else if C = "Inconsistent" then some "tick" else if C = "InvalidText" then some "line" else none
/-- facts of the classes xs (caught) and ys (asked for) -/
def excFacts (K : PySem.W.Frag) (xs ys : List String) : Bool :=
  xs.all fun C => excCB K (He.ga K (Str.ofString C)) && (decide (PySem.W.exmOne K (.ref (He.ga K (Str.ofString C))) (.ref (He.ga K (Str.ofString "HushError"))) = some true) &&
    (decide (PySem.W.kitOne K (.ref (He.ga K (Str.ofString C))) (.type "ValueError") = some true) && ((ys.all fun c => decide (PySem.W.kitOne K (.ref (He.ga K (Str.ofString C))) (.ref (He.ga K (Str.ofString c))) = some (excB C c))) && (match fieldOf C with
    | some f => oexF K C f
    | none => true))))
/-! ### a def that lets nothing out -/
def noXF (g : FN) : FN := fun ds h => (g ds h).noX
@[simp] theorem noX_ok {α : Type} (a : α) (h : OH) : (Res.ok a h).noX = .ok a h := rfl
@[simp] theorem noXF_at (g : FN) (ds : List D) (h : OH) : noXF g ds h = (g ds h).noX := rfl
theorem noX_sp {K : PySem.W.Frag} {np : Nat} {g : FN} {vs : List V} {H : Hp} {Q : VK} {E : XK} (q : spN K np (noXF g) vs H Q E) : spN K np g vs H Q E0 := by
  obtain ⟨hl, P, F, m, ds, h, S, r, fin⟩ := q
  refine ⟨hl, P, F, m, ds, h, S, r, ?_⟩
  unfold noXF at fin
  cases e : g ds h with
  | ok d h1 => rw [e] at fin; exact fin
  | exc C p h1 => rw [e] at fin; exact fin.elim
  | bad => rw [e] at fin; exact fin.elim
section
variable {P : Program} {w : World} {K : PySem.W.Frag} {mg : Str → Option Value} {base : Heap} {k : Nat} {f : Addr} {fd : FuncData} {ps : List Str} {g : FN} {dvs : List V}
theorem FnOk.shut (Fk : FnOk P w K mg base (L2.CX P w) k f fd ps (spN K ps.length g)) : FnOk P w K mg base CX0 k f fd ps (spN K ps.length (noXF g)) where
  len := fun vs H Q E q => q.1
  run := fun A out s H args us vs Q E hr e0 hb r q => codeAny_mono (Fk.run A out s H args us vs Q E0 hr e0 hb r (noX_sp q)) fun res s1 hq => by
    cases res with
    | error e =>
      obtain ⟨_, _, _, _, _, _, _, _, _, _, _, _, z⟩ := hq
      exact z.elim
    | ok fl => cases fl <;> exact hq
theorem Def.shut (d : Def P w K mg base (L2.CX P w) k f ps dvs g) : Def P w K mg base CX0 k f ps dvs (noXF g) := let ⟨fd, dus, a, b, c⟩ := d.ex; ⟨⟨fd, dus, FnOk.shut a, b, c⟩, d.kp⟩
end
/-! ### {} -/
def sDct0 : SE := fun _ h => .ok (.dct []) h
/-! ### a + b, to be an own list -/
end HR
set_option Elab.async false
set_option linter.all false
set_option maxRecDepth 100000
set_option maxHeartbeats 2000000
/-! repr of values in which an empty dict may stand; the head's facts for laws with exceptions -/
namespace HR
open PySem L2 RZ PySem.Spec PyProof.Rows
/-! ### facts of the head -/
def modOk (K : PySem.W.Frag) : Bool := match K.lookup sysModules with
  | some o => decide (o.cls = .type "dict")
  | none => false
def obsX (fa : List He.Fa) (fn : List He.DefD) (xs ys : List String) (K : PySem.W.Frag) : He.AlD × Bool := (He.obsD fa fn K, excFacts K xs ys && modOk K)
def SaysX (fa : List He.Fa) (fn : List He.DefD) (xs ys : List String) (K : PySem.W.Frag) : Prop := obsX fa fn xs ys K = (He.valD fn, true)
section
variable {fa : List He.Fa} {fn : List He.DefD} {xs ys : List String} {K : PySem.W.Frag}
theorem SaysX.d (c : SaysX fa fn xs ys K) : He.SaysD fa fn K := congrArg (fun z : He.AlD × Bool => z.1) c
theorem SaysX.fact (c : SaysX fa fn xs ys K) (i : Nat) {f : He.Fa} (h : fa[i]? = some f := by rfl) : f.ok K = true := c.d.fact i h
theorem SaysX.def_ (c : SaysX fa fn xs ys K) (i : Nat) {d : He.DefD} (h : fn[i]? = some d := by rfl) : ∃ fd, FunD K d.name d.qual d.params d.body d.scope (d.dvs K) (d.kws K) (He.fAd K d.at_) fd := c.d.def_ i h
end
/-! ### what is read of a value, as data -/
mutual
def pyR (get : Nat → Option (List PyData)) : D → Option PyData
  | .non => some .none
  | .bl b => some (.bool b)
  | .int i => some (.int i)
  | .str x => some (.str x)
  | .lst xs => (pyRL get xs).map .list
  | .scr xs => (pyRL get xs).map .list
  | .tup xs => (pyRL get xs).map .tuple
  | .ref i => (get i).map .list
  | .dct [] => some (.dict [])
  | .dct (_ :: _) => none
  | .obj _ _ => none
  | .exc _ => none
  | .excf _ _ _ => none
def pyRL (get : Nat → Option (List PyData)) : List D → Option (List PyData)
  | [] => some []
  | x :: xs => match pyR get x, pyRL get xs with
    | some d, some ds => some (d :: ds)
    | _, _ => none
end
/-! ### repr -/
def reprOkX (p : PyData) : Bool := p.showable && (decide (p.depth ≤ 60) && decide (p.shown.length ≤ big))
/-! ### texts of any signs compared -/
def opEqT (neg : Bool) : D → D → OH → Res D := fun a b h => match a, b with
  | .str x, .str y => .ok (.bl (if neg then !(x == y) else x == y)) h
  | _, _ => opEq neg a b h
section
variable {X : Cx} {W : WX}
variable {PD : D → OH → Prop}
@[simp] theorem W_eqT (neg : Bool) (x y : Str) (h : OH) : (opEqT neg (.str x) (.str y) h).W PD = PD (.bl (if neg then !(x == y) else x == y)) h := rfl
end
end HR
set_option Elab.async false
set_option linter.all false
set_option maxRecDepth 100000
set_option maxHeartbeats 2000000
/-! texts: join, split -/
namespace HR
open PySem L2
def strsOf : List D → Option (List Str)
  | [] => some []
  | .str x :: r => (strsOf r).map (x :: ·)
  | _ => none
@[simp] theorem strsOf_map : ∀ ys : List Str, strsOf (ys.map D.str) = some ys
  | [] => rfl
  | y :: ys => by simp [strsOf, strsOf_map ys]
/-- o.f(a), o a text -/
def sM1 (g : Str → D → OH → Res D) (o a : SE) : SE := fun e h => (o e h).bind fun x h1 => match x with
  | .str s => (a e h1).bind fun d h2 => g s d h2
  | _ => .bad
end HR
set_option Elab.async false
set_option linter.all false
set_option maxRecDepth 100000
set_option maxHeartbeats 2000000
/-! instances that change: C(..) as an own object, o.f += e -/
namespace HR
open PySem L2
section
variable {X : Cx} {W : WX} {k : Nat} {f : Addr} {fd : FuncData} {ps : List Str} {g : FN}
theorem de_makeO {C : String} {p pos : Pos} {a : Expr} {es : List Expr} {fa : SA} (M : Mk X.K (He.ga X.K (Str.ofString C)) f) (c : Cls X.K (He.ga X.K (Str.ofString C))) (Fk : Def X.prog X.w X.K X.mg X.base CX0 k f ps [] g) (hr : Room (k + 1) X.A) (hm : X.mg (Str.ofString C) = some (.ref (He.ga X.K (Str.ofString C))))
    (ha : DA X W (a :: es) fa) (hl : ∀ e h ds h', fa e h = .ok ds h' → ds.length = (a :: es).length) (hn : (a :: es).length + 1 = ps.length := by rfl) (hg : Gl X (Str.ofString C) := by rfl) (hdb : (Str.ofString C == ("__debug__" : Str)) = false := by decide)
    (he : starEach (a :: es) X.env = (false, eval a X.env) :: starEach es X.env := by rfl) (hpl : (backTo pos (starEach es X.env)).any (·.1) = false := by rfl) : DE X W (.Call (.Name (Str.ofString C) p) (a :: es) [] pos) (sMake C g fa) := by
  obtain ⟨fd, dus, F1, hb, hd⟩ := Fk.ex
  cases hd
  refine PE.of (pe_make M F1 hr hg hm hb .nil (pass0 (X := X)) ha hdb he hpl) fun σ H Q => ?_
  rintro ⟨P, F, m, e, h, S, E, fin⟩
  refine ⟨P, F, m, e, h, S, E, ?_⟩
  unfold sMake at fin
  cases q : fa e h with
  | bad => rw [q] at fin; exact fin.elim
  | exc C p h1 => rw [q] at fin; exact fin
  | ok ys h1 =>
    rw [q] at fin
    simp only [Res.bind_ok] at fin
    intro vs F1 m1 H1 x1 S1 r1 x dx hx hdx ne
    have Sn := ins_new S1 c hx hdx ne
    have x2 : Ext F1 m1 F1 (m1 ++ [x]) := ⟨Same.refl _, List.prefix_append _ _⟩
    refine ⟨by rw [List.append_nil, List.length_cons, r1.length, hl e h ys h1 q]; exact hn, P, F1, m1 ++ [x], .ref h1.length :: ys, h1 ++ [.ins C []], Sn, by rw [List.append_nil]; exact .cons (.ref (by rw [← S1.len]; simp)) (r1.mono x2), ?_⟩
    cases q2 : g (.ref h1.length :: ys) (h1 ++ [.ins C []]) with
    | bad => rw [q2] at fin; exact fin.elim
    | exc C p h2 => rw [q2] at fin; exact fin.elim
    | ok d h2 =>
      rw [q2] at fin
      cases d with
      | non =>
        intro v F2 m2 H2 x3 S2 rv
        cases rv
        exact ⟨rfl, FinG.okX fin ((x1.trans x2).trans x3) S2 (.ref (pre_get x3.p (by rw [← S1.len]; simp)))⟩
      | _ => exact fin.elim
/-- o.f += e, ints -/
def sFldA (C f : String) (o v : SE) : SS := fun e h => (o e h).toS e fun x h1 => match x with
  | .ref n => (match h1[n]? with
    | some (.ins C1 fs) => if C1 = C then (match fs.lookup f with
      | some (.int i) => (v e h1).toS e fun y h2 => (match y, h2[n]? with
        | .int j, some (.ins C2 fs2) => if C2 = C ∧ fs2.length < 900 then .nx e (h2.set n (.ins C (putS f (.int (i + j)) fs2))) else .bad
        | _, _ => .bad)
      | _ => .bad) else .bad
    | _ => .bad)
  | _ => .bad
theorem ds_fldA {o a : Expr} {C f : String} {fo fa : SE} {pos tpos : Pos} (hn : NoAttr X.K (He.ga X.K (Str.ofString C)) (Str.ofString f)) (ho : DE X W o fo) (ha : DE X W a fa) : DS X W (.AugAssign (.Attribute o (Str.ofString f) tpos) .Add a pos) (sFldA C f fo fa) := PS.of (ps_fldaug ho ha in_add) fun Dn σ H => by
  rintro ⟨P, F, m, e, h, S, E, fin⟩
  refine st_seq S E fin fun F1 m1 h1 H1 x dx x1 S1 E1 rx fin1 => ?_
  cases rx with
  | @ref b n e1 =>
    obtain ⟨ob, k1, k2⟩ := S1.own e1
    dsimp only at fin1
    rw [k1] at fin1
    cases ob with
    | ins C1 fs =>
      dsimp only at fin1
      by_cases hC : C1 = C
      · subst hC
        rw [if_pos rfl] at fin1
        cases ql : fs.lookup f with
        | none => rw [ql] at fin1; exact fin1.elim
        | some d0 =>
          rw [ql] at fin1
          cases d0 with
          | int i =>
            dsimp only at fin1
            obtain ⟨dx2, fv, k3, k4, k5, k6⟩ := k2
            obtain ⟨v0, lv, rv⟩ := k5.look ql
            cases den_int rv
            refine ⟨b, _, dx2, fv, _, rfl, k3, k4.1, hn, lv, st_seq S1 E1 fin1 fun F2 m2 h2 H2 y dy x2 S2 E2 ry fin2 => ?_⟩
            cases dy with
            | int j =>
              cases den_int ry
              have e2 : m2[n]? = some b := pre_get x2.p e1
              obtain ⟨ob2, l1, l2⟩ := S2.own e2
              rw [l1] at fin2
              cases ob2 with
              | ins C2 fs2 =>
                dsimp only at fin2
                by_cases hz : C2 = C1 ∧ fs2.length < 900
                · rw [if_pos hz] at fin2
                  obtain ⟨rfl, hl⟩ := hz
                  obtain ⟨dx3, fv2, l3, l4, l5, l6⟩ := l2
                  have rd : DenF X.K F2 m2 (putF (Str.ofString f) (V.int (i + j)) fv2) (putS f (.int (i + j)) fs2) := putF_den (.int _) l5
                  refine ⟨i, j, rfl, rfl, dx3, fv2, l3, by rw [l5.length]; omega, fin2 σ F2 m2 _ .refl (S2.write e2 l1 l6 ⟨dx3, _, upd_same, ⟨l4.1, fun q hq => ?_⟩, rd, l6⟩) E2⟩
                  rcases putS_keys hq with h | ⟨p, hp, e3⟩
                  · rw [h]; exact hn
                  · rw [← e3]; exact l4.2 p hp
                · rw [if_neg hz] at fin2
                  exact fin2.elim
              | _ => exact fin2.elim
            | _ => exact fin2.elim
          | _ => exact fin1.elim
      · rw [if_neg hC] at fin1
        exact fin1.elim
    | _ => exact fin1.elim
  | _ => exact fin1.elim
end
end HR
set_option Elab.async false
set_option linter.all false
set_option maxRecDepth 100000
set_option maxHeartbeats 2000000
/-! exceptions as values: C('..'), C(e) where C keeps e in one field, raise C(e), x.f -/
set_option Elab.async false
set_option linter.all false
set_option maxRecDepth 20000
set_option maxHeartbeats 1000000
/-! walks over an own list, which keeps its length meanwhile -/
namespace HR
open PySem L2 RZ
section
variable {X : Cx} {W : WX}
/-- the place of an own list -/
def sRefL (f : SE) : Env' → OH → Res Nat := fun e h => (f e h).bind fun d h1 => match d with
  | .ref i => (match h1[i]? with
    | some (.lst _) => .ok i h1
    | _ => .bad)
  | _ => .bad
/-- j rounds are left of n -/
def forO (g : TF) (b : SS) (i n : Nat) : Nat → SS
  | 0 => fun e h => match h[i]? with
    | some (.lst ys) => if ys.length = n then .nx e h else .bad
    | _ => .bad
  | j + 1 => fun e h => match h[i]? with
    | some (.lst ys) => if ys.length = n then (match ys[n - (j + 1)]? with
      | some d => (match g d e h with
        | none => .bad
        | some e1 => (match b e1 h with
          | .nx e2 h2 => forO g b i n j e2 h2
          | .ct e2 h2 => forO g b i n j e2 h2
          | .bk e2 h2 => .nx e2 h2
          | r => r))
      | none => .bad) else .bad
    | _ => .bad
def sForO (f : SE) (g : TF) (b : SS) : SS := fun e h => (sRefL f e h).toS e fun i h1 => match h1[i]? with
  | some (.lst xs) => forO g b i xs.length xs.length e h1
  | _ => .bad
/-! comprehensions -/
theorem wipe_idem (σ : St) (vs : List Nat) : L2.wipe (L2.wipe σ vs) vs = L2.wipe σ vs := by
  have key : ∀ (us : List Nat) (τ : St), (∀ u ∈ us, ∀ z, τ[u]? = some z → z = none) → L2.wipe τ us = τ := by
    intro us
    induction us with
    | nil => intro τ _; rfl
    | cons u us ih =>
      intro τ hz
      show (L2.wipe τ us).set u none = τ
      rw [ih τ fun w hw => hz w (List.mem_cons_of_mem _ hw)]
      apply List.ext_getElem?
      intro j
      by_cases hj : u = j
      · subst hj
        rw [List.getElem?_set]
        simp only [if_true]
        by_cases hu : u < τ.length
        · rw [if_pos hu, List.getElem?_eq_getElem hu, hz u List.mem_cons_self τ[u] (List.getElem?_eq_getElem hu)]
        · rw [if_neg hu, List.getElem?_eq_none (Nat.le_of_not_lt hu)]
      · rw [List.getElem?_set_ne hj]
  refine key vs _ fun u hu z hz => ?_
  have cl : ∀ (us : List Nat) (τ : St), u ∈ us → (L2.wipe τ us)[u]? = some z → z = none := by
    intro us
    induction us with
    | nil => intro τ h; simp at h
    | cons w us ih =>
      intro τ h hz
      have hz : ((L2.wipe τ us).set w none)[u]? = some z := hz
      by_cases hw : w = u
      · subst hw
        rw [List.getElem?_set] at hz
        simp only [if_true] at hz
        split at hz
        · simpa using hz.symm
        · cases hz
      · rw [List.getElem?_set_ne hw] at hz
        rcases List.mem_cons.mp h with h | h
        · exact absurd h.symm hw
        · exact ih τ h hz
  exact cl vs σ hu hz
end
section
variable {α β : Type} {N C B : Env' → OH → Prop} {R : D → OH → Prop} {PD : D → OH → Prop} {PL : List D → OH → Prop} {PN : Nat → OH → Prop}
def lkO (o : Option OO) (P : List D → Prop) : Prop := match o with
  | some (.lst xs) => P xs
  | _ => False
@[simp] theorem lkO_lst (xs : List D) (P : List D → Prop) : lkO (some (.lst xs)) P = P xs := rfl
@[simp] theorem W_refL (f : SE) (e : Env') (h : OH) : (sRefL f e h).W PN = (f e h).W fun d h1 => isR d fun i => lkO h1[i]? fun _ => PN i h1 := by
  unfold sRefL; rw [W_bind]; congr; funext d h1
  cases d <;> first | rfl | skip
  rename_i i
  simp only [isR_ref]
  rcases h1[i]? with _ | o
  · rfl
  · cases o <;> rfl
@[simp] theorem SW_forO (f : SE) (g : TF) (b : SS) (e : Env') (h : OH) : (sForO f g b e h).W N C B R = (f e h).W fun d h1 => isR d fun i => lkO h1[i]? fun xs => (forO g b i xs.length xs.length e h1).W N C B R := by
  unfold sForO
  rw [W_toS, W_refL]
  congr; funext d h1; congr; funext i
  rcases h1[i]? with _ | o
  · rfl
  · cases o <;> rfl
end
end HR
set_option Elab.async false
set_option linter.all false
set_option maxRecDepth 20000
set_option maxHeartbeats 1000000
/-! a call without arguments -/
set_option Elab.async false
set_option linter.all false
set_option maxRecDepth 20000
set_option maxHeartbeats 1000000
/-! a block, statement by statement: what follows is out of sight meanwhile -/
namespace HR
open PySem L2 RZ
section
variable {N C B : Env' → OH → Prop} {R : D → OH → Prop}
theorem SW_seqK {f g : SS} {e : Env'} {h : OH} (q : ∀ K : Env' → OH → Prop, (∀ e h, (g e h).W N C B R → K e h) → (f e h).W K C B R) : (sSeq f g e h).W N C B R := by
  rw [SW_seq]
  exact q _ fun _ _ z => z
end
end HR
set_option Elab.async false
set_option linter.all false
set_option maxRecDepth 20000
set_option maxHeartbeats 1000000
/-! range(a, b) of numbers of any size -/
namespace HR
open PySem L2 RZ PySem.Spec PyProof.Rows
section
variable {X : Cx} {tg : Expr} {W : WX}
def sRng2W (a b : SE) : SA := fun e h => (a e h).bind fun d h1 => (b e h1).bind fun d2 h2 => match d, d2 with
  | .int i, .int j => .ok (rngD i (j - i).toNat) h2
  | _, _ => .bad
end
section
variable {PL : List D → OH → Prop}
@[simp] theorem W_rng2W (f g : SE) (e : Env') (h : OH) : (sRng2W f g e h).W PL = (f e h).W fun a h1 => (g e h1).W fun b h2 => isI a fun i => isI b fun j => PL (rngD i (j - i).toNat) h2 := by
  unfold sRng2W; rw [W_bind]; congr; funext a h1; rw [W_bind]; congr; funext b h2
  cases a <;> cases b <;> rfl
end
end HR
set_option Elab.async false
set_option linter.all false
set_option maxRecDepth 20000
set_option maxHeartbeats 1000000
/-! x is True, x is not False, of bools -/
namespace HR
open PySem L2 RZ PySem.Spec PyProof.Rows
section
variable {X : Cx} {W : WX}
def opIsB (neg : Bool) : D → D → OH → Res D
  | .bl a, .bl b, h => .ok (.bl (if neg then !decide (a = b) else decide (a = b))) h
  | _, _, _ => .bad
end
@[simp] theorem W_isB (neg a b : Bool) (h : OH) {PD : D → OH → Prop} : (opIsB neg (.bl a) (.bl b) h).W PD = PD (.bl (if neg then !decide (a = b) else decide (a = b))) h := rfl
end HR
set_option Elab.async false
set_option linter.all false
set_option maxRecDepth 20000
set_option maxHeartbeats 1000000
/-! repr of any value -/
set_option Elab.async false
set_option linter.all false
set_option maxRecDepth 20000
set_option maxHeartbeats 1000000
/-! clear and insert of own lists -/
namespace HR
open PySem L2 RZ PySem.Spec PyProof.Rows
section
variable {X : Cx} {W : WX}
def gClear (i : Nat) (xs ys : List D) (h : OH) : Res D := match ys with
  | [] => .ok .non (h.set i (.lst []))
  | _ => .bad
def gInsert (i : Nat) (xs ys : List D) (h : OH) : Res D := match ys with
  | [.int k, y] => if xs.length < big ∧ 0 ≤ k ∧ k < 2 ^ 63 then .ok .non (h.set i (.lst (xs.take k.toNat ++ [y] ++ xs.drop k.toNat))) else .bad
  | _ => .bad
end
section
variable {PD : D → OH → Prop}
@[simp] theorem W_clear (i : Nat) (xs : List D) (h : OH) : (gClear i xs [] h).W PD = PD .non (h.set i (.lst [])) := rfl
@[simp] theorem W_insert (i : Nat) (xs : List D) (k : Int) (y : D) (h : OH) : (gInsert i xs [.int k, y] h).W PD = if xs.length < 1000000 ∧ 0 ≤ k ∧ k < 9223372036854775808 then PD .non (h.set i (.lst (xs.take k.toNat ++ [y] ++ xs.drop k.toNat))) else False := by
  simp [gInsert, big]
end
end HR
set_option Elab.async false
set_option linter.all false
set_option maxRecDepth 100000
set_option maxHeartbeats 4000000
/-! sorted(set(xs)), xs a list of ints, fewer than 64 -/
namespace HR
open PySem L2
section
variable {prog : Program} {w : World} {A : Around} {E : Value → Shared → Prop} {s : Shared}
theorem set_of_ints {l : Addr} {items : Array Value} {ns : List Int} {Q : Value → Shared → Prop} (hh : A.handled = none) (hl : s.heap.IsList l items) (hlen : items.size = ns.length) (hi : ∀ (i : Nat) (v : Value), items[i]? = some v → ∃ k t, ns[i]? = some k ∧ v = .int k t) (hb : ns.length + 1 < scanBound)
    (h : ∀ (h' : Heap) (tk c : Nat), SetR w h' s.heap.objs.size (fun j => decide (j ∈ ns)) c → c ≤ ns.length → (∀ b o, b < s.heap.objs.size → s.heap.get? b = some o → h'.get? b = some o) → Q (.ref s.heap.objs.size) { s with heap := h', toks := tk }) :
    wpAny (model prog w) A (call (.type "set") [.ref l]) Q E s := by
  let fresh : Obj := { cls := .type "set", dict := none, data := .set #[] 0 (.fresh 0 0 (!w.params.followText "set-order")) }
  obtain ⟨c, tl, hmro⟩ := PySem.F.called_set.mro
  have f1 := PySem.F.called_set.made; have f2 := PySem.F.called_set.sub
  refine wpAny_call (codeAny_of_tree ?_)
  show wpAny _ _ (callAny (.type "set") ⟨[.ref l], []⟩) _ _ _
  refine wpAny_pure ⟨Code.quiet_builtin _ (by decide +kernel), codeAny_builtin (PySem.F.entry_type_call) ?_⟩
  rw [Around.under_plain (weight_type_call_type "set" [.ref l] []) rfl]
  have f3 := PySem.F.called_set.notType; have f4 := PySem.F.called_set.canCreate; have f5 := PySem.F.typeCall_set_1 (.ref l)
  repeat (any_goals (first | assumption | wp_step))
  refine codeAny_mono (code_set_led1 (.ref l) (E := E) (Q₁ := fun ob t => ob = .ref s.heap.objs.size ∧ t = { s with heap := s.heap.push fresh }) ⟨rfl, rfl⟩) fun r t hr => ?_
  cases r with
  | error e => exact hr
  | ok fl =>
    cases fl with
    | ret ob =>
      obtain ⟨rfl, rfl⟩ := hr
      have gS : (s.heap.push fresh).get? s.heap.objs.size = some fresh := Heap.get?_push_size _ rfl
      have tS : Shared.TypeIs { s with heap := s.heap.push fresh } (.ref s.heap.objs.size) "set" := ⟨_, gS, rfl⟩
      have f6 := PySem.F.called_set.init.lookup; have f7 := PySem.F.called_set.init.bind (.ref s.heap.objs.size)
      repeat (any_goals (first | assumption | wp_step))
      let Done : Value → Shared → Prop := fun r t => r = .none ∧ ∃ h' tk c, t = { s with heap := h', toks := tk } ∧ SetR w h' s.heap.objs.size (fun j => decide (j ∈ ns)) c ∧ c ≤ ns.length ∧ ∀ b o, b < s.heap.objs.size → s.heap.get? b = some o → h'.get? b = some o
      refine codeAny_mono (codeAny_call_builtin (R := wants Done E) PySem.F.called_set.init.plain PySem.F.entry_set_init (check_set_init_1 tS ?_)) fun r₂ t₂ hr₂ => ?_
      · obtain ⟨ol, hol, hcl, nl, hdl⟩ := hl
        obtain ⟨c0, d0, dt0, sl0⟩ := ol
        simp only at hcl hdl; subst hcl hdl
        have hol' : (s.heap.push fresh).get? l = some { cls := .type "list", dict := d0, data := .seq items nl, slots := sl0 } := Heap.get?_push_of_some _ hol
        have g1 := PySem.F.sub_list_set; have g2 := PySem.F.sub_list_frozenset; have g3 : (Value.type "list" == Value.type "dict") = false := by decide
        have hl1 : (s.heap.push fresh).IsList l items := ⟨_, hol', rfl, nl, rfl⟩
        unfold Builtin.«set.__init__»; unfold noKeywords Builtin.Frozenset.updateFrom
        generalize hPI : pyIter = PI
        wp_walk
        subst hPI
        refine wpAny_pyIter_list hl1 (?_)
        refine wpAny_bind (wpAny_runValue (?_))
        have lS : l < s.heap.objs.size := Heap.lt_size hol
        have hh3 : A.in1.in1.in1.handled = none := by rw [show A.in1.in1.in1.handled = A.handled from by simp]; exact hh
        have sz : (s.heap.push fresh).objs.size = s.heap.objs.size + 1 := Heap.size_push _ _
        have nI : l ≠ (s.heap.push fresh).objs.size := by rw [sz]; exact Nat.ne_of_lt (Nat.lt_succ_of_lt lS)
        have nS : s.heap.objs.size ∉ [(s.heap.push fresh).objs.size, l] := by
          rw [sz]
          intro z
          simp only [List.mem_cons, List.not_mem_nil, or_false] at z
          rcases z with z | z
          · exact absurd z (Nat.ne_of_lt (Nat.lt_succ_self _))
          · exact absurd z (Nat.ne_of_gt lS)
        refine set_update_ints ((Walks.list hh3 _ l nI items).toS) s.heap.objs.size nS ns hlen hb hi (items.size - 0) 0 _ (by omega) (Nat.zero_le _) ⟨⟨_, Heap.get?_push_size _ rfl, rfl, rfl⟩, (hl1.push _)⟩ ?hS0 ?hR
        case hS0 =>
          exact ⟨0, Nat.le_refl 0, setR_new_at (Heap.get?_push_of_some _ gS)⟩
        case hR =>
          intro t' c' mv hc' hS'
          obtain ⟨h', g', d', tk', os'⟩ := t'
          obtain rfl : g' = s.gens := mv.gens
          obtain rfl : d' = s.drawn := mv.drawn
          obtain rfl : os' = s.os := mv.os
          refine wpAny_pure ?_
          show wpAny _ _ (ret .none) _ _ _
          refine wpAny_pure ⟨rfl, h', tk', c', rfl, hS', (by rw [← hlen]; exact hc'), fun b o hb e => ?_⟩
          refine mv.heap b o (fun z => ?_) (Heap.get?_push_of_some _ (Heap.get?_push_of_some _ e))
          rcases List.mem_cons.mp z with z | z
          · exact absurd z (Nat.ne_of_lt hb)
          · rw [sz] at z
            rcases List.mem_singleton.mp z with rfl
            exact absurd (Nat.lt_of_lt_of_le hb (Nat.le_succ _)) (Nat.lt_irrefl _)
      · cases r₂ with
        | error e => exact hr₂
        | ok fl₂ =>
          cases fl₂ with
          | ret r =>
            obtain ⟨rfl, h', tk, c', rfl, hS', hc', hk'⟩ := hr₂
            repeat (any_goals (first | assumption | wp_step))
            exact h _ _ _ hS' hc' hk'
          | _ => exact hr₂.elim
    | _ => exact hr.elim
end
end HR
set_option Elab.async false
set_option linter.all false
set_option maxRecDepth 20000
set_option maxHeartbeats 1000000
/-! sorted(set(xs)), xs a list of ints, fewer than 64 -/
namespace HR
open PySem L2 RZ PySem.Spec PyProof.Rows
def insU (x : Int) : List Int → List Int
  | [] => [x]
  | y :: r => if x < y then x :: y :: r else if x = y then y :: r else y :: insU x r
def sortU (l : List Int) : List Int := l.foldr insU []
theorem insU_mem (x k : Int) : ∀ l : List Int, k ∈ insU x l ↔ k = x ∨ k ∈ l
  | [] => by simp [insU]
  | y :: r => by
    unfold insU
    split
    · simp
    · split
      · rename_i h
        subst h
        simp
      · simp only [List.mem_cons, insU_mem x k r]
        constructor
        · rintro (h | h | h)
          · exact .inr (.inl h)
          · exact .inl h
          · exact .inr (.inr h)
        · rintro (h | h | h)
          · exact .inr (.inl h)
          · exact .inl h
          · exact .inr (.inr h)
theorem insU_lt (x : Int) : ∀ l : List Int, l.Pairwise (· < ·) → (insU x l).Pairwise (· < ·)
  | [], _ => by simp [insU]
  | y :: r, h => by
    obtain ⟨h1, h2⟩ := List.pairwise_cons.mp h
    unfold insU
    split
    · rename_i q
      refine List.pairwise_cons.mpr ⟨fun z hz => ?_, h⟩
      rcases List.mem_cons.mp hz with rfl | hz
      · exact q
      · have := h1 z hz
        omega
    · split
      · exact h
      · refine List.pairwise_cons.mpr ⟨fun z hz => ?_, insU_lt x r h2⟩
        rcases (insU_mem x z r).mp hz with rfl | hz
        · omega
        · exact h1 z hz
theorem sortU_mem (k : Int) : ∀ l : List Int, k ∈ sortU l ↔ k ∈ l
  | [] => Iff.rfl
  | x :: r => by
    show k ∈ insU x (sortU r) ↔ _
    rw [insU_mem, sortU_mem k r, List.mem_cons]
theorem sortU_lt : ∀ l : List Int, (sortU l).Pairwise (· < ·)
  | [] => List.Pairwise.nil
  | x :: r => insU_lt x _ (sortU_lt r)
theorem lt_uniq : ∀ {a b : List Int}, a.Pairwise (· < ·) → b.Pairwise (· < ·) → (∀ k, k ∈ a ↔ k ∈ b) → a = b
  | [], [], _, _, _ => rfl
  | [], y :: b, _, _, h => absurd ((h y).mpr List.mem_cons_self) List.not_mem_nil
  | x :: a, [], _, _, h => absurd ((h x).mp List.mem_cons_self) List.not_mem_nil
  | x :: a, y :: b, ha, hb, h => by
    obtain ⟨a1, a2⟩ := List.pairwise_cons.mp ha
    obtain ⟨b1, b2⟩ := List.pairwise_cons.mp hb
    have e : x = y := by
      have h1 := (h x).mp List.mem_cons_self
      have h2 := (h y).mpr List.mem_cons_self
      rcases List.mem_cons.mp h1 with h1 | h1
      · exact h1
      · rcases List.mem_cons.mp h2 with h2 | h2
        · exact h2.symm
        · have := a1 y h2
          have := b1 x h1
          omega
    subst e
    rw [lt_uniq a2 b2 fun k => ?_]
    constructor
    · intro hk
      rcases List.mem_cons.mp ((h k).mp (List.mem_cons_of_mem _ hk)) with rfl | q
      · exact absurd (a1 k hk) (Int.lt_irrefl _)
      · exact q
    · intro hk
      rcases List.mem_cons.mp ((h k).mpr (List.mem_cons_of_mem _ hk)) with rfl | q
      · exact absurd (b1 k hk) (Int.lt_irrefl _)
      · exact q
section
variable {X : Cx} {W : WX}
def sSortSet (f : SE) : SE := fun e h => (f e h).bind fun d h1 => match (lsqAt h1 d).bind intsOf with
  | some ns => if ns.length < 64 then .ok (.lst ((sortU ns).map .int)) h1 else .bad
  | none => .bad
theorem boot_sorted_ : bootBuiltins "sorted" = some (.builtin "sorted") := by decide +kernel
theorem de_sortset {a : Expr} {fa : SE} {p p2 q pos : Pos} (hc : X.calm = true) (hg : Gl X "sorted") (hm : X.mg "sorted" = none) (hg2 : Gl X "set") (hm2 : X.mg "set" = none) (ha : DE X W a fa) (na : starEach [a] X.env = (false, eval a X.env) :: starEach [] X.env := by rfl) :
    DE X W (.Call (.Name "sorted" p) [.Call (.Name "set" p2) [a] [] q] [] pos) (sSortSet fa) := by
  refine ⟨fun pins s σ H Q I z => PyProof.Rows.Call_ (ld_blt I hg hm boot_sorted_ (PyProof.Rows.callWith_builtin1 (PyProof.Rows.args_cons (PyProof.Rows.Call_ (ld_blt I hg2 hm2 bootSet (PyProof.Rows.callWith_type1 (PyProof.Rows.args_cons ?_ na) na rfl))) rfl) rfl rfl))⟩
  obtain ⟨P, F, m, e, h, S, E, fin⟩ := z
  have key : rdG X.K W (Den X.K) fa σ H (fun x H1 => ∃ (l : Addr) (ns : List Int), x = .ref l ∧ SqL X.K H1 l (ns.map V.int) ∧ ns.length < 64 ∧ ∀ p, H1 p = none → Q (.ref p) (upd H1 p (.lst ((sortU ns).map V.int)))) := by
    refine rd_seq S E fin fun F1 m1 h1 H1 x dx x1 S1 E1 r1 fin1 => ?_
    cases q1 : lsqAt h1 dx with
    | none => rw [q1] at fin1; exact fin1.bad_elim
    | some xs =>
      rw [q1] at fin1
      simp only [Option.bind_some] at fin1
      cases q2 : intsOf xs with
      | none => rw [q2] at fin1; exact fin1.bad_elim
      | some ns =>
        rw [q2] at fin1
        dsimp only at fin1
        by_cases hz : ns.length < 64
        · rw [if_pos hz] at fin1
          obtain ⟨b, vs, rfl, hb, rl⟩ := lsqAt_ok S1 r1 q1
          rw [intsOf_ok rl q2] at hb
          refine ⟨b, ns, rfl, hb, hz, fun p hp => FinG.newL fin1 S1 ?_ hp⟩
          generalize sortU ns = us
          induction us with
          | nil => exact .nil
          | cons u us ih => exact .cons (.int u) ih
        · rw [if_neg hz] at fin1
          exact fin1.bad_elim
  refine thn (ha.run pins s σ H _ I key) fun v s1 ⟨x, H1, I1, r1, l, ns, ex, hq, hl, q1⟩ => PyProof.Rows.args_nil ?_
  subst ex
  cases r1
  obtain ⟨its, r, pl, hz⟩ := I1.list hq
  have hlen : its.toArray.size = ns.length := by rw [List.size_toArray, ← r.length, List.length_map]
  refine set_of_ints (I1.ok.hd hc) pl.isList hlen (fun i v hv => ?_) (by unfold scanBound; omega) fun h' tk c hS hc' hk => PyProof.Rows.args_nil ?_
  · have hi : i < ns.length := by
      rw [← hlen]
      exact (Array.getElem?_eq_some_iff.mp hv).1
    obtain ⟨u, e1, ru⟩ := r.get (i := i) (x := V.int ns[i]) (by simp [hi])
    have hv2 : its[i]? = some v := by simpa using hv
    rw [hv2] at e1
    obtain rfl : v = u := Option.some.inj e1
    obtain ⟨t, rfl⟩ := ru
    exact ⟨ns[i], t, List.getElem?_eq_getElem hi, rfl⟩
  · have I2 : Inv X pins σ H1 { s1 with heap := h', toks := tk } := I1.kept fun b o e => hk b o (Heap.lt_size e) e
    refine sorted_set hS (I1.ok.hd hc) (by omega) fun s' p out c2 us k g o hp hgt hit hs hmm hll => ?_
    have eu : us = sortU ns := lt_uniq hs (sortU_lt ns) fun k => by rw [hmm k, sortU_mem]; simp
    have hlen2 : (us.map V.int).length ≤ sizeLine := by rw [List.length_map, hll, sizeLine_eq]; omega
    have hn : H1 p = none := I2.hok.fresh hp
    have J : Inv X pins σ (upd H1 p (.lst (us.map V.int))) { ({ s1 with heap := h', toks := tk } : Shared) with heap := s'.heap, gens := s'.gens, drawn := s'.drawn, toks := s'.toks } :=
      I2.call (ch := []) (Un.laid k hp hn) (I2.hok.laid k hp ⟨hlen2, out.toList, c2, vals_of_ints hit, hgt⟩) (by rw [g]; exact I2.bare) (fun _ z => nomatch z)
    have e : s' = { s1 with heap := s'.heap, gens := s'.gens, drawn := s'.drawn, toks := s'.toks } := by
      cases s'
      cases s1
      cases o
      rfl
    rw [e]
    subst eu
    exact ⟨.ref p, _, J, rfl, q1 p hn⟩
end
section
variable {PD : D → OH → Prop}
@[simp] theorem W_sSortSet (f : SE) (e : Env') (h : OH) : (sSortSet f e h).W PD = (f e h).W fun d h1 => match (lsqAt h1 d).bind intsOf with
  | some ns => if ns.length < 64 then PD (.lst ((sortU ns).map .int)) h1 else False
  | none => False := by
  unfold sSortSet; rw [W_bind]; congr; funext d h1
  cases (lsqAt h1 d).bind intsOf with
  | none => rfl
  | some ns => dsimp only; split <;> rfl
end
end HR
set_option Elab.async false
set_option linter.all false
set_option maxRecDepth 20000
set_option maxHeartbeats 1000000
/-! min(xs, default=None), xs a list of ints -/
set_option Elab.async false
set_option linter.all false
set_option maxRecDepth 20000
set_option maxHeartbeats 1000000
/-! a comprehension over a list, own or frozen -/
set_option Elab.async false
set_option linter.all false
set_option maxRecDepth 100000
set_option maxHeartbeats 1000000
/-! zip of a list and a tuple -/
namespace HR
open PySem L2 RZ PySem.Spec PyProof.Rows
open PySem.Sem (wp)
/-! the call zip(l1, l2) -/
/-! the loop over it -/
section
variable {X : Cx} {W : WX}
theorem PI_or {tg e : Expr} {t1 t2 : TI} (a : PI X tg e t1) (b : PI X tg e t2) : PI X tg e (fun σ H R => t1 σ H R ∨ t2 σ H R) := ⟨fun pins s σ H R I h => h.elim (a.run pins s σ H R I) (b.run pins s σ H R I)⟩
/-- zip of lists, of tuples, or of a list and a tuple -/
def sZipX (f : SA) : SA := fun e h => match f e h with
  | .ok [.lst xs, .tup ys] h1 => .ok (zipD xs ys) h1
  | _ => sZip f e h
end
section
variable {PL : List D → OH → Prop}
def zipAtX : D → D → Option (List D)
  | .lst xs, .tup ys => some (zipD xs ys)
  | a, b => zipAt a b
theorem W_zipXa (f : SA) (e : Env') (h : OH) : (sZipX f e h).W PL = (f e h).W fun ds h1 => match ds with
  | [d, d2] => lkS (zipAtX d d2) fun xs => PL xs h1
  | _ => False := by
  unfold sZipX
  split
  · rename_i xs ys h1 q
    rw [q]
    rfl
  · rename_i no
    unfold sZip
    rw [W_bind]
    cases q : f e h with
    | bad => rfl
    | exc C p h1 => rfl
    | ok ds h1 =>
      simp only [W_ok]
      match ds, q with
      | [], _ => rfl
      | [_], _ => rfl
      | _ :: _ :: _ :: _, _ => rfl
      | [d, d2], q =>
        have e2 : zipAtX d d2 = zipAt d d2 := by
          unfold zipAtX
          split
          · exact absurd q (no _ _ _)
          · rfl
        simp only [e2]
        cases zipAt d d2 <;> rfl
@[simp] theorem W_zipX (f g : SE) (e : Env') (h : OH) : (sZipX (sCons f (sCons g sNil)) e h).W PL = (f e h).W fun d h1 => (g e h1).W fun d2 h2 => lkS (zipAtX d d2) fun xs => PL xs h2 := by
  rw [W_zipXa]; simp only [W_sCons, W_sNil]
@[simp] theorem zipAtX_lt (xs ys : List D) : zipAtX (.lst xs) (.tup ys) = some (zipD xs ys) := rfl
@[simp] theorem zipAtX_ll (xs ys : List D) : zipAtX (.lst xs) (.lst ys) = some (zipD xs ys) := rfl
end
end HR
set_option Elab.async false
set_option linter.all false
set_option maxRecDepth 20000
/-! a <= b < c -/
set_option Elab.async false
set_option linter.all false
set_option maxRecDepth 20000
set_option maxHeartbeats 1000000
/-! dict(pairs), the keys apart; d[k] -/
namespace HR
open PySem L2 RZ
def getK (ks : List (Key × D)) (k : Key) : Option D := (ks.find? fun kv => decide (kv.1 = k)).map (·.2)
def keyD : D → Option Key
  | .int i => some (.inl i)
  | .str x => some (.inr x)
  | _ => none
def opIxK : D → D → OH → Res D := fun a b h => match a, keyD b with
  | .dct ks, some k => (match getK ks k with
    | some d => .ok d h
    | none => .bad)
  | _, _ => .bad
def pairK : D → Option (Key × D)
  | .tup [a, d] => (keyD a).map fun k => (k, d)
  | _ => none
def pairsK : List D → Option (List (Key × D))
  | [] => some []
  | x :: xs => match pairK x, pairsK xs with
    | some k, some ks => some (k :: ks)
    | _, _ => none
def opDictP : D → OH → Res D := fun d h => match (lsqAt h d).bind pairsK with
  | some ks => if (ks.map (·.1)).Nodup then .ok (.dct ks) h else .bad
  | none => .bad
section
variable {K : PySem.W.Frag} {F : Hp} {m : List Addr}
theorem keyD_den {v : V} {d : D} {k : Key} (r : Den K F m v d) (e : keyD d = some k) : v = kV k := by
  cases r <;> simp only [keyD, Option.some.injEq, reduceCtorEq] at e <;> subst e <;> rfl
theorem denK_get : ∀ {kvs : List (Key × V)} {ks : List (Key × D)} (r : DenK K F m kvs ks) {k : Key} {d : D}, getK ks k = some d → ∃ v, valV kvs k = some v ∧ Den K F m v d
  | _, _, .nil, k, d, e => by simp [getK] at e
  | _, _, .cons (k := k0) (v := v0) (ds := ds0) h t, k, d, e => by
    by_cases c : k0 = k
    · subst c
      simp [getK] at e
      subst e
      exact ⟨_, valV_pos rfl, h⟩
    · have e2 : getK ds0 k = some d := by simpa [getK, c] using e
      obtain ⟨v, h1, h2⟩ := denK_get t e2
      exact ⟨v, by rw [valV_neg c]; exact h1, h2⟩
theorem pairs_den {H : Hp} (sub : ∀ a o, F a = some o → H a = some o) : ∀ {vs : List V} {xs : List D} (r : DenL K F m vs xs) {ks : List (Key × D)}, pairsK xs = some ks → ∃ (ps : List Addr) (kvs : List (Key × V)), vs = ps.map V.ref ∧ Paired (fun p kv => SqT K H p [kV kv.1, kv.2]) ps kvs ∧ DenK K F m kvs ks
  | _, _, .nil, ks, e => by
    simp [pairsK] at e
    subst e
    exact ⟨[], [], rfl, .nil, .nil⟩
  | _, _, .cons (d := x) h t, ks, e => by
    unfold pairsK at e
    cases e1 : pairK x with
    | none => rw [e1] at e; simp at e
    | some kd =>
      cases e2 : pairsK _ with
      | none => rw [e1, e2] at e; simp at e
      | some ks2 =>
        rw [e1, e2] at e
        simp only [Option.some.injEq] at e
        subst e
        obtain ⟨ps, kvs, q1, q2, q3⟩ := pairs_den sub t e2
        unfold pairK at e1
        split at e1
        · rename_i a d
          rw [Option.map_eq_some_iff] at e1
          obtain ⟨k, ek, rfl⟩ := e1
          cases h with
          | @tup p ws _ fe fr =>
            obtain ⟨v1, v2, rfl, r1, r2⟩ := denL2 fr
            have := keyD_den r1 ek
            subst this
            exact ⟨p :: ps, (k, v2) :: kvs, by rw [q1]; rfl, .cons (.inl (.inl (sub _ _ fe))) q2, .cons r2 q3⟩
        · cases e1
theorem DenK.keys : ∀ {kvs : List (Key × V)} {ks : List (Key × D)} (r : DenK K F m kvs ks), kvs.map (·.1) = ks.map (·.1)
  | _, _, .nil => rfl
  | _, _, .cons h t => by simp [t.keys]
theorem merge_apart : ∀ (more acc : List (Key × V)), (more.map (·.1)).Nodup → (∀ kv ∈ more, kv.1 ∉ acc.map (·.1)) → mergeK acc more = acc ++ more
  | [], acc, _, _ => by simp [mergeK]
  | kv :: more, acc, nd, ne => by
    simp only [List.map_cons, List.nodup_cons] at nd
    have h0 := ne kv List.mem_cons_self
    have an : (acc.any fun x => decide (x.1 = kv.1)) = false := by
      rw [List.any_eq_false]
      intro x hx
      simp only [decide_eq_true_eq]
      intro e
      exact h0 (by rw [← e]; exact List.mem_map_of_mem hx)
    have p : putK acc kv.1 kv.2 = acc ++ [kv] := by
      unfold putK
      rw [an]
      rfl
    have ih := merge_apart more (acc ++ [kv]) nd.2 fun x hx => by
      have := ne x (List.mem_cons_of_mem _ hx)
      simp only [List.map_append, List.map_cons, List.map_nil, List.mem_append, List.mem_singleton, not_or]
      exact ⟨this, fun e => nd.1 (by rw [← e]; exact List.mem_map_of_mem hx)⟩
    unfold mergeK at ih ⊢
    rw [List.foldl_cons, p, ih]
    simp
end
section
variable {X : Cx} {W : WX}
def rDGet : R2 := fun x y H Q => ∃ a v, x = .ref a ∧ DGet H a y (some v) ∧ Q v H
theorem opIxK_h : OpH X.K W opIxK rDGet := by
  intro P F m h H σ Q x y dx dy S r1 r2 fin
  unfold opIxK at fin
  split at fin
  · rename_i ks k ek
    cases r1 with
    | @dct a kvs _ q r =>
      have := keyD_den r2 ek
      subst this
      cases e : getK ks k with
      | none => rw [e] at fin; exact fin.bad_elim
      | some d =>
        rw [e] at fin
        obtain ⟨v, h1, h2⟩ := denK_get r e
        refine ⟨a, v, rfl, ?_, fin.ok S h2⟩
        rw [← h1]
        exact DGet.k (S.sub _ _ q)
  · exact fin.bad_elim
theorem de_ixK {a b : Expr} {pos : Pos} {fa fb : SE} (hu : X.A.units + 64 < cLine) (ha : DE X W a fa) (hb : DE X W b fb) (hs : NoSl b := by exact fun _ _ => rfl) : DE X W (.Subscript a b pos) (sBin opIxK fa fb) :=
  PE.of (pe_dget (by omega) ha hb hs) fun _ _ _ q => rd_op opIxK_h q
theorem bDictP_h : ClH X.K W (b1 opDictP) (fun xs H Q => ∃ (a : Addr) (ps : List Addr) (kvs : List (Key × V)), xs = [.ref a] ∧ SqL X.K H a (ps.map V.ref) ∧ Paired (fun p kv => SqT X.K H p [kV kv.1, kv.2]) ps kvs ∧ ∀ p, H p = none → Q (.ref p) (upd H p (.dK (mergeK [] kvs)))) := by
  intro P F m h H σ Q vs ds S r fin
  obtain ⟨v, d, rfl, r1, fin⟩ := b1_inv r fin
  unfold opDictP at fin
  cases e : lsqAt h d with
  | none => rw [e] at fin; exact fin.bad_elim
  | some xs =>
    rw [e] at fin
    simp only [Option.bind_some] at fin
    obtain ⟨a, ws, rfl, ha, rl⟩ := lsqAt_ok S r1 e
    cases e2 : pairsK xs with
    | none => rw [e2] at fin; exact fin.bad_elim
    | some ks =>
      rw [e2] at fin
      dsimp only at fin
      by_cases nd : (ks.map (·.1)).Nodup
      · rw [if_pos nd] at fin
        obtain ⟨ps, kvs, rfl, q2, q3⟩ := pairs_den (H := H) S.sub rl e2
        refine ⟨a, ps, kvs, rfl, ha, q2, fun p hp => ?_⟩
        have em : mergeK [] kvs = kvs := merge_apart kvs [] (by rw [q3.keys]; exact nd) (by simp)
        rw [em]
        have x := S.extF (o := .dK kvs) hp
        exact fin.okX x (S.frozen hp) (.dct upd_same (q3.mono x))
      · rw [if_neg nd] at fin
        exact fin.bad_elim
theorem de_dictP {p pos : Pos} {a : Expr} {fa : SE} (hc : X.calm = true) (hx : Gl X "dict") (hm : X.mg "dict" = none) (ha : DE X W a fa) (he : starEach [a] X.env = (false, eval a X.env) :: starEach [] X.env := by rfl) : DE X W (.Call (.Name "dict" p) [a] [] pos) (sCall (b1 opDictP) (sCons fa sNil)) :=
  de_bty (call_dictP hc) bDictP_h hx hm (by decide +kernel) (da_cons ha da_nil he) (he := he)
end
section
variable {PD : D → OH → Prop}
theorem W_ixK {ks : List (Key × D)} {b d : D} {k : Key} {h : OH} (e : keyD b = some k) (g : getK ks k = some d) : (opIxK (.dct ks) b h).W PD = PD d h := by
  unfold opIxK
  rw [e]
  simp [g]
theorem W_dictP {d : D} {ks : List (Key × D)} {h : OH} (e : (lsqAt h d).bind pairsK = some ks) (nd : (ks.map (·.1)).Nodup) : (opDictP d h).W PD = PD (.dct ks) h := by
  unfold opDictP
  rw [e]
  simp [nd]
end
end HR
set_option Elab.async false
set_option linter.all false
set_option maxRecDepth 20000
/-! xs[lo:hi:step] of a list -/
namespace HR
open PySem PySem.Spec PyProof.Rows L2 RZ
def stepIx (n : Nat) (lo hi st : Option Int) : List Nat := sliceRange (sliceBounds lo hi st n).1 (sliceBounds lo hi st n).2.1 (sliceBounds lo hi st n).2.2
def pickA {α : Type} (xs : List α) (ix : List Nat) : List α := ix.filterMap (xs[·]?)
def stepD (xs : List D) (lo hi st : Option Int) : List D := pickA xs (stepIx xs.length lo hi st)
def opCutS (own : Bool) (a : D) (lo hi st : Option Int) (h : OH) : Res D := if st = some 0 then .bad else match lsqAt h a with
  | some xs => if own then .ok (.ref h.length) (h ++ [.lst (stepD xs lo hi st)]) else .ok (.lst (stepD xs lo hi st)) h
  | none => .bad
section
variable {PD : D → OH → Prop}
@[simp] theorem W_cutSL (own : Bool) (xs : List D) (lo hi : Option Int) (k : Int) (h : OH) : (opCutS own (.lst xs) lo hi (some k) h).W PD = if k = 0 then False else if own then PD (.ref h.length) (h ++ [.lst (stepD xs lo hi (some k))]) else PD (.lst (stepD xs lo hi (some k))) h := by
  unfold opCutS
  by_cases k0 : k = 0
  · simp [k0]
  · simp [k0, lsqAt, seqAt]
end
end HR
set_option Elab.async false
set_option linter.all false
set_option maxRecDepth 20000
/-! str(i), int(text), xs.index(x), x in xs for deep values -/
set_option Elab.async false
set_option linter.all false
set_option maxRecDepth 20000
set_option maxHeartbeats 1000000
/-! own dicts whose keys are ints and texts: a comprehension, d[k] = v, d[k] -/
namespace HR
open PySem L2 RZ
def putD (ks : List (Key × D)) (k : Key) (d : D) : List (Key × D) := if (ks.any fun kv => decide (kv.1 = k)) = true then ks.map (fun kv => if kv.1 = k then (kv.1, d) else kv) else ks ++ [(k, d)]
def dctAt (h : OH) : D → Option (List (Key × D))
  | .dct ks => some ks
  | .ref i => (match h[i]? with
    | some (.dct ks) => some ks
    | _ => none)
  | _ => none
def opIxD : D → D → OH → Res D := fun a b h => match dctAt h a, keyD b with
  | some ks, some k => (match getK ks k with
    | some d => .ok d h
    | none => .bad)
  | _, _ => .bad
def sIxK (o i v : SE) : SS := fun e h => (v e h).toS e fun y h1 => (o e h1).toS e fun x h2 => (i e h2).toS e fun k h3 => match x, keyD k with
  | .ref n, some q => (match h3[n]? with
    | some (.dct ks) => if ks.length < big then .nx e (h3.set n (.dct (putD ks q y))) else .bad
    | _ => .bad)
  | _, _ => .bad
def dcGo (g : TF) (tt : ST) (kx vx : SE) (e : Env') : List D → OH → List (Key × D) → Res (List (Key × D))
  | [], h, acc => .ok acc h
  | d :: ds, h, acc => match g d e h with
    | none => .bad
    | some e1 => (tt e1 h).noX.bind fun b h1 => if b then (kx e1 h1).noX.bind fun y h2 => (vx e1 h2).noX.bind fun z h3 => (match keyD y with
        | some k => if acc.length < big then dcGo g tt kx vx e ds h3 (putD acc k z) else .bad
        | none => .bad) else dcGo g tt kx vx e ds h1 acc
def sDcO (it : SA) (g : TF) (tt : ST) (kx vx : SE) (vs : List Nat) : SE := fun e h => (it e h).bind fun ds h1 => (dcGo g tt kx vx (wipeD e vs) ds h1 []).bind fun acc h2 => .ok (.ref h2.length) (h2 ++ [.dct acc])
def sDctO : SE := fun _ h => .ok (.ref h.length) (h ++ [.dct []])
section
variable {K : PySem.W.Frag} {P : Pins} {F : Hp} {m : List Addr} {h : OH} {H : Hp}
theorem denK_any {k : Key} : ∀ {kvs : List (Key × V)} {ks : List (Key × D)}, DenK K F m kvs ks → (kvs.any fun kv => decide (kv.1 = k)) = (ks.any fun kv => decide (kv.1 = k))
  | _, _, .nil => rfl
  | _, _, .cons h t => by rw [List.any_cons, List.any_cons, denK_any t]
theorem denK_map {k : Key} {v : V} {d : D} (r : Den K F m v d) : ∀ {kvs : List (Key × V)} {ks : List (Key × D)}, DenK K F m kvs ks → DenK K F m (kvs.map fun kv => if kv.1 = k then (kv.1, v) else kv) (ks.map fun kv => if kv.1 = k then (kv.1, d) else kv)
  | _, _, .nil => .nil
  | _, _, .cons (k := k0) h t => by
    simp only [List.map_cons]
    by_cases c : k0 = k
    · rw [if_pos c, if_pos c]
      exact .cons r (denK_map r t)
    · rw [if_neg c, if_neg c]
      exact .cons h (denK_map r t)
theorem denK_end {k : Key} {v : V} {d : D} (r : Den K F m v d) : ∀ {kvs : List (Key × V)} {ks : List (Key × D)}, DenK K F m kvs ks → DenK K F m (kvs ++ [(k, v)]) (ks ++ [(k, d)])
  | _, _, .nil => .cons r .nil
  | _, _, .cons h t => .cons h (denK_end r t)
theorem denK_put {k : Key} {v : V} {d : D} (r : Den K F m v d) {kvs : List (Key × V)} {ks : List (Key × D)} (q : DenK K F m kvs ks) : DenK K F m (putK kvs k v) (putD ks k d) := by
  unfold putK putD
  rw [denK_any q]
  split
  · exact denK_map r q
  · exact denK_end r q
theorem DenK.length {kvs : List (Key × V)} {ks : List (Key × D)} (r : DenK K F m kvs ks) : kvs.length = ks.length := by
  have := congrArg List.length r.keys
  simpa using this
theorem dctAt_ok (S : Sim K P F m h H) {v : V} {d : D} {ks : List (Key × D)} (r : Den K F m v d) (e : dctAt h d = some ks) : ∃ a kvs, v = .ref a ∧ H a = some (.dK kvs) ∧ DenK K F m kvs ks := by
  cases r with
  | dct q r => cases e; exact ⟨_, _, rfl, S.sub _ _ q, r⟩
  | @ref a i q =>
    obtain ⟨ob, k1, k2⟩ := S.own q
    simp only [dctAt, k1] at e
    cases ob with
    | dct ks2 =>
      cases e
      obtain ⟨kvs, h1, h2, _⟩ := k2
      exact ⟨a, kvs, rfl, h1, h2⟩
    | _ => cases e
  | _ => cases e
/-- a hidden object becomes an own one -/
theorem Sim.hidOwnG {p : Addr} {ho : HO} {o : OO} (S : Sim K ((p, ho) :: P) F m h H) (ok : H p = some ho → F p = none → OOk K F (m ++ [p]) H p o) : Sim K P F (m ++ [p]) (h ++ [o]) H := by
  obtain ⟨h1, h2, h3⟩ := S.pin (p, ho) List.mem_cons_self
  have pn := S.pnd
  rw [List.map_cons, List.nodup_cons] at pn
  refine ⟨S.sub, by simp [S.len], ?_, fun a ha => ?_, fun i a u e1 e2 => ?_, fun q hq => ?_, pn.2⟩
  · refine List.nodup_append.mpr ⟨S.nd, by simp, fun a ha b hb z => ?_⟩
    rw [List.mem_singleton.mp hb] at z
    exact h3 (z ▸ ha)
  · rcases List.mem_append.mp ha with ha | ha
    · exact S.live a ha
    · rw [List.mem_singleton.mp ha]
      exact ⟨_, h1⟩
  · by_cases hi : i < m.length
    · rw [List.getElem?_append_left hi] at e1
      rw [List.getElem?_append_left (by rw [← S.len]; exact hi)] at e2
      exact (S.at_ i a u e1 e2).mono ext_new rfl id
    · have lt := (List.getElem?_eq_some_iff.mp e1).1
      have hi2 : i = m.length := by rw [List.length_append, List.length_singleton] at lt; omega
      subst hi2
      rw [S.len] at e2
      simp at e1 e2
      subst e1 e2
      exact ok h1 h2
  · obtain ⟨q1, q2, q3⟩ := S.pin q (List.mem_cons_of_mem _ hq)
    refine ⟨q1, q2, fun z => ?_⟩
    rcases List.mem_append.mp z with z | z
    · exact q3 z
    · exact pn.1 (List.mem_map.mpr ⟨q, hq, List.mem_singleton.mp z⟩)
end
section
variable {X : Cx} {W : WX}
theorem opIxD_h : OpH X.K W opIxD rDGet := by
  intro P F m h H σ Q x y dx dy S r1 r2 fin
  unfold opIxD at fin
  cases e1 : dctAt h dx with
  | none => rw [e1] at fin; exact fin.bad_elim
  | some ks =>
    cases e2 : keyD dy with
    | none => rw [e1, e2] at fin; exact fin.bad_elim
    | some k =>
      rw [e1, e2] at fin
      dsimp only at fin
      cases e : getK ks k with
      | none => rw [e] at fin; exact fin.bad_elim
      | some d =>
        rw [e] at fin
        obtain ⟨a, kvs, rfl, ha, rk⟩ := dctAt_ok S r1 e1
        have := keyD_den r2 e2
        subst this
        obtain ⟨v, h1, h2⟩ := denK_get rk e
        refine ⟨a, v, rfl, ?_, fin.ok S h2⟩
        rw [← h1]
        exact DGet.k ha
theorem de_ixD {a b : Expr} {pos : Pos} {fa fb : SE} (hu : X.A.units + 64 < cLine) (ha : DE X W a fa) (hb : DE X W b fb) (hs : NoSl b := by exact fun _ _ => rfl) : DE X W (.Subscript a b pos) (sBin opIxD fa fb) :=
  PE.of (pe_dget (by omega) ha hb hs) fun _ _ _ q => rd_op opIxD_h q
theorem ds_ixK {o i a : Expr} {fo fi fa : SE} {pos pos' : Pos} (hu : X.A.units + 64 < cLine) (ho : DE X W o fo) (hi : DE X W i fi) (ha : DE X W a fa) (hs : swapsWith a (some (.Subscript o i pos')) pos.line X.env = pure false := by rfl) :
    DS X W (.Assign [.Subscript o i pos'] a pos) (sIxK fo fi fa) := PS.of (ps_dput (by omega) ho hi ha hs) fun Dn σ H => by
  rintro ⟨P, F, m, e, h, S, E, fin⟩
  refine st_seq S E fin fun F1 m1 h1 H1 y dy x1 S1 E1 ry fin1 => ?_
  refine st_seq S1 E1 fin1 fun F2 m2 h2 H2 x dx x2 S2 E2 rx fin2 => ?_
  refine st_seq S2 E2 fin2 fun F3 m3 h3 H3 z dz x3 S3 E3 rz fin3 => ?_
  cases rx with
  | @ref b n e1 =>
    cases ek : keyD dz with
    | none => simp only [ek] at fin3; exact fin3.elim
    | some q =>
      have e2 := pre_get x3.p e1
      obtain ⟨ob, k1, k2⟩ := S3.own e2
      simp only [ek, k1] at fin3
      cases ob with
      | dct ks =>
        dsimp only at fin3
        obtain ⟨kvs, k3, k4, k5⟩ := k2
        by_cases hl : ks.length < big
        · rw [if_pos hl] at fin3
          have := keyD_den rz ek
          subst this
          exact ⟨b, _, rfl, DPut.k k3 (by rw [k4.length]; exact big_lt hl), fin3 σ F3 m3 _ .refl (S3.write e2 k1 k5 ⟨_, upd_same, denK_put (ry.mono (x2.trans x3)) k4, k5⟩) E3⟩
        · rw [if_neg hl] at fin3
          exact fin3.elim
      | _ => exact fin3.elim
  | _ => exact fin3.elim
theorem dc_rd {it : SA} {g : TF} {tt : ST} {kx vx : SE} {vs : List Nat} {σ : St} {H : Hp} {Q : VK} (q : rdG X.K W (Den X.K) (sDcO it g tt kx vx vs) σ H Q) :
    tDc (rdG X.K W (relI X.K) it) (rdTG X.K vs g) (rdG X.K W0 relB tt) (rdG X.K W0 (Den X.K) kx) (rdG X.K W0 (Den X.K) vx) vs σ H Q := by
  obtain ⟨P0, F0, m0, e0, h0, S0, E0, fin0⟩ := q
  refine rd_seq S0 E0 fin0 fun F1 m1 h1 H1 J ds x1 S1 E1 wk fin1 => ?_
  intro D0 hD
  let go := dcGo g tt kx vx (wipeD e0 vs)
  let fl : List (Key × D) → OH → Res D := fun acc h2 => .ok (.ref h2.length) (h2 ++ [.dct acc])
  let Wd : Nat → Nat → Hp → Prop := fun i n H => ∃ F m h acc ws, Sim X.K ((D0, .dK ws) :: P0) F m h H ∧ Ext F1 m1 F m ∧ DenK X.K F m ws acc ∧ n = (ds.drop i).length ∧ FinG X.K P0 W σ (Den X.K) Q F m ((go (ds.drop i) h acc).bind fl)
  refine ⟨Wd, ⟨ds.length, F1, m1, h1, [], [], S1.hid hD, .refl, .nil, by simp, by simpa using fin1⟩, ?_⟩
  rintro i n H ⟨F, m, h, acc, ws, S, x, ra, rfl, fin⟩
  obtain ⟨w1, w2⟩ := wk _ F m h H i x S
  by_cases hi : i < ds.length
  · obtain ⟨go1, yl⟩ := w1 hi
    have dr : ds.drop i = ds[i] :: ds.drop (i + 1) := List.drop_eq_getElem_cons hi
    rw [dr] at fin
    refine .inr ⟨go1, fun H' => Wd (i + 1) (ds.drop (i + 1)).length H', fun H' q => ⟨_, by rw [dr]; exact Nat.lt_succ_self _, q⟩, fun y H' hy => ?_⟩
    obtain ⟨F2, x2, S2, d, e1, r⟩ := yl y H' hy
    have ed : d = ds[i] := by
      rw [List.getElem?_eq_getElem hi] at e1
      exact (Option.some.inj e1).symm
    subst ed
    simp only [go, dcGo] at fin
    have E2 : EnvR X.K F2 m (L2.wipe σ vs) (wipeD e0 vs) := ((E1.mono (x.trans x2))).wipe vs
    cases q : g ds[i] (wipeD e0 vs) h with
    | none => rw [q] at fin; exact fin.elim
    | some e2 =>
      rw [q] at fin
      dsimp only at fin
      refine ⟨_, F2, m, wipeD e0 vs, h, _, S2, E2, r, e2, q, fun σ' E' wi => ⟨by rw [wi, wipe_idem], _, F2, m, e2, h, S2, E', ?_⟩⟩
      cases qt : tt e2 h with
      | bad => rw [qt] at fin; exact fin.elim
      | exc C p h3 => rw [qt] at fin; exact fin.elim
      | ok b h3 =>
        rw [qt] at fin
        simp only [Res.noX, Res.bind_ok] at fin
        intro b' F3 m3 H3 x3 S3 rb
        have rb : b' = b := rb
        subst rb
        cases b' with
        | false =>
          simp only [Bool.false_eq_true, if_false] at fin ⊢
          exact ⟨F3, m3, h3, acc, ws, S3, x.trans (x2.trans x3), ra.mono (x2.trans x3), rfl, FinG.weak (x2.trans x3) fin⟩
        | true =>
          simp only [if_true] at fin ⊢
          refine ⟨_, F3, m3, e2, h3, S3, E'.mono x3, ?_⟩
          cases qe : kx e2 h3 with
          | bad => rw [qe] at fin; exact fin.elim
          | exc C p h4 => rw [qe] at fin; exact fin.elim
          | ok y h4 =>
            rw [qe] at fin
            simp only [Res.noX, Res.bind_ok] at fin
            intro v F4 m4 H4 x4 S4 rv
            refine ⟨_, F4, m4, e2, h4, S4, (E'.mono x3).mono x4, ?_⟩
            cases qv : vx e2 h4 with
            | bad => rw [qv] at fin; exact fin.elim
            | exc C p h5 => rw [qv] at fin; exact fin.elim
            | ok z h5 =>
              rw [qv] at fin
              simp only [Res.noX, Res.bind_ok] at fin
              intro v2 F5 m5 H5 x5 S5 rv2
              have xx := x2.trans (x3.trans (x4.trans x5))
              cases ek : keyD y with
              | none => rw [ek] at fin; exact fin.elim
              | some k =>
                rw [ek] at fin
                dsimp only at fin
                by_cases hz : acc.length < big
                · rw [if_pos hz] at fin
                  refine ⟨ws, k, keyD_den rv ek, (S5.pin _ List.mem_cons_self).1, by rw [ra.length]; exact big_lt hz, F5, m5, h5, putD acc k z, putK ws k v2, S5.hidSet, x.trans xx, denK_put rv2 (ra.mono xx), rfl, FinG.weak xx fin⟩
                · rw [if_neg hz] at fin
                  exact fin.elim
  · have hi2 : ds.length ≤ i := Nat.le_of_not_lt hi
    rw [List.drop_eq_nil_of_le hi2] at fin
    refine .inl ⟨w2 hi2, ?_⟩
    simp only [go, dcGo, Res.bind_ok, fl] at fin
    exact FinG.okX fin ext_new (S.hidOwnG fun e1 e2 => ⟨ws, e1, ra.mono ext_new, e2⟩) (.ref (by rw [← S.len]; simp))
theorem de_dcO {kx vx tg iter : Expr} {ifs : List Expr} {scope : Scope} (ow : List (Str × Nat)) {pos : Pos} {it : SA} {g : TF} {tt : ST} {ke ve : SE} (hc : X.calm = true) (hN : X.N.Nodup) (hi : DI X W tg iter it) (ok : BlkOk X.N X.env.scope scope ow)
    (hg : ∀ (s : Shared) (H : Hp) (C : Addr) (cl : List (Str × Addr)) (fp : List Addr), DG (X.blk s H scope (compEnvC scope cl C X.env) fp) (ow.map (·.2)) tg g) (ht : ∀ (s : Shared) (H : Hp) (C : Addr) (cl : List (Str × Addr)) (fp : List Addr), DTs (X.blk s H scope (compEnvC scope cl C X.env) fp) W0 ifs tt)
    (hk : ∀ (s : Shared) (H : Hp) (C : Addr) (cl : List (Str × Addr)) (fp : List Addr), DE (X.blk s H scope (compEnvC scope cl C X.env) fp) W0 kx ke)
    (hv : ∀ (s : Shared) (H : Hp) (C : Addr) (cl : List (Str × Addr)) (fp : List Addr), DE (X.blk s H scope (compEnvC scope cl C X.env) fp) W0 vx ve) (hs : ∀ x, foldedSetIterable iter X.env x = pure x := by intro _; rfl) :
    DE X W (.DictComp kx vx [⟨tg, iter, ifs, 0⟩] scope pos) (sDcO it g tt ke ve (ow.map (·.2))) := PE.of (pe_dc hc hN hi ok hg ht hk hv hs) fun σ H Q => dc_rd
end
section
variable {PD : D → OH → Prop} {N C B : Env' → OH → Prop} {R : D → OH → Prop}
def lkD (o : Option OO) (P : List (Key × D) → Prop) : Prop := match o with
  | some (.dct ks) => P ks
  | _ => False
@[simp] theorem lkD_dct (ks : List (Key × D)) (P : List (Key × D) → Prop) : lkD (some (.dct ks)) P = P ks := rfl
@[simp] theorem SW_ixK (o i v : SE) (e : Env') (h : OH) : (sIxK o i v e h).W N C B R = (v e h).W fun y h1 => (o e h1).W fun x h2 => (i e h2).W fun k h3 => isR x fun n => lkS (keyD k) fun q => lkD h3[n]? fun ks => if ks.length < big then N e (h3.set n (.dct (putD ks q y))) else False := by
  unfold sIxK
  simp only [W_toS]
  congr; funext y h1; congr; funext x h2; congr; funext k h3
  cases x with
  | ref n =>
    simp only [isR_ref]
    cases keyD k with
    | none => rfl
    | some q =>
      simp only [lkS_some]
      cases h3[n]? with
      | none => rfl
      | some ob => cases ob <;> first | rfl | (simp only [lkD_dct]; split <;> rfl)
  | _ => rfl
theorem W_ixD {a b : D} {h : OH} {ks : List (Key × D)} {k : Key} {d : D} (e1 : dctAt h a = some ks) (e2 : keyD b = some k) (g : getK ks k = some d) : (opIxD a b h).W PD = PD d h := by
  unfold opIxD
  rw [e1, e2]
  simp [g]
@[simp] theorem dctAt_dct (h : OH) (ks : List (Key × D)) : dctAt h (.dct ks) = some ks := rfl
theorem dctAt_ref {h : OH} {i : Nat} {ks : List (Key × D)} (e : h[i]? = some (.dct ks)) : dctAt h (.ref i) = some ks := by
  simp [dctAt, e]
@[simp] theorem keyD_int (i : Int) : keyD (.int i) = some (.inl i) := rfl
@[simp] theorem keyD_str (x : Str) : keyD (.str x) = some (.inr x) := rfl
@[simp] theorem W_dctO (e : Env') (h : OH) : (sDctO e h).W PD = PD (.ref h.length) (h ++ [.dct []]) := rfl
@[simp] theorem W_dcO (it : SA) (g : TF) (tt : ST) (kx vx : SE) (vs : List Nat) (e : Env') (h : OH) : (sDcO it g tt kx vx vs e h).W PD = (it e h).W fun ds h1 => (dcGo g tt kx vx (wipeD e vs) ds h1 []).W fun acc h2 => PD (.ref h2.length) (h2 ++ [.dct acc]) := by
  unfold sDcO
  simp only [W_bind, W_ok]
end
end HR
set_option Elab.async false
set_option linter.all false
set_option maxRecDepth 20000
set_option maxHeartbeats 1000000
/-! == of instances whose class has no __eq__ of its own; an except suite of any form -/
namespace HR
open PySem L2 RZ PySem.Spec PyProof.Rows
/-! ### x == y, x an instance, y of the same class or None -/
structure EqC (K : PySem.W.Frag) (C : Addr) : Prop where
  mro : PySem.W.mroIn K C (.type "object") = some true
  fnd : PySem.W.findIn K (.ref C) "__eq__" = some (some (.builtin "object.__eq__"))
def eqcOk (K : PySem.W.Frag) (es : List String) : Bool := es.all fun C => decide (PySem.W.mroIn K (He.ga K (Str.ofString C)) (.type "object") = some true) && decide (PySem.W.findIn K (.ref (He.ga K (Str.ofString C))) "__eq__" = some (some (.builtin "object.__eq__")))
theorem eqcOk_at {K : PySem.W.Frag} {es : List String} (h : eqcOk K es = true) {C : String} (hC : C ∈ es) : EqC K (He.ga K (Str.ofString C)) := by
  unfold eqcOk at h
  rw [List.all_eq_true] at h
  have := h C hC
  simp only [Bool.and_eq_true, decide_eq_true_eq] at this
  exact ⟨this.1, this.2⟩
section
variable {M : Model} {prog : Program} {w : World} {A : Around} {E : Value → Shared → Prop} {s : Shared} {K : PySem.W.Frag} {x y C : Addr} {ox oy : Obj} {od od' : Option Obj}
theorem oeq_same {Q : Value → Shared → Prop} (X : K.In s.heap) (I : PySem.W.InstAt s.heap x ox C od) (c : EqC K C) (q : Q (.bool true) s) : wpAny (model prog w) A (call (.builtin "object.__eq__") [.ref x, .ref x]) Q E s :=
  wpAny_call (codeAny_call_builtin F.cmp_object.eq.plain F.cmpEntry_eq (PySem.W.check_slot F.cmpKind_eq F.cmpSplit_eq (I.type.andThen (PySem.W.looks_mroIn X c.mro)) (F.cmpArgs_eq _ _) (objEq_entry_same q)))
theorem oeq_other {Q : Value → Shared → Prop} (X : K.In s.heap) (I : PySem.W.InstAt s.heap x ox C od) (J : PySem.W.InstAt s.heap y oy C od') (c : EqC K C) (ne : x ≠ y) (q : Q .notImplemented s) : wpAny (model prog w) A (call (.builtin "object.__eq__") [.ref x, .ref y]) Q E s :=
  wpAny_call (codeAny_call_builtin F.cmp_object.eq.plain F.cmpEntry_eq (PySem.W.check_slot F.cmpKind_eq F.cmpSplit_eq (I.type.andThen (PySem.W.looks_mroIn X c.mro)) (F.cmpArgs_eq _ _) (objEq_entry_other ne I.1 J.1 (by rw [I.cls]; exact fun z => nomatch z) q)))
theorem ieq_same {Q : Value → Shared → Prop} (hu : A.units < cLine) (X : K.In s.heap) (I : PySem.W.InstAt s.heap x ox C od) (c : EqC K C) (q : Q (.bool true) s) : wpAny (model prog w) A (compareOp .Eq (.ref x) (.ref x)) Q E s := by
  show wpAny _ _ (richCompare .Eq (.ref x) (.ref x)) Q E s
  simp only [richCompare, PySem.cmpInfo_Eq, oneThing_ref]
  refine wpAny_holding (wpAny_bind (wpAny_cRoomFor hu ?_))
  refine wpAny_bind (I.type.here (wpAny_bind (I.type.here ?_)))
  rw [if_neg (by simp)]
  refine wpAny_bind (wpAny_pure ?_)
  simp only [Bool.false_eq_true, if_false]
  refine wpAny_bind (m := tryCompare (.ref x) _ (.ref x)) ?_
  unfold tryCompare
  exact wpAny_bind (HN.ifBound_objEq X I c.fnd (oeq_same X I c (wpAny_pure (wpAny_pure q))))
theorem try_other (X : K.In s.heap) (I : PySem.W.InstAt s.heap x ox C od) (J : PySem.W.InstAt s.heap y oy C od') (c : EqC K C) (ne : x ≠ y) : wpAny (model prog w) A (tryCompare (.ref x) "__eq__" (.ref y)) (fun r s' => r = none ∧ s' = s) E s := by
  unfold tryCompare
  exact wpAny_bind (HN.ifBound_objEq X I c.fnd (oeq_other X I J c ne (wpAny_pure ⟨rfl, rfl⟩)))
theorem ieq_other {Q : Value → Shared → Prop} (hu : A.units < cLine) (X : K.In s.heap) (I : PySem.W.InstAt s.heap x ox C od) (J : PySem.W.InstAt s.heap y oy C od') (c : EqC K C) (ne : x ≠ y) (q : Q (.bool false) s) : wpAny (model prog w) A (compareOp .Eq (.ref x) (.ref y)) Q E s := by
  show wpAny _ _ (richCompare .Eq (.ref x) (.ref y)) Q E s
  simp only [richCompare, PySem.cmpInfo_Eq, oneThing_ref]
  refine wpAny_holding (wpAny_bind (wpAny_cRoomFor hu ?_))
  refine wpAny_bind (I.type.here (wpAny_bind (J.type.here ?_)))
  rw [if_neg (by simp)]
  refine wpAny_bind (wpAny_pure ?_)
  simp only [Bool.false_eq_true, if_false, Bool.not_false, if_true]
  refine wpAny_bind (m := tryCompare (.ref x) _ (.ref y)) (wpAny_mono (try_other X I J c ne) (fun r s1 z => ?_) fun _ _ e => e)
  obtain ⟨z1, z2⟩ := z
  subst z1
  subst z2
  refine wpAny_bind (m := tryCompare (.ref y) _ (.ref x)) (wpAny_mono (try_other X J I c ne.symm) (fun r s2 z => ?_) fun _ _ e => e)
  obtain ⟨z1, z2⟩ := z
  subst z1
  subst z2
  exact wpAny_bind (wpAny_rule (wpAny_bind (wpAny_isSame_ref_other ne I.1 J.1 (by rw [I.cls]; exact fun z => nomatch z) (wpAny_pure q))))
end
def rEqI (K : PySem.W.Frag) : R2 := fun x y H Q => ∃ (a C dx : Addr) (fs : List (Str × V)), x = .ref a ∧ H a = some (.ins C dx fs) ∧ EqC K C ∧
  ((y = .non ∧ Q (.bl false) H) ∨ ∃ (b dy : Addr) (gs : List (Str × V)), y = .ref b ∧ H b = some (.ins C dy gs) ∧ Q (.bl (decide (a = b))) H)
def opEqI (es : List String) : D → D → OH → Res D := fun a b h => match a with
  | .ref i => (match h[i]? with
    | some (.ins C _) => if C ∈ es then (match b with
      | .non => .ok (.bl false) h
      | .ref j => (match h[j]? with
        | some (.ins C' _) => if C' = C then .ok (.bl (decide (i = j))) h else .bad
        | _ => .bad)
      | _ => .bad) else .bad
    | _ => .bad)
  | _ => .bad
section
variable {X : Cx} {W : WX}
theorem op_eqI (hu : X.A.units + 64 < cLine) : OpR X (compareOp .Eq) (rEqI X.K) := by
  intro pins s σ H x y v u Q I rx ry h
  obtain ⟨a, C, dx, fs, rfl, ha, c, h⟩ := h
  cases rx
  obtain ⟨mA, O, _⟩ := ins_get I.hok ha
  obtain ⟨od, J, _⟩ := O.look
  rcases h with ⟨rfl, q⟩ | ⟨b, dy, gs, rfl, hb, q⟩
  · cases ry
    show wpAny _ _ (richCompare .Eq (.ref a) .none) _ _ _
    exact HN.rc_none (by omega) I.kIn J c.mro c.fnd X.prog X.w _ _ ⟨.bl false, H, I, rfl, q⟩
  · cases ry
    by_cases e : a = b
    · subst e
      exact ieq_same (by omega) I.kIn J c ⟨.bl true, H, I, rfl, by simpa using q⟩
    · obtain ⟨mB, O2, _⟩ := ins_get I.hok hb
      obtain ⟨od2, J2, _⟩ := O2.look
      exact ieq_other (by omega) I.kIn J J2 c e ⟨.bl false, H, I, rfl, by simpa [e] using q⟩
theorem opEqI_h {es : List String} (T : eqcOk X.K es = true) : OpH X.K W (opEqI es) (rEqI X.K) := by
  intro P F m h H σ Q x y dx dy S r1 r2 fin
  unfold opEqI at fin
  cases r1 with
  | @ref a i e1 =>
    obtain ⟨ob, k1, k2⟩ := S.own e1
    dsimp only at fin
    rw [k1] at fin
    cases ob with
    | ins C fs =>
      dsimp only at fin
      obtain ⟨dx, fv, h1, h2, h3, h4⟩ := k2
      by_cases hC : C ∈ es
      · rw [if_pos hC] at fin
        refine ⟨a, _, dx, fv, rfl, h1, eqcOk_at T hC, ?_⟩
        cases r2 with
        | non => exact .inl ⟨rfl, fin.ok S (.bl _)⟩
        | @ref b j e2 =>
          obtain ⟨ob2, k3, k4⟩ := S.own e2
          dsimp only at fin
          rw [k3] at fin
          cases ob2 with
          | ins C' gs =>
            dsimp only at fin
            by_cases hc : C' = C
            · rw [if_pos hc] at fin
              subst hc
              obtain ⟨dy, gv, g1, g2, g3, g4⟩ := k4
              have same : decide (a = b) = decide (i = j) := by
                by_cases q : i = j
                · subst q
                  rw [e1] at e2
                  cases e2
                  simp
                · have : a ≠ b := fun z => q (nodup_at S.nd (z ▸ e1) e2)
                  simp [q, this]
              exact .inr ⟨b, dy, gv, rfl, g1, by rw [same]; exact fin.ok S (.bl _)⟩
            · rw [if_neg hc] at fin
              exact fin.bad_elim
          | _ => exact fin.bad_elim
        | _ => exact fin.bad_elim
      · rw [if_neg hC] at fin
        exact fin.bad_elim
    | _ => exact fin.bad_elim
  | _ => exact fin.bad_elim
theorem dt_eqI {es : List String} {a b : Expr} {pos : Pos} {fa fb : SE} (hu : X.A.units + 64 < cLine) (T : eqcOk X.K es = true) (ha : DE X W a fa) (hb : DE X W b fb) : DT X W (.Compare a [.Eq] [b] pos) (sTest (sBin (opEqI es) fa fb)) := dt_cmp (op_eqI hu) (opEqI_h T) (nomark _) ha hb
end
section
variable {PD : D → OH → Prop} {es : List String} {h : OH} {i j : Nat} {C : String} {fs gs : List (String × D)}
theorem W_eqI_non (e : h[i]? = some (.ins C fs)) (hC : C ∈ es) : (opEqI es (.ref i) .non h).W PD = PD (.bl false) h := by
  unfold opEqI
  simp [e, hC]
theorem W_eqI_ref (e : h[i]? = some (.ins C fs)) (hC : C ∈ es) (e2 : h[j]? = some (.ins C gs)) : (opEqI es (.ref i) (.ref j) h).W PD = PD (.bl (decide (i = j))) h := by
  unfold opEqI
  simp [e, hC, e2]
end
/-! ### facts of the head -/
def SaysE (fa : List He.Fa) (fn : List He.DefD) (xs ys es : List String) (K : PySem.W.Frag) : Prop := SaysX fa fn xs ys K ∧ eqcOk K es = true
def obsE (fa : List He.Fa) (fn : List He.DefD) (xs ys es : List String) (K : PySem.W.Frag) : (He.AlD × Bool) × Bool := (obsX fa fn xs ys K, eqcOk K es)
def obsEG (n : Nat) (fa : List He.Fa) (fn : List He.DefD) (xs ys es : List String) (g : Addr → Option Obj) : (He.AlD × Bool) × Bool := obsE fa fn xs ys es (He.frG g (sysModules :: PySem.cStatics :: He.asD g n))
def hookE (n : Nat) (fa : List He.Fa) (fn : List He.DefD) (xs ys es : List String) : PySem.W.Hook where
  α := (He.AlD × Bool) × Bool
  obs := fun st => obsEG n fa fn xs ys es st.heap.get?
  val := fun _ => ((He.valD fn, true), true)
  says := fun _ hp => ∃ K : PySem.W.Frag, K.In hp ∧ SaysE fa fn xs ys es K
  of := fun _ _ q => ⟨_, He.frG_in, congrArg Prod.fst q, congrArg Prod.snd q⟩
  keeps := fun _ _ _ ⟨K, i, q⟩ st => ⟨K, PySem.W.Frag.In.keeps i st, q⟩
theorem obsEG_eq {n : Nat} {fa : List He.Fa} {fn : List He.DefD} {xs ys es : List String} {g : Addr → Option Obj} {st : Shared} (q : ∀ a, g a = st.heap.get? a) : obsEG n fa fn xs ys es g = (hookE n fa fn xs ys es).obs st := by
  cases (funext q : g = st.heap.get?)
  rfl
section
variable {fa : List He.Fa} {fn : List He.DefD} {xs ys es : List String} {K : PySem.W.Frag}
theorem SaysE.fact (c : SaysE fa fn xs ys es K) (i : Nat) {f : He.Fa} (h : fa[i]? = some f := by rfl) : f.ok K = true := c.1.fact i h
theorem SaysE.def_ (c : SaysE fa fn xs ys es K) (i : Nat) {d : He.DefD} (h : fn[i]? = some d := by rfl) : ∃ fd, FunD K d.name d.qual d.params d.body d.scope (d.dvs K) (d.kws K) (He.fAd K d.at_) fd := c.1.def_ i h
theorem SaysE.eq (c : SaysE fa fn xs ys es K) : eqcOk K es = true := c.2
end
/-! ### try: .. except X as n: a suite that reads n -/
end HR
set_option Elab.async false
set_option linter.all false
set_option maxRecDepth 20000
set_option maxHeartbeats 1000000
/-! extend of own lists -/
namespace HR
open PySem L2 RZ PySem.Spec PyProof.Rows
section
variable {X : Cx} {W : WX}
def gExtend (i : Nat) (xs ys : List D) (h : OH) : Res D := match ys with
  | [d] => (match lstAt h d with
    | some zs => if xs.length + zs.length ≤ big then .ok .non (h.set i (.lst (xs ++ zs))) else .bad
    | none => .bad)
  | _ => .bad
end
section
variable {PD : D → OH → Prop}
@[simp] theorem W_extend (i : Nat) (xs : List D) (y : D) (h : OH) : (gExtend i xs [y] h).W PD = lkS (lstAt h y) fun zs => if xs.length + zs.length ≤ 1000000 then PD .non (h.set i (.lst (xs ++ zs))) else False := by
  unfold gExtend
  dsimp only
  rcases lstAt h y with _ | zs
  · rfl
  · simp only [lkS_some, big]
    split <;> rfl
end
end HR
set_option Elab.async false
set_option linter.all false
set_option maxRecDepth 20000
set_option maxHeartbeats 1000000
/-! own dicts with text keys: a display, update, two items set at once; remove of texts -/
namespace HR
open PySem L2 RZ PySem.Spec PyProof.Rows
/-! ### a display -/
def sPrs : List (Str × SE) → Env' → OH → Res (List (Key × D))
  | [], _, h => .ok [] h
  | kf :: r, e, h => (kf.2 e h).bind fun d h1 => (sPrs r e h1).bind fun ps h2 => .ok ((.inr kf.1, d) :: ps) h2
def sDispO (fs : List (Str × SE)) : SE := fun e h => (sPrs fs e h).bind fun ps h1 => if (ps.map (·.1)).Nodup ∧ ps.length ≤ 15 then .ok (.ref h1.length) (h1 ++ [.dct ps]) else .bad
section
variable {X : Cx} {W : WX}
/-! ### update -/
def mergeD (ks more : List (Key × D)) : List (Key × D) := more.foldl (fun acc kd => putD acc kd.1 kd.2) ks
def isOwnD (h : OH) : D → Bool
  | .ref i => (match h[i]? with
    | some (.dct _) => true
    | _ => false)
  | _ => false
def sUpd (fo : SE) (fa : SA) : SE := fun e h => (fo e h).bind fun x h1 => if isOwnD h1 x then (fa e h1).bind fun ys h2 => (match x, ys with
  | .ref i, [.ref j] => if i ≠ j then (match h2[i]?, h2[j]? with
    | some (.dct ks), some (.dct more) => if ks.length + more.length ≤ big then .ok .non (h2.set i (.dct (mergeD ks more))) else .bad
    | _, _ => .bad) else .bad
  | _, _ => .bad) else .bad
/-! ### two items set at once -/
def putC (o i : SE) (y : D) (k : SS) : SS := fun e h => (o e h).toS e fun x h2 => (i e h2).toS e fun kk h3 => match x, keyD kk with
  | .ref n, some q => (match h3[n]? with
    | some (.dct ks) => if ks.length < big then k e (h3.set n (.dct (putD ks q y))) else .bad
    | _ => .bad)
  | _, _ => .bad
def sSub2 (o1 i1 o2 i2 v : SE) : SS := fun e h => (v e h).toS e fun y h1 => match y with
  | .tup [y1, y2] => putC o1 i1 y1 (putC o2 i2 y2 fun e h => .nx e h) e h1
  | _ => .bad
/-! ### remove of texts -/
end
section
variable {PD : D → OH → Prop} {N C B : Env' → OH → Prop} {R : D → OH → Prop}
@[simp] theorem W_dispO (fs : List (Str × SE)) (e : Env') (h : OH) : (sDispO fs e h).W PD = (sPrs fs e h).W fun ps h1 => if (ps.map (·.1)).Nodup ∧ ps.length ≤ 15 then PD (.ref h1.length) (h1 ++ [.dct ps]) else False := by
  unfold sDispO
  simp only [W_bind]
  congr; funext ps h1
  split <;> rfl
@[simp] theorem W_prs0 (e : Env') (h : OH) {Q : List (Key × D) → OH → Prop} : (sPrs [] e h).W Q = Q [] h := rfl
@[simp] theorem W_prs (x : Str) (f : SE) (r : List (Str × SE)) (e : Env') (h : OH) {Q : List (Key × D) → OH → Prop} : (sPrs ((x, f) :: r) e h).W Q = (f e h).W fun d h1 => (sPrs r e h1).W fun ps h2 => Q ((.inr x, d) :: ps) h2 := by
  simp only [sPrs, W_bind, W_ok]
@[simp] theorem W_upd (fo : SE) (fa : SA) (e : Env') (h : OH) : (sUpd fo fa e h).W PD = (fo e h).W fun x h1 => if isOwnD h1 x = true then (fa e h1).W fun ys h2 => (match x, ys with
  | .ref i, [.ref j] => if i ≠ j then lkD h2[i]? fun ks => lkD h2[j]? fun more => if ks.length + more.length ≤ 1000000 then PD .non (h2.set i (.dct (mergeD ks more))) else False else False
  | _, _ => False) else False := by
  unfold sUpd
  simp only [W_bind]
  congr; funext x h1
  split
  · simp only [W_bind]
    congr; funext ys h2
    split
    · split
      · rename_i i j _ _
        cases h2[i]? with
        | none => rfl
        | some o1 =>
          cases o1 with
          | dct ks =>
            cases h2[j]? with
            | none => rfl
            | some o2 =>
              cases o2 with
              | dct more =>
                simp only [lkD_dct, big]
                split <;> rfl
              | _ => rfl
          | _ => rfl
      · rfl
    · rfl
  · rfl
@[simp] theorem SW_putC (o i : SE) (y : D) (k : SS) (e : Env') (h : OH) : (putC o i y k e h).W N C B R = (o e h).W fun x h2 => (i e h2).W fun kk h3 => isR x fun n => lkS (keyD kk) fun q => lkD h3[n]? fun ks => if ks.length < 1000000 then (k e (h3.set n (.dct (putD ks q y)))).W N C B R else False := by
  unfold putC
  simp only [W_toS]
  congr; funext x h2; congr; funext kk h3
  cases x with
  | ref n =>
    simp only [isR_ref]
    cases keyD kk with
    | none => rfl
    | some q =>
      simp only [lkS_some]
      cases h3[n]? with
      | none => rfl
      | some ob => cases ob <;> first | rfl | (simp only [lkD_dct, big]; split <;> rfl)
  | _ => rfl
@[simp] theorem SW_sub2 (o1 i1 o2 i2 v : SE) (e : Env') (h : OH) : (sSub2 o1 i1 o2 i2 v e h).W N C B R = (v e h).W fun y h1 => match y with
  | .tup [y1, y2] => (putC o1 i1 y1 (putC o2 i2 y2 fun e h => .nx e h) e h1).W N C B R
  | _ => False := by
  unfold sSub2
  simp only [W_toS]
  congr; funext y h1
  split <;> rfl
end
end HR
set_option Elab.async false
set_option linter.all false
set_option maxRecDepth 20000
set_option maxHeartbeats 1000000
/-! lending, with an answer of new own lists: the answer is read as a frozen tree -/
set_option Elab.async false
set_option linter.all false
set_option maxRecDepth 100000
set_option maxHeartbeats 1000000
/-! enumerate of a tuple -/
namespace HR
open PySem L2 RZ PySem.Spec PyProof.Rows
open PySem.Sem (wp)
theorem em_new (l : Addr) (items : Array Value) :
    Meets (Builtin.«enumerate.__new__» ⟨[.type "enumerate", .ref l], []⟩) (fun _ R s => s.heap.IsTuple l items ∧
      R (.ok (.ret (.ref (s.heap.push { cls := .type "tuple_iterator", data := .fields #[.ref l, .int 0 0] }).objs.size)))
        { s with heap := (s.heap.push { cls := .type "tuple_iterator", data := .fields #[.ref l, .int 0 0] }).push { cls := .type "enumerate", data := .fields #[.none, .bool false, .ref s.heap.objs.size, rawInt 0, .none, .none] } }) :=
  .of_wp fun prog w A R s h => by
    obtain ⟨hp, g, d, tk, os⟩ := s; obtain ⟨hl, h⟩ := h
    have hsub := sub_enumerate
    have hL : Heap.IsTuple (Shared.heap ⟨hp, g, d, tk, os⟩) l items := hl
    wp_walk using wpAny_pyIter_tuple hL
    refine wpAny_stack_any fun st => wpAny_pure ?_
    split
    · rename_i c _ _ _ _ _
      cases (c == Value.type "enumerate")
      · wp_walk using wpAny_pyIter_tuple hL
        exact ⟨_, rfl, h⟩
      · wp_walk using wpAny_pyIter_tuple hL
        exact ⟨_, rfl, h⟩
    · wp_walk using wpAny_pyIter_tuple hL
      exact ⟨_, rfl, h⟩
section
variable {prog : Program} {w : World} {A : Around} {E : Value → Shared → Prop} {s : Shared}
theorem em_call {l : Addr} {items : Array Value} {Q : Value → Shared → Prop} (hL : s.heap.IsTuple l items)
    (h : ∀ h', IsEnum h' (s.heap.objs.size + 1) s.heap.objs.size 0 .none → h'.IsTupleIter s.heap.objs.size l 0 → h'.objs.size = s.heap.objs.size + 2 →
      (∀ b o, s.heap.get? b = some o → h'.get? b = some o) → Q (.ref (s.heap.objs.size + 1)) { s with heap := h' }) :
    wpAny (model prog w) A (call (.type "enumerate") [.ref l]) Q E s := by
  refine callType_new F.called_enumerate (by decide) (F.typeCall_enumerate_1 _) (F.newCall_enumerate_1 _) (fun obj => F.args_object_init_2 obj _) F.entry_enumerate_new
    (em_new l items) ⟨hL, ?_⟩
  have hz : (s.heap.push { cls := .type "tuple_iterator", data := .fields #[.ref l, .int 0 0] }).objs.size = s.heap.objs.size + 1 := Heap.size_push ..
  show _ ∧ _
  rw [hz]
  have he : IsEnum ((s.heap.push { cls := .type "tuple_iterator", data := .fields #[.ref l, .int 0 0] }).push
      { cls := .type "enumerate", data := .fields #[.none, .bool false, .ref s.heap.objs.size, rawInt 0, .none, .none] }) (s.heap.objs.size + 1) s.heap.objs.size 0 .none := by
    have := Heap.get?_push_size (s.heap.push { cls := .type "tuple_iterator", data := .fields #[.ref l, .int 0 0] })
      (o := { cls := .type "enumerate", data := .fields #[.none, .bool false, .ref s.heap.objs.size, rawInt 0, .none, .none] }) rfl
    rw [hz] at this; exact this
  refine ⟨⟨_, he, rfl⟩, h _ he ⟨_, Heap.get?_push_of_some _ (Heap.get?_push_size _ rfl), rfl, rfl⟩ (by rw [Heap.size_push, hz]) fun b o x => Heap.get?_push_of_some _ (Heap.get?_push_of_some _ x)⟩
end
def Iem (K : PySem.W.Frag) (a : Addr) : It where
  go := fun i H => ∃ (xs : List V) (x : V), SqT K H a xs ∧ xs[i]? = some x
  yld := fun i H v H' => ∃ T x, v = .ref T ∧ H T = none ∧ H' = upd H T (.tup [.int (i : Nat), x]) ∧ ∀ xs, SqT K H a xs → xs[i]? = some x
  stop := fun i H => ∃ xs : List V, SqT K H a xs ∧ xs.length ≤ i
theorem em_turn {P : Program} {w : World} {K : PySem.W.Frag} {elts : List Expr} {kk : Nat} {tpos : Pos} (a e it : Addr) :
    Turn P w K (.Tuple elts kk tpos) (Iem K a) [e, it] e (fun i h => (∃ old, IsEnum h e it ((i : Nat) : Int) old) ∧ h.IsTupleIter it a i ∧ e ≠ it ∧ a ≠ it ∧ a ≠ e) where
  mem := by simp
  obj := fun i h st b hb => by
    obtain ⟨⟨old, he⟩, ⟨o, ho, hc, hd⟩, _⟩ := st
    have e' : b = e ∨ b = it := by simpa using hb
    rcases e' with z | z
    · rw [z]; exact ⟨_, he, fun v q => nomatch q⟩
    · rw [z]; exact ⟨o, ho, fun v q => by rw [hd] at q; cases q⟩
  keep := fun i h h' st k => let ⟨⟨old, he⟩, hi, hne⟩ := st; ⟨⟨old, k e (by simp) _ he⟩, hi.at fun o q => k it (by simp) o q, hne⟩
  item := by
    intro X hP hw hK hc i pins s σ H E I hf st hg
    subst hP hw hK
    obtain ⟨⟨old, he⟩, hit, hne, hai, hae⟩ := st
    obtain ⟨xs, x, hq, hx⟩ := hg
    obtain ⟨its, rv, p, hz⟩ := I.tuple hq
    obtain ⟨u, hu, ru⟩ := rv.get hx
    have hel : e < s.heap.objs.size := Heap.lt_size he
    have hil : it < s.heap.objs.size := by obtain ⟨_, q, _⟩ := hit; exact Heap.lt_size q
    have lt : i < its.toArray.size := by
      have := (List.getElem?_eq_some_iff.mp hu).1
      simpa using this
    have efp : e ∉ [it, a] := by
      simp only [List.mem_cons, List.not_mem_nil, or_false, not_or]
      exact ⟨hne, fun z => hae z.symm⟩
    refine wpAny_pyNext_enum_itemD (Draws.tuple (A := X.A.in1) (I.ok.hd hc) it a hai its.toArray) he ⟨hit, p⟩ lt hne efp fun y h' tk hy ho hit' hT hsz hk => ?_
    have hy' : y = u := by
      have hy : its.toArray[i]? = some y := hy
      have hu' : its.toArray[i]? = some u := by simpa using hu
      rw [hu'] at hy
      exact (Option.some.inj hy).symm
    subst hy'
    refine ⟨_, rfl, wpAny_letOwnedTupleGo_enum (s := { s with heap := h', toks := tk + 1 }) ho fun h'' he' sb => ?_⟩
    have hT2 : h''.get? s.heap.objs.size = some { cls := .type "tuple", data := .seq #[.int i tk, y] } := (sb.2 _ (Nat.ne_of_gt hel)).trans hT
    have new : ObjOk X.prog X.w (upd H s.heap.objs.size (.tup [.int (i : Nat), x])) h'' s.heap.objs.size (.tup [.int (i : Nat), x]) :=
      ⟨by show 2 ≤ sizeLine; decide, [.int i tk, y], .cons ⟨_, rfl⟩ (.cons ru .nil), ⟨_, hT2, rfl, _, rfl⟩⟩
    have I1 : Inv X pins σ (upd H s.heap.objs.size (.tup [.int (i : Nat), x])) { s with heap := h'', toks := tk + 1 } :=
      I.turnedNew (ch := [e, it]) (fun b ob hb q => (sb.2 b (fun z => hb (by simp [z]))).trans (hk b ob (fun z => hb (by simp [z])) (fun z => hb (by simp [z])) q)) hf (Nat.le_refl _) new
    refine ⟨.ref s.heap.objs.size, _, I1, rfl, ⟨_, x, rfl, I.hok.fresh (Nat.le_refl _), rfl, fun ys hy => by rw [I.tuple_inj hy hq]; exact hx⟩, ⟨⟨y, ?_⟩, hit'.1.at fun o q => (sb.2 it (Ne.symm hne)).trans q, hne, hai, hae⟩, fun b hb => ?_⟩
    · have e1 : ((i + 1 : Nat) : Int) = (i : Int) + 1 := by omega
      rw [e1]; exact he'
    · have hb' : b < s.heap.objs.size := by
        have e' : b = e ∨ b = it := by simpa using hb
        rcases e' with z | z
        · rw [z]; exact hel
        · rw [z]; exact hil
      rw [upd_ne (Nat.ne_of_lt hb')]
      exact (hf b hb).1
  done := by
    intro X hP hw hK hc i pins s σ H E I hf st hg
    subst hP hw hK
    obtain ⟨⟨old, he⟩, hit, hne, hai, hae⟩ := st
    obtain ⟨xs, hq, hx⟩ := hg
    obtain ⟨its, rv, p, hz⟩ := I.tuple hq
    obtain ⟨f0, f1, f2, f3, f4, f5⟩ := hf it (by simp)
    have hl := rv.length
    have hT : s.TypeIs (.ref e) "enumerate" := ⟨_, he, rfl⟩
    unfold pyNext
    refine wpAny_bind (wpAny_attempt (wpAny_callSpecial?_slot (name := Str.ofString "__next__") hT F.slot_enumerate_next
      (wpAny_call_entry F.slot_enumerate_next hT F.entry_enumerate_next ?_ (F.args_enumerate_next_1 _))))
    show wpAny _ _ (field (.ref e) 2 >>= _) _ _ _
    refine wpAny_bind (wpAny_field he rfl (x := .ref it) rfl ?_)
    refine wpAny_bind (nextOf_tuple_end (I.ok.hd hc) hit p (by simp; omega) fun h' x he' hx' => ?_)
    obtain ⟨o, ho, hc'⟩ := hx'
    refine wpAny_bind (wpAny_isInstance (T := "StopIteration") (b := true) ⟨o, ho, hc'⟩ isSubtype_stop ?_)
    exact wpAny_pure ⟨rfl, I.turned (t' := s.toks) (fun b o hb q => he' b o hb q) f0 f1 f3 f4 f5⟩
  self := fun A i s Q E st h => let ⟨⟨_, he⟩, _⟩ := st; wpAny_pyIter_enum he h
def iEnumT (K : PySem.W.Frag) (ta : TA) : TI := fun σ H R => ta σ H fun vs H1 => ∃ a xs, vs = [.ref a] ∧ SqT K H1 a xs ∧ R (Iem K a) H1
theorem pi_enumT {X : Cx} {e : Expr} {ta : TA} {p pos tpos : Pos} {elts : List Expr} {kk : Nat} (hg : Gl X "enumerate") (hm : X.mg "enumerate" = none) (ha : PA X [e] ta) (hs : starEach [e] X.env = [(false, eval e X.env)] := by rfl) :
    PI X (.Tuple elts kk tpos) (.Call (.Name "enumerate" p) [e] [] pos) (iEnumT X.K ta) := by
  refine ⟨fun pins s σ H R I h => ?_⟩
  refine Call_ (ld_blt I hg hm boot_enumerate (PyProof.Rows.callWith_type1 (thn (ha.run pos pins s σ H _ I h) fun us s1 ⟨vs, H1, I1, r1, q1⟩ => ?_) hs rfl))
  obtain ⟨a, xs, ex, hq, q⟩ := q1
  subst ex
  cases r1 with
  | cons r rr =>
    cases rr
    cases r
    obtain ⟨its, rv, p', hz⟩ := I1.tuple hq
    obtain ⟨o2, ho2, _⟩ := id p'
    have al := Heap.lt_size ho2
    refine em_call p' fun h' he hit hsz hk => wpAny_pyIter_enum he ?_
    have I2 : Inv X pins σ H1 { s1 with heap := h' } := I1.kept (t' := s1.toks) hk
    refine ⟨s1.heap.objs.size + 1, [s1.heap.objs.size + 1, s1.heap.objs.size], _, _, H1, rfl, I2, em_turn a (s1.heap.objs.size + 1) s1.heap.objs.size, ⟨⟨.none, he⟩, hit, Nat.succ_ne_self _, Nat.ne_of_lt al, Nat.ne_of_lt (Nat.lt_succ_of_lt al)⟩, fun b hb => ?_, q⟩
    have e' : b = s1.heap.objs.size + 1 ∨ b = s1.heap.objs.size := by simpa using hb
    have hle : s1.heap.objs.size ≤ b := by
      rcases e' with z | z
      · rw [z]; exact Nat.le_add_right _ _
      · rw [z]; exact Nat.le_refl _
    exact I1.fpOk hle (I1.hok.fresh hle)
theorem walks_enumT {K : PySem.W.Frag} {F : Hp} {m : List Addr} {a : Addr} {vs : List V} {xs : List D} (q : SqT K F a vs) (r : DenL K F m vs xs) : Walks K F m (Iem K a) (enumD xs) := by
  intro P F2 m2 h H i x S
  have q2 : SqT K H a vs := Same.sqT S.sub (Same.sqT x.s q)
  have n1 := r.length
  have nl : (enumD xs).length = xs.length := by simp [enumD]
  rw [nl]
  refine ⟨fun hi => ?_, fun hi => ⟨vs, q2, by omega⟩⟩
  have hv : i < vs.length := by rw [r.length]; exact hi
  refine ⟨⟨vs, vs[i], q2, List.getElem?_eq_getElem hv⟩, fun y H' yl => ?_⟩
  obtain ⟨T, z, rfl, hT, rfl, yl⟩ := yl
  obtain ⟨d, e1, r1⟩ := r.getV (yl vs q2)
  have x2 := S.extF (o := .tup [.int (i : Nat), z]) hT
  exact ⟨_, x2, S.frozen hT, .tup [.int (i : Nat), d], by simp [enumD, e1], .tup upd_same (.cons (.int _) (.cons (r1.mono (x.trans x2)) .nil))⟩
/-- enumerate of a list or a tuple -/
def sEnumX (f : SA) : SA := fun e h => match f e h with
  | .ok [.tup xs] h1 => .ok (enumD xs) h1
  | _ => sEnum f e h
section
variable {X : Cx} {W : WX}
theorem di_enumX {elts : List Expr} {kk : Nat} {tpos : Pos} {a : Expr} {f : SE} {p pos : Pos} (hg : Gl X "enumerate") (hm : X.mg "enumerate" = none) (ha : DE X W a f) (he : starEach [a] X.env = (false, eval a X.env) :: starEach [] X.env := by rfl) (hs : starEach [a] X.env = [(false, eval a X.env)] := by rfl) :
    DI X W (.Tuple elts kk tpos) (.Call (.Name "enumerate" p) [a] [] pos) (sEnumX (sCons f sNil)) :=
  PI.of (PI_or (pi_enumT hg hm (da_cons ha da_nil he) hs) (di_enum hg hm ha he hs)) fun σ H R => by
    rintro ⟨P, F, m, e, h, S, E, fin⟩
    unfold sEnumX at fin
    split at fin
    · rename_i xs h1 q
      refine .inl ⟨P, F, m, e, h, S, E, ?_⟩
      rw [q]
      intro vs F1 m1 H1 x S1 r
      obtain ⟨v, rfl, r1⟩ := denL1 r
      cases r1 with
      | @tup a2 _ _ e2 t2 =>
        have w := walks_enumT (K := X.K) (.inl (.inl e2)) t2
        exact ⟨a2, _, rfl, Same.sqT S1.sub (.inl (.inl e2)), FinG.okX fin x S1 w⟩
    · exact .inr ⟨P, F, m, e, h, S, E, fin⟩
end
section
variable {PL : List D → OH → Prop}
def enumAtX : D → Option (List D)
  | .tup xs => some (enumD xs)
  | d => (frzAt d).map enumD
@[simp] theorem W_enumX (f : SE) (e : Env') (h : OH) : (sEnumX (sCons f sNil) e h).W PL = (f e h).W fun d h1 => lkS (enumAtX d) fun xs => PL xs h1 := by
  unfold sEnumX
  split
  · rename_i xs h1 q
    cases qf : f e h with
    | bad => simp [sCons, qf] at q
    | exc C p h2 => simp [sCons, qf] at q
    | ok d h2 =>
      simp [sCons, qf, sNil] at q
      obtain ⟨rfl, rfl⟩ := q
      rfl
  · rename_i no
    rw [W_enum]
    cases qf : f e h with
    | bad => rfl
    | exc C p h2 => rfl
    | ok d h2 =>
      simp only [W_ok]
      have e2 : enumAtX d = (frzAt d).map enumD := by
        unfold enumAtX
        split
        · rename_i xs
          exact absurd (by simp [sCons, qf, sNil] : sCons f sNil e h = .ok [.tup xs] h2) (no xs h2)
        · rfl
      rw [e2]
      cases frzAt d <;> rfl
@[simp] theorem enumAtX_t (xs : List D) : enumAtX (.tup xs) = some (enumD xs) := rfl
@[simp] theorem enumAtX_l (xs : List D) : enumAtX (.lst xs) = some (enumD xs) := rfl
end
end HR
set_option Elab.async false
set_option linter.all false
set_option maxRecDepth 20000
set_option maxHeartbeats 1000000
/-! a def that reads no own objects and answers new ones: run on an empty heap -/
namespace HR
open PySem L2 RZ
mutual
def shD (n : Nat) : D → D
  | .non => .non
  | .bl b => .bl b
  | .int i => .int i
  | .str x => .str x
  | .lst xs => .lst (shL n xs)
  | .tup xs => .tup (shL n xs)
  | .dct ks => .dct (shK n ks)
  | .obj C fs => .obj C (shF n fs)
  | .ref i => .ref (n + i)
  | .scr xs => .scr (shL n xs)
  | .exc C => .exc C
  | .excf C f d => .excf C f (shD n d)
def shL (n : Nat) : List D → List D
  | [] => []
  | d :: ds => shD n d :: shL n ds
def shK (n : Nat) : List (Key × D) → List (Key × D)
  | [] => []
  | (k, d) :: ks => (k, shD n d) :: shK n ks
def shF (n : Nat) : List (String × D) → List (String × D)
  | [] => []
  | (f, d) :: fs => (f, shD n d) :: shF n fs
end
def shO (n : Nat) : OO → OO
  | .lst xs => .lst (shL n xs)
  | .ins C fs => .ins C (shF n fs)
  | .dct ks => .dct (shK n ks)
  | .dead => .dead
def aliveO : OO → Bool
  | .dead => false
  | _ => true
section
variable {K : PySem.W.Frag} {F : Hp} {m m1 : List Addr}
theorem shF_names (n : Nat) : ∀ (fs : List (String × D)) (P : String → Prop), (∀ q ∈ fs, P q.1) → ∀ q ∈ shF n fs, P q.1
  | [], _, _, q, hq => by simp [shF] at hq
  | (f, d) :: fs, P, h, q, hq => by
    simp only [shF, List.mem_cons] at hq
    rcases hq with rfl | hq
    · exact h (f, d) List.mem_cons_self
    · exact shF_names n fs P (fun q hq => h q (List.mem_cons_of_mem _ hq)) q hq
theorem ObT.sh {C : String} {fs : List (String × D)} (n : Nat) (t : ObT K C fs) : ObT K C (shF n fs) := ⟨t.1, shF_names n fs (fun x => NoAttr K (He.ga K (Str.ofString C)) (Str.ofString x)) t.2⟩
theorem Den.sh {v : V} {d : D} (r : Den K F m1 v d) : Den K F (m ++ m1) v (shD m.length d) :=
  Den.rec (motive_1 := fun v d _ => Den K F (m ++ m1) v (shD m.length d)) (motive_2 := fun vs ds _ => DenL K F (m ++ m1) vs (shL m.length ds)) (motive_3 := fun vs ds _ => DenK K F (m ++ m1) vs (shK m.length ds)) (motive_4 := fun vs ds _ => DenF K F (m ++ m1) vs (shF m.length ds))
    .non .bl .int .str (fun q _ r => .lst q r) (fun q _ r => .scr q r) (fun q _ r => .tup q r) (fun q _ r => .dct q r) (fun q t _ r => .obj q (t.sh _) r)
    (fun {a i} q => .ref (by rw [List.getElem?_append_right (Nat.le_add_right _ _), Nat.add_sub_cancel_left]; exact q)) (fun q => .exc q) (fun q q2 _ r => .excf q q2 r)
    .nil (fun _ _ a b => .cons a b) .nil (fun _ _ a b => .cons a b) .nil (fun _ _ a b => .cons a b) r
theorem DenL.sh : ∀ {vs : List V} {ds : List D}, DenL K F m1 vs ds → DenL K F (m ++ m1) vs (shL m.length ds)
  | _, _, .nil => .nil
  | _, _, .cons a b => .cons a.sh b.sh
theorem DenK.sh : ∀ {vs : List (Key × V)} {ds : List (Key × D)}, DenK K F m1 vs ds → DenK K F (m ++ m1) vs (shK m.length ds)
  | _, _, .nil => .nil
  | _, _, .cons a b => .cons a.sh b.sh
theorem DenF.sh : ∀ {vs : List (Str × V)} {ds : List (String × D)}, DenF K F m1 vs ds → DenF K F (m ++ m1) vs (shF m.length ds)
  | _, _, .nil => .nil
  | _, _, .cons a b => .cons a.sh b.sh
theorem OOk.sh {H : Hp} {a : Addr} {o : OO} (ok : OOk K F m1 H a o) : OOk K F (m ++ m1) H a (shO m.length o) := by
  cases o with
  | lst xs =>
    obtain ⟨vs, h1, h2, h3⟩ := ok
    exact ⟨vs, h1, h2.sh, h3⟩
  | ins C fs =>
    obtain ⟨dx, fv, h1, h2, h3, h4⟩ := ok
    exact ⟨dx, fv, h1, h2.sh _, h3.sh, h4⟩
  | dct ks =>
    obtain ⟨kv, h1, h2, h3⟩ := ok
    exact ⟨kv, h1, h2.sh, h3⟩
  | dead => trivial
theorem OOk.none_ {H : Hp} {a : Addr} {o : OO} (ok : OOk K F m1 H a o) (al : aliveO o = true) : F a = none := by
  cases o with
  | lst xs => obtain ⟨vs, h1, h2, h3⟩ := ok; exact h3
  | ins C fs => obtain ⟨dx, fv, h1, h2, h3, h4⟩ := ok; exact h4
  | dct ks => obtain ⟨kv, h1, h2, h3⟩ := ok; exact h3
  | dead => cases al
end
section
variable {K : PySem.W.Frag} {P : Pins} {F : Hp} {m : List Addr} {h : OH} {H : Hp}
theorem Sim.join {F' : Hp} {m1 : List Addr} {h1 : OH} {H' : Hp} (S : Sim K P F m h H) (s : Same F F') (S' : Sim K (hidP F m H ++ P) F' m1 h1 H') (al : h1.all aliveO = true) : Sim K P F' (m ++ m1) (h ++ h1.map (shO h.length)) H' := by
  have U := S.unhide s S'
  have dis : ∀ a, a ∈ m → a ∉ m1 := fun a ha hb => by
    cases e : F a with
    | none =>
      obtain ⟨o, q⟩ := S.live a ha
      exact (S'.pin (a, o) (List.mem_append_left _ (mem_hidP.mpr ⟨ha, e, q⟩))).2.2 hb
    | some o =>
      obtain ⟨i, hi, ei⟩ := List.mem_iff_getElem.mp hb
      have e1 : m1[i]? = some a := by rw [List.getElem?_eq_getElem hi, ei]
      have hi2 : i < h1.length := by rw [← S'.len]; exact hi
      have e2 : h1[i]? = some h1[i] := List.getElem?_eq_getElem hi2
      have z := (S'.at_ i a _ e1 e2).none_ (List.all_eq_true.mp al _ (List.getElem_mem hi2))
      rw [s a o e] at z
      cases z
  refine ⟨S'.sub, by simp [S.len, S'.len], List.nodup_append.mpr ⟨S.nd, S'.nd, fun a ha b hb z => dis a ha (z ▸ hb)⟩, fun a ha => ?_, fun i a o e1 e2 => ?_, fun p hp => ?_, S.pnd⟩
  · rcases List.mem_append.mp ha with ha | ha
    · exact U.live a ha
    · exact S'.live a ha
  · by_cases hi : i < m.length
    · rw [List.getElem?_append_left hi] at e1
      rw [List.getElem?_append_left (by rw [← S.len]; exact hi)] at e2
      exact (U.at_ i a o e1 e2).mono ⟨fun _ _ q => q, List.prefix_append _ _⟩ rfl id
    · have hi : m.length ≤ i := Nat.le_of_not_lt hi
      rw [List.getElem?_append_right hi] at e1
      rw [List.getElem?_append_right (by rw [← S.len]; exact hi), List.getElem?_map, Option.map_eq_some_iff] at e2
      obtain ⟨o1, q1, rfl⟩ := e2
      rw [← S.len] at q1 ⊢
      exact (S'.at_ _ a o1 e1 q1).sh
  · obtain ⟨h1, h2, h3⟩ := S'.pin p (List.mem_append_right _ hp)
    refine ⟨h1, h2, fun z => ?_⟩
    rcases List.mem_append.mp z with z | z
    · exact (S.pin p hp).2.2 z
    · exact h3 z
def freshF (f : FN) : FN := fun ds h => if D.pureL ds then (match f ds [] with
  | .ok d h1 => if h1.all aliveO then .ok (shD h.length d) (h ++ h1.map (shO h.length)) else .bad
  | .exc C none _ => .exc C none h
  | .exc C (some q) _ => if q.2.pure then .exc C (some q) h else .bad
  | .bad => .bad) else .bad
theorem fresh_sp {np : Nat} {f : FN} {vs : List V} {Q : VK} {E : XK} (q : spN K np (freshF f) vs H Q E) : spN K np f vs H Q E := by
  obtain ⟨hl, P, F, m, ds, h, S, r, fin⟩ := q
  unfold freshF at fin
  by_cases hp : D.pureL ds = true
  · rw [if_pos hp] at fin
    refine ⟨hl, _, F, [], ds, [], S.hide, r.pureM hp, ?_⟩
    cases q : f ds [] with
    | ok d h' =>
      rw [q] at fin
      dsimp only at fin
      by_cases hd : h'.all aliveO = true
      · rw [if_pos hd] at fin
        intro v F' m' H' x S' rv
        have rv' := rv.sh (m := m)
        rw [S.len] at rv'
        exact fin v F' (m ++ m') H' ⟨x.s, List.prefix_append _ _⟩ (S.join x.s S' hd) rv'
      · rw [if_neg hd] at fin
        exact fin.elim
    | exc C p h' =>
      rw [q] at fin
      cases p with
      | none =>
        intro od F' m' H' x S' pd
        exact fin od F' m H' ⟨x.s, List.prefix_rfl⟩ (S.unhide x.s S') pd
      | some z =>
        dsimp only at fin
        by_cases hd : z.2.pure = true
        · rw [if_pos hd] at fin
          intro od F' m' H' x S' pd
          obtain ⟨a, v, e1, e2, e3⟩ := pd
          exact fin od F' m H' ⟨x.s, List.prefix_rfl⟩ (S.unhide x.s S') ⟨a, v, e1, e2, e3.pureM hd⟩
        · rw [if_neg hd] at fin
          exact fin.elim
    | bad => rw [q] at fin; exact fin
  · rw [if_neg hp] at fin
    exact fin.elim
end
theorem FnOk.fresh {P : Program} {w : World} {K : PySem.W.Frag} {mg : Str → Option Value} {base : Heap} {CX : CXT} {k : Nat} {f : Addr} {fd : FuncData} {ps : List Str} {g : FN} (F : FnOk P w K mg base CX k f fd ps (spN K ps.length g)) : FnOk P w K mg base CX k f fd ps (spN K ps.length (freshF g)) := L2.FnOk.imp F fun _ _ _ _ h => fresh_sp h
theorem Def.fresh {P : Program} {w : World} {K : PySem.W.Frag} {mg : Str → Option Value} {base : Heap} {CX : CXT} {k : Nat} {f : Addr} {ps : List Str} {dvs : List V} {g : FN} (d : Def P w K mg base CX k f ps dvs g) : Def P w K mg base CX k f ps dvs (freshF g) := let ⟨fd, dus, a, b, c⟩ := d.ex; ⟨⟨fd, dus, FnOk.fresh a, b, c⟩, d.kp⟩
end HR
set_option Elab.async false
set_option linter.all false
set_option maxRecDepth 100000
set_option maxHeartbeats 2000000
/-! while an exception is handled: the ends of walks, tuples taken apart, comprehensions over own lists, a def called in an except suite -/
set_option Elab.async false
set_option linter.all false
set_option maxRecDepth 100000
set_option maxHeartbeats 2000000
set_option Elab.async false
set_option linter.all false
set_option maxRecDepth 100000
set_option maxHeartbeats 2000000
namespace HR
open PySem L2 RZ PySem.Spec PyProof.Rows HotX
/-! ### defs called while an exception is handled -/
structure FnHot (P : Program) (w : World) (K : PySem.W.Frag) (mg : Str → Option Value) (base : Heap) (k : Nat) (f : Addr) (fd : FuncData) (ps : List Str) (sp : Sp) : Prop where
  len : ∀ vs H Q E, sp vs H Q E → vs.length = ps.length
  run : ∀ (A : Around) (outer : List Env) (s : Shared) (H : Hp) (args : Args) (us : List Value) (vs : List V) (Q : VK) (E : XK) (a : Addr) (ob : Obj) (u : HO) (ws : Array Value), L2H.RoomH k A → A.handled = some (.ref a) → H a = some (.frz ob u) → ob.data = .fields ws → ws[2]? = some .none →
    Env0 P w K mg base A outer s H → BindsTo s fd args (ps.zip us) → Vals vs us → sp vs H Q E → codeAny (model P w) A (.call (.ref f) args) (CR CX0 outer P w H s Q E) s
structure DefHot (P : Program) (w : World) (K : PySem.W.Frag) (mg : Str → Option Value) (base : Heap) (k : Nat) (f : Addr) (ps : List Str) (g : FN) : Prop where
  ex : ∃ fd, FnHot P w K mg base k f fd ps (spN K ps.length g) ∧ Binds K fd ps []
  kp : PySem.W.keepIn K (.ref f) = true
/-! ### try: body, except X as n: m = f(n) -/
/-! ### raise, where the context is known to be None -/
section
variable {P : Program} {w : World} {K : PySem.W.Frag} {mg : Str → Option Value} {base : Heap} {k j : Nat} {f : Addr} {fd : FuncData} {ps : List Str} {g : FN}
theorem FnHot.mono {sp : Sp} (F : FnHot P w K mg base j f fd ps sp) (h : j ≤ k) : FnHot P w K mg base k f fd ps sp := ⟨F.len, fun A out s H args us vs Q E a ob u ws hr => F.run A out s H args us vs Q E a ob u ws (hr.mono h)⟩
theorem DefHot.up (d : DefHot P w K mg base j f ps g) (h : j ≤ k) : DefHot P w K mg base k f ps g := let ⟨fd, a, b⟩ := d.ex; ⟨⟨fd, a.mono h, b⟩, d.kp⟩
end
end HR
set_option Elab.async false
set_option linter.all false
set_option maxRecDepth 20000
set_option exponentiation.threshold 5000
set_option Elab.async false
set_option linter.all false
set_option maxRecDepth 20000
set_option exponentiation.threshold 5000
namespace HR
open PySem PySem.Spec PyProof.Rows L2
/-! ### sorted(ints); list(range(a, b)) -/
def insI (x : Int) : List Int → List Int
  | [] => [x]
  | y :: ys => if x ≤ y then x :: y :: ys else y :: insI x ys
def sortI : List Int → List Int
  | [] => []
  | x :: xs => insI x (sortI xs)
theorem insI_perm (x : Int) : ∀ l : List Int, (insI x l).Perm (x :: l)
  | [] => List.Perm.refl _
  | y :: ys => by
    unfold insI
    split
    · exact List.Perm.refl _
    · exact (List.Perm.cons y (insI_perm x ys)).trans (List.Perm.swap x y ys)
theorem sortI_perm : ∀ l : List Int, (sortI l).Perm l
  | [] => List.Perm.refl _
  | x :: xs => (insI_perm x (sortI xs)).trans (List.Perm.cons x (sortI_perm xs))
theorem insI_le (x : Int) : ∀ l : List Int, l.Pairwise (· ≤ ·) → (insI x l).Pairwise (· ≤ ·)
  | [], _ => List.pairwise_singleton _ _
  | y :: ys, h => by
    obtain ⟨h1, h2⟩ := List.pairwise_cons.mp h
    unfold insI
    split
    · rename_i hxy
      refine List.pairwise_cons.mpr ⟨fun z hz => ?_, h⟩
      rcases List.mem_cons.mp hz with rfl | hz
      · exact hxy
      · exact Int.le_trans hxy (h1 z hz)
    · rename_i hxy
      refine List.pairwise_cons.mpr ⟨fun z hz => ?_, insI_le x ys h2⟩
      rcases List.mem_cons.mp ((insI_perm x ys).mem_iff.mp hz) with rfl | hz
      · omega
      · exact h1 z hz
theorem sortI_le : ∀ l : List Int, (sortI l).Pairwise (· ≤ ·)
  | [] => List.Pairwise.nil
  | x :: xs => insI_le x _ (sortI_le xs)
theorem le_uniq : ∀ {a b : List Int}, a.Perm b → a.Pairwise (· ≤ ·) → b.Pairwise (· ≤ ·) → a = b
  | [], b, p, _, _ => (List.nil_perm.mp p).symm
  | x :: a, [], p, _, _ => absurd p.length_eq (by simp)
  | x :: a, y :: b, p, ha, hb => by
    obtain ⟨a1, a2⟩ := List.pairwise_cons.mp ha
    obtain ⟨b1, b2⟩ := List.pairwise_cons.mp hb
    have e : x = y := by
      have h1 : x ∈ y :: b := p.mem_iff.mp List.mem_cons_self
      have h2 : y ∈ x :: a := p.mem_iff.mpr List.mem_cons_self
      rcases List.mem_cons.mp h1 with h1 | h1
      · exact h1
      · rcases List.mem_cons.mp h2 with h2 | h2
        · exact h2.symm
        · have := a1 y h2
          have := b1 x h1
          omega
    subst e
    rw [le_uniq p.cons_inv a2 b2]
def opSortI : D → OH → Res D := fun d h => match (lsqAt h d).bind intsOf with
  | some ns => .ok (.lst ((sortI ns).map .int)) h
  | none => .bad
theorem den_ints {K : PySem.W.Frag} {F : Hp} {m : List Addr} (ns : List Int) : DenL K F m (ns.map V.int) (ns.map D.int) := by
  induction ns with
  | nil => exact .nil
  | cons u us ih => exact .cons (.int u) ih
section
variable {X : Cx} {W : WX}
theorem bSortI_h : ClH X.K W (b1 opSortI) (rSortedI X.K) := by
  intro P F m h H σ Q vs ds S r fin
  obtain ⟨v, d, rfl, r1, fin⟩ := b1_inv r fin
  unfold opSortI at fin
  cases q1 : lsqAt h d with
  | none => rw [q1] at fin; exact fin.bad_elim
  | some xs =>
    rw [q1] at fin
    simp only [Option.bind_some] at fin
    cases q2 : intsOf xs with
    | none => rw [q2] at fin; exact fin.bad_elim
    | some ns =>
      rw [q2] at fin
      dsimp only at fin
      obtain ⟨b, ws, rfl, hb, rl⟩ := lsqAt_ok S r1 q1
      rw [intsOf_ok rl q2] at hb
      refine ⟨b, ns, rfl, hb, fun ns' p pm le hp => ?_⟩
      rw [le_uniq (pm.trans (sortI_perm ns).symm) le (sortI_le ns)]
      exact FinG.newL fin S (den_ints _) hp
theorem de_sortI {p pos : Pos} {a : Expr} {fa : SE} (hx : Gl X "sorted") (hm : X.mg "sorted" = none) (ha : DE X W a fa) (he : starEach [a] X.env = (false, eval a X.env) :: starEach [] X.env := by rfl) : DE X W (.Call (.Name "sorted" p) [a] [] pos) (sCall (b1 opSortI) (sCons fa sNil)) :=
  de_blt cr_sortedI bSortI_h hx hm (by decide +kernel) (da_cons ha da_nil he) (he := he)
/-- list(range(a, b)) -/
def sLstRg (fa fb : SE) : SE := fun e h => (fa e h).bind fun x h1 => (fb e h1).bind fun y h2 => match x, y with
  | .int i, .int j => if 0 ≤ i ∧ i ≤ 1000000 ∧ 0 ≤ j ∧ j ≤ 1000000 then .ok (.lst ((List.range (j - i).toNat).map fun k => .int (i + (k : Nat)))) h2 else .bad
  | _, _ => .bad
theorem de_lstRg {a b : Expr} {fa fb : SE} {p p2 q pos : Pos} (hc : X.calm = true) (hg : Gl X "list") (hm : X.mg "list" = none) (hg2 : Gl X "range") (hm2 : X.mg "range" = none) (ha : DE X W a fa) (hb : DE X W b fb)
    (nl : starEach [.Call (.Name "range" p2) [a, b] [] q] X.env = (false, eval (.Call (.Name "range" p2) [a, b] [] q) X.env) :: starEach [] X.env := by rfl)
    (na : starEach [a, b] X.env = (false, eval a X.env) :: starEach [b] X.env := by rfl) (nb : starEach [b] X.env = (false, eval b X.env) :: starEach [] X.env := by rfl) (hp : (backTo q (starEach [b] X.env)).any (·.1) = false := by rfl) :
    DE X W (.Call (.Name "list" p) [.Call (.Name "range" p2) [a, b] [] q] [] pos) (sLstRg fa fb) := PE.of (pe_listRg hc hg hm (prg_2 hg2 hm2 ha hb na nb hp) nl) fun σ H Q => by
  rintro ⟨P, F, m, e, h, S, E, fin⟩
  refine rd_seq S E fin fun F1 m1 h1 H1 v d x1 S1 E1 r1 fin1 => ?_
  refine rd_seq S1 E1 fin1 fun F2 m2 h2 H2 v2 d2 x2 S2 E2 r2 fin2 => ?_
  have r1 := r1.mono x2
  cases r1 with
  | int i =>
    cases r2 with
    | int j =>
      dsimp only at fin2
      by_cases hz : 0 ≤ i ∧ i ≤ 1000000 ∧ 0 ≤ j ∧ j ≤ 1000000
      · rw [if_pos hz] at fin2
        refine ⟨i, j, rfl, rfl, RgOk.of_le hz.1 (by omega) (by omega) hz.2.2.1, fun q hq => FinG.newL fin2 S2 ?_ hq⟩
        unfold rgV
        have e1 : ((List.range (j - i).toNat).map fun k => V.int (i + (k : Nat))) = ((List.range (j - i).toNat).map fun k => i + ((k : Nat) : Int)).map V.int := by rw [List.map_map]; rfl
        have e2 : ((List.range (j - i).toNat).map fun k => D.int (i + (k : Nat))) = ((List.range (j - i).toNat).map fun k => i + ((k : Nat) : Int)).map D.int := by rw [List.map_map]; rfl
        rw [e1, e2]
        exact den_ints _
      · rw [if_neg hz] at fin2
        exact fin2.bad_elim
    | _ => exact fin2.bad_elim
  | _ => cases d2 <;> exact fin2.bad_elim
end
section
variable {PD : D → OH → Prop}
@[simp] theorem W_sortI (d : D) (h : OH) : (opSortI d h).W PD = match (lsqAt h d).bind intsOf with
  | some ns => PD (.lst ((sortI ns).map .int)) h
  | none => False := by
  unfold opSortI
  cases (lsqAt h d).bind intsOf <;> rfl
end
end HR
set_option Elab.async false
set_option linter.all false
set_option maxRecDepth 100000
namespace HR
open PySem
/-! ### list(zip(a, b)), two lists: on the heap -/
theorem zip_no_len : typeLookup (.type "zip") "__len__" = pure none := by rw [typeLookup_type, builtinLookup_eq_fast]; kernel_rfl
theorem zip_no_hint : typeLookup (.type "zip") "__length_hint__" = pure none := by rw [typeLookup_type, builtinLookup_eq_fast]; kernel_rfl
section
variable {prog : Program} {w : World} {A : Around}
/-- a zip of two lists, i items given -/
def ZipSt (z TI TO i1 i2 l1 l2 S : Addr) (xs ys : Array Value) (i : Nat) (h : Heap) : Prop :=
  IsPair h TI (.ref i1) (.ref i2) ∧ h.IsListIter i1 l1 i ∧ h.IsListIter i2 l2 i ∧ h.IsList l1 xs ∧ h.IsList l2 ys ∧ (∃ o, h.get? TO = some o) ∧
    ((IsZip h z TI TO .none ∧ ∃ a b, IsPair h TO a b) ∨ ∃ T f oT, IsZipHeld h z TI TO T f ∧ h.get? T = some oT ∧ T ≠ z ∧ T ≠ i1 ∧ T ≠ i2 ∧ T ≠ S)
/-- the pairs that lie in the list -/
def ZipAcc (z TO i1 i2 S B : Addr) (xs ys : Array Value) (acc : Array Value) (i : Nat) (h : Heap) : Prop :=
  acc.size = i ∧ ∀ (j : Nat) (v : Value), acc[j]? = some v → ∃ (T : Addr) (x y : Value), v = Value.ref T ∧ xs[j]? = some x ∧ ys[j]? = some y ∧ IsPair h T x y ∧ B ≤ T ∧ T ≠ z ∧ T ≠ TO ∧ T ≠ i1 ∧ T ≠ i2 ∧ T ≠ S ∧ ∀ k : Nat, acc[k]? = some v → k = j
variable {z TI TO i1 i2 l1 l2 S B : Addr} {xs ys : Array Value}
theorem ZipSt.at {i : Nat} {h h' : Heap} (q : ZipSt z TI TO i1 i2 l1 l2 S xs ys i h) (dS : S ≠ z ∧ S ≠ TI ∧ S ≠ TO ∧ S ≠ i1 ∧ S ≠ i2 ∧ S ≠ l1 ∧ S ≠ l2) (hk : ∀ b o, b ≠ S → h.get? b = some o → h'.get? b = some o) : ZipSt z TI TO i1 i2 l1 l2 S xs ys i h' := by
  obtain ⟨dz, dTI, dTO, di1, di2, dl1, dl2⟩ := dS
  obtain ⟨hTI, h1, h2, hl1, hl2, ⟨oO, hO⟩, hz⟩ := q
  refine ⟨hk _ _ (Ne.symm dTI) hTI, h1.at fun o e => hk _ o (Ne.symm di1) e, h2.at fun o e => hk _ o (Ne.symm di2) e, hl1.at fun o e => hk _ o (Ne.symm dl1) e, hl2.at fun o e => hk _ o (Ne.symm dl2) e, ⟨oO, hk _ _ (Ne.symm dTO) hO⟩, ?_⟩
  rcases hz with ⟨hz, a, b, hTO⟩ | ⟨T, f, oT, hz, hT, r1, r2, r3, r4⟩
  · exact .inl ⟨hk _ _ (Ne.symm dz) hz, a, b, hk _ _ (Ne.symm dTO) hTO⟩
  · exact .inr ⟨T, f, oT, hk _ _ (Ne.symm dz) hz, hk _ _ r4 hT, r1, r2, r3, r4⟩
theorem ZipAcc.at {i : Nat} {acc : Array Value} {h h' : Heap} (q : ZipAcc z TO i1 i2 S B xs ys acc i h) (hk : ∀ b o, b ≠ z → b ≠ TO → b ≠ i1 → b ≠ i2 → b ≠ S → h.get? b = some o → h'.get? b = some o) : ZipAcc z TO i1 i2 S B xs ys acc i h' :=
  ⟨q.1, fun j v e => by
    obtain ⟨T, x, y, a1, a2, a3, a4, a5, a6, a7, a8, a9, a10, a11⟩ := q.2 j v e
    exact ⟨T, x, y, a1, a2, a3, hk _ _ a6 a7 a8 a9 a10 a4, a5, a6, a7, a8, a9, a10, a11⟩⟩
/-- one more pair -/
theorem zip_step {i : Nat} {s : Shared} {Q : Option Value → Shared → Prop} {E : Value → Shared → Prop} (D : ZipApart z TI TO i1 i2 l1 l2) (hS : ∃ o, s.heap.get? S = some o) (st : ZipSt z TI TO i1 i2 l1 l2 S xs ys i s.heap) (hi : i < min xs.size ys.size)
    (hQ : ∀ h' x y, xs[i]? = some x → ys[i]? = some y → ZipSt z TI TO i1 i2 l1 l2 S xs ys (i + 1) h' → IsPair h' s.heap.objs.size x y → s.heap.objs.size ≠ z ∧ s.heap.objs.size ≠ TO ∧ s.heap.objs.size ≠ i1 ∧ s.heap.objs.size ≠ i2 ∧ s.heap.objs.size ≠ S → h'.objs.size = s.heap.objs.size + 1 →
      (∀ b o, b ≠ z → b ≠ TO → b ≠ i1 → b ≠ i2 → s.heap.get? b = some o → h'.get? b = some o) → Q (some (.ref s.heap.objs.size)) { s with heap := h' }) :
    wpAny (model prog w) A (pyNext (.ref z)) Q E s := by
  obtain ⟨hTI, h1, h2, hl1, hl2, ⟨oO, hO⟩, hz⟩ := st
  have hix : i < xs.size := Nat.lt_of_lt_of_le hi (Nat.min_le_left ..)
  have hiy : i < ys.size := Nat.lt_of_lt_of_le hi (Nat.min_le_right ..)
  have ex := Array.getElem?_eq_getElem hix
  have ey := Array.getElem?_eq_getElem hiy
  have lt : ∀ {c o}, s.heap.get? c = some o → s.heap.objs.size ≠ c := fun e => Nat.ne_of_gt (Heap.lt_size e)
  have n1 : s.heap.objs.size ≠ i1 := let ⟨_, e, _⟩ := h1; lt e
  have n2 : s.heap.objs.size ≠ i2 := let ⟨_, e, _⟩ := h2; lt e
  have nS : s.heap.objs.size ≠ S := let ⟨_, e⟩ := hS; lt e
  rcases hz with ⟨hz, a, b, hTO⟩ | ⟨T, f, oT, hz, hT, r1, r2, r3, r4⟩
  · refine wpAny_pyNext_zip_item D hz hTI hTO h1 h2 hl1 hl2 ex ey fun h' a1 a2 a3 a4 a5 a6 hk => ?_
    exact hQ h' _ _ ex ey ⟨hk _ _ D.TIz D.TITO D.TIi1 D.TIi2 hTI, a3, a4, hl1.at fun o e => hk _ o D.l1z D.l1TO D.l1i1 D.l1i2 e, hl2.at fun o e => hk _ o D.l2z D.l2TO D.l2i1 D.l2i2 e, ⟨_, a2⟩,
      .inr ⟨s.heap.objs.size, false, _, a1, a5, lt hz, n1, n2, nS⟩⟩ a5 ⟨lt hz, lt hO, n1, n2, nS⟩ a6 hk
  · refine wpAny_pyNext_zip_item_held D hz hT hTI h1 h2 hl1 hl2 ex ey fun h' a1 a3 a4 a5 a6 hk => ?_
    exact hQ h' _ _ ex ey ⟨hk _ _ D.TIz D.TIi1 D.TIi2 hTI, a3, a4, hl1.at fun o e => hk _ o D.l1z D.l1i1 D.l1i2 e, hl2.at fun o e => hk _ o D.l2z D.l2i1 D.l2i2 e, ⟨_, hk _ _ D.TOz D.TOi1 D.TOi2 hO⟩,
      .inr ⟨T, true, oT, a1, hk _ _ r1 r2 r3 hT, r1, r2, r3, r4⟩⟩ a5 ⟨lt hz, lt hO, n1, n2, nS⟩ a6 fun b o b1 _ b3 b4 e => hk b o b1 b3 b4 e
/-- no more pairs -/
theorem zip_stop {s : Shared} {Q : Option Value → Shared → Prop} {E : Value → Shared → Prop} (hh : A.handled = none) (D : ZipApart z TI TO i1 i2 l1 l2) (st : ZipSt z TI TO i1 i2 l1 l2 S xs ys (min xs.size ys.size) s.heap)
    (hQ : ∀ h', (∀ b o, b ≠ z → b ≠ TO → b ≠ i1 → b ≠ i2 → s.heap.get? b = some o → h'.get? b = some o) → Q none { s with heap := h' }) :
    wpAny (model prog w) A (pyNext (.ref z)) Q E s := by
  obtain ⟨hTI, h1, h2, hl1, hl2, _, hz⟩ := st
  have hend : xs[min xs.size ys.size]? = none ∨ ys[min xs.size ys.size]? = none := by
    rcases Nat.le_total xs.size ys.size with h | h
    · exact .inl (Array.getElem?_eq_none (by rw [Nat.min_eq_left h]; exact Nat.le_refl _))
    · exact .inr (Array.getElem?_eq_none (by rw [Nat.min_eq_right h]; exact Nat.le_refl _))
  rcases hz with ⟨hz, a, b, hTO⟩ | ⟨T, f, oT, hz, hT, r1, r2, r3, r4⟩
  · exact wpAny_pyNext_zip_end hh D hz hTI hTO h1 h2 hl1 hl2 hend fun h' hk => hQ h' hk
  · exact wpAny_pyNext_zip_end_held hh D hz hT hTI h1 h2 hl1 hl2 hend fun h' hk => hQ h' fun b o b1 _ b3 b4 e => hk b o b1 b3 b4 e
theorem ZipAcc.push {i : Nat} {acc : Array Value} {h : Heap} {T : Addr} {x y : Value} (q : ZipAcc z TO i1 i2 S B xs ys acc i h) (hx : xs[i]? = some x) (hy : ys[i]? = some y) (hp : IsPair h T x y) (hB : B ≤ T) (hT : T ≠ z ∧ T ≠ TO ∧ T ≠ i1 ∧ T ≠ i2 ∧ T ≠ S) (hn : ∀ k : Nat, acc[k]? ≠ some (Value.ref T)) : ZipAcc z TO i1 i2 S B xs ys (acc.push (.ref T)) (i + 1) h := by
  obtain ⟨q1, q2⟩ := q
  refine ⟨by rw [Array.size_push, q1], fun j v e => ?_⟩
  rw [Array.getElem?_push] at e
  split at e
  · rename_i ej
    cases e
    rw [q1] at ej
    subst ej
    refine ⟨T, x, y, rfl, hx, hy, hp, hB, hT.1, hT.2.1, hT.2.2.1, hT.2.2.2.1, hT.2.2.2.2, fun k ek => ?_⟩
    rw [Array.getElem?_push] at ek
    split at ek
    · rename_i e2
      rw [e2, q1]
    · exact absurd ek (hn k)
  · obtain ⟨T2, x2, y2, a1, a2, a3, a4, a5, a6, a7, a8, a9, a10, a11⟩ := q2 j v e
    refine ⟨T2, x2, y2, a1, a2, a3, a4, a5, a6, a7, a8, a9, a10, fun k ek => ?_⟩
    rw [Array.getElem?_push] at ek
    split at ek
    · cases ek
      exact absurd e (hn j)
    · exact a11 k ek
theorem zip_loop {R : Result → Shared → Prop} (hh : A.handled = none) (D : ZipApart z TI TO i1 i2 l1 l2) (dS : S ≠ z ∧ S ≠ TI ∧ S ≠ TO ∧ S ≠ i1 ∧ S ≠ i2 ∧ S ≠ l1 ∧ S ≠ l2) (hm : min xs.size ys.size ≤ sizeLine) (res : Value) :
    ∀ (k i : Nat) (s : Shared) (acc : Array Value) (c : Nat), min xs.size ys.size - i = k → i ≤ min xs.size ys.size → ZipSt z TI TO i1 i2 l1 l2 S xs ys i s.heap → s.heap.get? S = some { cls := .type "list", dict := none, data := .seq acc c, slots := #[] } → ZipAcc z TO i1 i2 S B xs ys acc i s.heap → B ≤ s.heap.objs.size →
    (∀ h' acc' c', (∀ b o, b ≠ S → b ≠ z → b ≠ TO → b ≠ i1 → b ≠ i2 → s.heap.get? b = some o → h'.get? b = some o) → h'.get? S = some { cls := .type "list", dict := none, data := .seq acc' c', slots := #[] } → ZipAcc z TO i1 i2 S B xs ys acc' (min xs.size ys.size) h' → R (.ok (.ret res)) { s with heap := h' }) →
    codeAny (model prog w) A (.builtin "list.extend.loop" ⟨[.ref S, .ref z, res], []⟩) R s := by
  obtain ⟨dz, dTI, dTO, di1, di2, dl1, dl2⟩ := dS
  intro k
  induction k with
  | zero =>
    intro i s acc c hk hi hst hS hacc hB hR
    have hin : i = min xs.size ys.size := by omega
    subst hin
    refine codeAny_builtin F.entry_extend_loop ?_
    rw [Around.under_plainId F.plain_extend_loop _]
    show wpAny _ A.in1 (pyNext (.ref z) >>= _) _ _ s
    refine wpAny_bind (zip_stop hh D hst fun h' hk' => ?_)
    exact wpAny_pure (hR h' acc c (fun b o _ b1 b2 b3 b4 e => hk' b o b1 b2 b3 b4 e) (hk' S _ dz dTO di1 di2 hS) (hacc.at fun b o b1 b2 b3 b4 _ e => hk' b o b1 b2 b3 b4 e))
  | succ k ih =>
    intro i s acc c hk hi hst hS hacc hB hR
    have hlt : i < min xs.size ys.size := by omega
    refine codeAny_builtin F.entry_extend_loop ?_
    rw [Around.under_plainId F.plain_extend_loop _]
    show wpAny _ A.in1 (pyNext (.ref z) >>= _) _ _ s
    refine wpAny_bind (zip_step D ⟨_, hS⟩ hst hlt fun h' x y hx hy st' hp hne hsz hk' => ?_)
    have hS' := hk' S _ dz dTO di1 di2 hS
    have hacc' : ZipAcc z TO i1 i2 S B xs ys (acc.push (.ref s.heap.objs.size)) (i + 1) h' := (hacc.at fun b o b1 b2 b3 b4 _ e => hk' b o b1 b2 b3 b4 e).push hx hy hp hB hne fun k ek => by
      obtain ⟨T, _, _, e1, _, _, e2, _⟩ := hacc.2 k _ ek
      cases e1
      exact absurd (Heap.lt_size e2) (Nat.lt_irrefl _)
    show wpAny _ A.in1 (updateSeq S (·.push (.ref s.heap.objs.size)) >>= _) _ _ _
    refine wpAny_bind ?_
    have oth : ∀ b o, b ≠ S → h'.get? b = some o → (h'.update S (Obj.mapSeq (·.push (.ref s.heap.objs.size)))).get? b = some o := fun b o hb e => (Heap.get?_update_other _ _ (Ne.symm hb)).trans e
    refine wpAny_updateSeq hS' rfl (wpAny_pure ⟨plainId_quiet F.plain_extend_loop _, ih (i + 1) _ (acc.push (.ref s.heap.objs.size)) _ (by omega) hlt (st'.at ⟨dz, dTI, dTO, di1, di2, dl1, dl2⟩ oth) (Heap.get?_update_self _ hS' rfl) (hacc'.at fun b o _ _ _ _ b5 e => oth b o b5 e) ?_ fun h'' acc'' c'' hk'' hS'' hacc'' => ?_⟩)
      (by rw [hacc.1]; omega) (by show (acc.push _).size ≤ sizeLine + 1; rw [Array.size_push, hacc.1]; omega)
    · show B ≤ (h'.update S _).objs.size
      rw [Heap.size_update, hsz]
      exact Nat.le_succ_of_le hB
    · exact hR h'' acc'' c'' (fun b o b0 b1 b2 b3 b4 e => hk'' b o b0 b1 b2 b3 b4 (oth b o b0 (hk' b o b1 b2 b3 b4 e))) hS'' hacc''
theorem zip_extend {R : Result → Shared → Prop} {s : Shared} (hh : A.handled = none) (D : ZipApart z TI TO i1 i2 l1 l2) (dS : S ≠ z ∧ S ≠ TI ∧ S ≠ TO ∧ S ≠ i1 ∧ S ≠ i2 ∧ S ≠ l1 ∧ S ≠ l2) (hm : min xs.size ys.size ≤ sizeLine) (res : Value) (c₀ : Nat)
    (hz : IsZip s.heap z TI TO .none) (st : ZipSt z TI TO i1 i2 l1 l2 S xs ys 0 s.heap) (hS : s.heap.get? S = some { cls := .type "list", data := .seq #[] c₀ }) (hB : B ≤ s.heap.objs.size)
    (hR : ∀ h' acc' c', (∀ b o, b ≠ S → b ≠ z → b ≠ TO → b ≠ i1 → b ≠ i2 → s.heap.get? b = some o → h'.get? b = some o) → h'.get? S = some { cls := .type "list", dict := none, data := .seq acc' c', slots := #[] } → ZipAcc z TO i1 i2 S B xs ys acc' (min xs.size ys.size) h' → R (.ok (.ret res)) { s with heap := h' }) :
    wpAny (model prog w) A.in1 (Builtin.List.listExtendWith (.ref S) (.ref z) res)
      (fun fin s' => match fin with | .done f => R (.ok f) s' | .again c' => c'.quiet = true ∧ codeAny (model prog w) A c' R s') (fun e s' => R (.error e) s') s := by
  have hT : s.TypeIs (.ref z) "zip" := ⟨_, hz, rfl⟩
  unfold Builtin.List.listExtendWith
  refine wpAny_bind (wpAny_typeOf hT ?_)
  have h1 : Builtin.List.listSameRef (.ref S) (.ref z) = false := by simp [Builtin.List.listSameRef, dS.1]
  have h2 : (Value.type "zip" == Value.type "list") = false := by decide
  have h3 : (Value.type "zip" == Value.type "tuple") = false := by decide
  simp only [h1, h2, h3, Bool.or_false, Bool.false_eq_true, if_false]
  refine wpAny_bind (wpAny_pyIter_zip hz ?_)
  refine wpAny_bind (wpAny_holding ?_)
  unfold Builtin.List.listLengthHint
  refine wpAny_bind (wpAny_specialOf hT zip_no_len ?_)
  show wpAny _ A.in1 (specialOf (Value.ref z) (Str.ofString "__length_hint__") >>= _) _ _ _
  refine wpAny_bind (wpAny_specialOf hT zip_no_hint ?_)
  refine wpAny_pure ?_
  show wpAny _ A.in1 (rule "list.extend.makes-room" >>= fun _ => Builtin.List.listTouch (.ref S) >>= fun _ =>
    again (.builtin "list.extend.loop" ⟨[.ref S, .ref z, res], []⟩)) _ _ _
  refine wpAny_bind (wpAny_rule ?_)
  refine wpAny_bind ?_
  show wpAny _ A.in1 (updateSeq S (·.push .none) >>= fun _ => updateSeq S (·.pop)) _ _ _
  refine wpAny_bind (wpAny_updateSeq hS rfl ?_)
  have hS₂ := Heap.get?_update_self (Obj.mapSeq (·.push Value.none)) hS rfl
  refine wpAny_updateSeq (hz := by seq_fits) hS₂ rfl ?_
  have hS₃ := Heap.get?_update_self (Obj.mapSeq (·.pop)) hS₂ rfl
  have oth : ∀ b o, b ≠ S → s.heap.get? b = some o → ((s.heap.update S (Obj.mapSeq (·.push Value.none))).update S (Obj.mapSeq (·.pop))).get? b = some o :=
    fun b o hb e => (Heap.get?_update_other _ _ (Ne.symm hb)).trans ((Heap.get?_update_other _ _ (Ne.symm hb)).trans e)
  refine wpAny_pure ⟨plainId_quiet F.plain_extend_loop _, zip_loop (B := B) (xs := xs) (ys := ys) hh D dS hm res _ 0 _ _ _ rfl (Nat.zero_le _) (st.at dS oth) hS₃ ⟨rfl, fun j v h => by simp at h⟩ ?_ fun h' acc' c' hk hS' hacc => ?_⟩
  · show B ≤ ((s.heap.update S _).update S _).objs.size
    rw [Heap.size_update, Heap.size_update]
    exact hB
  · exact hR h' acc' c' (fun b o b0 b1 b2 b3 b4 e => hk b o b0 b1 b2 b3 b4 (oth b o b0 e)) hS' hacc
theorem zip_init {R : Result → Shared → Prop} {s : Shared} (hh : A.handled = none) (D : ZipApart z TI TO i1 i2 l1 l2) (dS : S ≠ z ∧ S ≠ TI ∧ S ≠ TO ∧ S ≠ i1 ∧ S ≠ i2 ∧ S ≠ l1 ∧ S ≠ l2) (hm : min xs.size ys.size ≤ sizeLine)
    (hz : IsZip s.heap z TI TO .none) (st : ZipSt z TI TO i1 i2 l1 l2 S xs ys 0 s.heap) (hS : s.heap.get? S = some { cls := .type "list", data := .seq #[] }) (hB : B ≤ s.heap.objs.size)
    (hR : ∀ h' acc' c', (∀ b o, b ≠ S → b ≠ z → b ≠ TO → b ≠ i1 → b ≠ i2 → s.heap.get? b = some o → h'.get? b = some o) → h'.get? S = some { cls := .type "list", dict := none, data := .seq acc' c', slots := #[] } → ZipAcc z TO i1 i2 S B xs ys acc' (min xs.size ys.size) h' → R (.ok (.ret .none)) { s with heap := h' }) :
    wpAny (model prog w) A.in1 (Builtin.«list.__init__» ⟨[.ref S, .ref z], []⟩)
      (fun fin s' => match fin with | .done f => R (.ok f) s' | .again c' => c'.quiet = true ∧ codeAny (model prog w) A c' R s') (fun e s' => R (.error e) s') s := by
  show wpAny _ A.in1 (do let old ← Builtin.List.listItems (.ref S); Builtin.List.listUpdate (.ref S) (fun _ => #[]); letGo old.toList.reverse; Builtin.List.listExtendWith (.ref S) (.ref z) .none) _ _ s
  refine wpAny_bind ?_
  unfold Builtin.List.listItems
  refine wpAny_bind (wpAny_seqItems hS rfl (wpAny_pure ?_))
  show wpAny _ A.in1 (updateSeq S (fun _ => #[]) >>= fun _ => letGo (#[] : Array Value).toList.reverse >>= fun _ => Builtin.List.listExtendWith (.ref S) (.ref z) .none) _ _ s
  refine wpAny_bind (wpAny_updateSeq hS rfl ?_)
  have hS₂ := Heap.get?_update_self (Obj.mapSeq (fun _ => (#[] : Array Value))) hS rfl
  have oth : ∀ b o, b ≠ S → s.heap.get? b = some o → (s.heap.update S (Obj.mapSeq (fun _ => (#[] : Array Value)))).get? b = some o :=
    fun b o hb e => (Heap.get?_update_other _ _ (Ne.symm hb)).trans e
  refine wpAny_bind (wpAny_letGo ?_)
  refine zip_extend (B := B) hh D dS hm .none _ (oth _ _ (Ne.symm dS.1) hz) (st.at dS oth) hS₂ ?_ fun h' acc' c' hk hS' hacc => ?_
  · show B ≤ (s.heap.update S _).objs.size
    rw [Heap.size_update]
    exact hB
  · exact hR h' acc' c' (fun b o b0 b1 b2 b3 b4 e => hk b o b0 b1 b2 b3 b4 (oth b o b0 e)) hS' hacc
theorem call_list_zip {Q : Value → Shared → Prop} {E : Value → Shared → Prop} {s : Shared} (hh : A.handled = none) (D : ZipApart z TI TO i1 i2 l1 l2) (hm : min xs.size ys.size ≤ sizeLine)
    (hz : IsZip s.heap z TI TO .none) (hTI : IsPair s.heap TI (.ref i1) (.ref i2)) (hTO : IsPair s.heap TO .none .none) (h1 : s.heap.IsListIter i1 l1 0) (h2 : s.heap.IsListIter i2 l2 0) (hl1 : s.heap.IsList l1 xs) (hl2 : s.heap.IsList l2 ys)
    (hQ : ∀ h' acc' c', (∀ b o, b ≠ z → b ≠ TO → b ≠ i1 → b ≠ i2 → s.heap.get? b = some o → h'.get? b = some o) → h'.get? s.heap.objs.size = some { cls := .type "list", dict := none, data := .seq acc' c', slots := #[] } →
      ZipAcc z TO i1 i2 s.heap.objs.size s.heap.objs.size xs ys acc' (min xs.size ys.size) h' → Q (.ref s.heap.objs.size) { s with heap := h' }) :
    wpAny (model prog w) A (call (.type "list") [.ref z]) Q E s := by
  have lt : ∀ {c o}, s.heap.get? c = some o → s.heap.objs.size ≠ c := fun e => Nat.ne_of_gt (Heap.lt_size e)
  have dS : s.heap.objs.size ≠ z ∧ s.heap.objs.size ≠ TI ∧ s.heap.objs.size ≠ TO ∧ s.heap.objs.size ≠ i1 ∧ s.heap.objs.size ≠ i2 ∧ s.heap.objs.size ≠ l1 ∧ s.heap.objs.size ≠ l2 :=
    ⟨lt hz, lt hTI, lt hTO, let ⟨_, e, _⟩ := h1; lt e, let ⟨_, e, _⟩ := h2; lt e, let ⟨_, e, _⟩ := hl1; lt e, let ⟨_, e, _⟩ := hl2; lt e⟩
  refine callType_codes (Q₁ := fun obj s₁ => obj = .ref s.heap.objs.size ∧ s₁ = { s with heap := s.heap.push { cls := .type "list", data := .seq #[] } }) F.called_list (F.typeCall_list_1 _) F.entry_list_init
    (code_list_new _ ⟨rfl, rfl⟩) fun obj s₁ h₁ => ?_
  obtain ⟨rfl, rfl⟩ := h₁
  have hS : (s.heap.push { cls := .type "list", data := .seq #[] }).get? s.heap.objs.size = some { cls := .type "list", data := .seq #[] } := Heap.get?_push_size _ rfl
  have k : ∀ b o, s.heap.get? b = some o → (s.heap.push { cls := .type "list", data := .seq #[] }).get? b = some o := fun b o e => Heap.get?_push_of_some _ e
  have st : ZipSt z TI TO i1 i2 l1 l2 s.heap.objs.size xs ys 0 (s.heap.push { cls := .type "list", data := .seq #[] }) :=
    ⟨k _ _ hTI, h1.at fun o e => k _ o e, h2.at fun o e => k _ o e, hl1.at fun o e => k _ o e, hl2.at fun o e => k _ o e, ⟨_, k _ _ hTO⟩, .inl ⟨k _ _ hz, _, _, k _ _ hTO⟩⟩
  refine ⟨⟨_, hS, rfl⟩, F.args_list_init_2 _ _, zip_init (A := A.in1) (B := s.heap.objs.size) hh D dS hm (k _ _ hz) st hS ?_ fun h' acc' c' hk hS' hacc => ?_⟩
  · show s.heap.objs.size ≤ (s.heap.push _).objs.size
    rw [Heap.size_push]
    exact Nat.le_succ _
  · exact ⟨rfl, hQ h' acc' c' (fun b o b1 b2 b3 b4 e => hk b o (Nat.ne_of_lt (Heap.lt_size e)) b1 b2 b3 b4 (k b o e)) hS' hacc⟩
end
end HR
set_option Elab.async false
set_option linter.all false
set_option maxRecDepth 20000
set_option exponentiation.threshold 5000
namespace HR
open PySem PySem.Spec PyProof.Rows L2
/-! ### list(zip(a, b)) -/
section
variable {X : Cx} {pins : List (Addr × Obj)} {σ : L2.St} {H H' : Hp} {s : Shared} {h' : Heap} {t' : Nat}
/-- many new objects at once -/
theorem inv_laidM (I : Inv X pins σ H s) (k : ∀ b u, s.heap.get? b = some u → h'.get? b = some u) (q : ∀ b, H' b = H b ∨ (H b = none ∧ s.heap.get? b = none ∧ ∃ o, H' b = some o ∧ ObjOk X.prog X.w H' h' b o)) : Inv X pins σ H' { s with heap := h', toks := t' } := by
  have same : ∀ {b : Addr} {o : HO}, H b = some o → H' b = some o := fun {b o} e => by
    rcases q b with z | ⟨n, _⟩
    · rw [z, e]
    · rw [e] at n; cases n
  refine I.un { keep := fun b u e _ _ _ => k b u e, slot := fun b u e _ _ _ => ⟨u.slots, k b u e⟩, free := fun b u e n _ => ?_, there := fun b u e _ => ⟨u, k b u e⟩, tups := fun b xs e => same e, frzs := fun b o u e => same e, tbls := fun b ps e => ⟨#[], by rw [same e]; simp⟩ } fun b u e => ?_
  · rcases q b with z | ⟨_, n2, _⟩
    · rw [z, n]
    · rw [e] at n2; cases n2
  · rcases q b with z | ⟨_, _, o, e2, ok⟩
    · rw [z] at e
      exact (I.hok b u e).stay (fun c v _ e => k c v e) (fun c e => same e) fun c xs e => same e
    · rw [e] at e2
      cases e2
      exact ok
end
def updP (H : Hp) : List (Addr × V × V) → Hp
  | [] => H
  | (a, x, y) :: r => upd (updP H r) a (.tup [x, y])
theorem updP_no {H : Hp} {b : Addr} : ∀ {ps : List (Addr × V × V)}, b ∉ ps.map (·.1) → updP H ps b = H b
  | [], _ => rfl
  | (a, x, y) :: r, h => by
    have h1 : b ≠ a := fun e => h (by simp [e])
    have h2 : b ∉ r.map (·.1) := fun e => h (by simp at e ⊢; exact .inr e)
    rw [updP, upd_ne h1, updP_no h2]
theorem updP_at {H : Hp} {a : Addr} {x y : V} : ∀ {ps : List (Addr × V × V)}, (ps.map (·.1)).Nodup → (a, x, y) ∈ ps → updP H ps a = some (.tup [x, y])
  | (b, u, v) :: r, nd, h => by
    rw [List.map_cons] at nd
    obtain ⟨n1, n2⟩ := List.nodup_cons.mp nd
    rcases List.mem_cons.mp h with e | h
    · cases e
      rw [updP, upd_same]
    · have : a ≠ b := fun e => n1 (by rw [← e]; exact List.mem_map.mpr ⟨_, h, rfl⟩)
      rw [updP, upd_ne this, updP_at n2 h]
def tZipL (K : PySem.W.Frag) (ta tb : TE) : TE := fun σ H Q => ta σ H fun x H1 => tb σ H1 fun y H2 => ∃ (l1 l2 : Addr) (xs ys : List V), x = .ref l1 ∧ y = .ref l2 ∧ SqL K H2 l1 xs ∧ SqL K H2 l2 ys ∧
  ∀ (Ts : List Addr) (p : Addr), Ts.length = (xs.zip ys).length → (∀ t ∈ Ts, H2 t = none) → Ts.Nodup → p ∉ Ts → H2 p = none → Q (.ref p) (upd (updP H2 (Ts.zip (xs.zip ys))) p (.lst (Ts.map V.ref)))
theorem refs_of : ∀ l : List Value, (∀ v ∈ l, ∃ T : Addr, v = Value.ref T) → ∃ Ts : List Addr, l = Ts.map Value.ref
  | [], _ => ⟨[], rfl⟩
  | v :: l, h => by
    obtain ⟨T, rfl⟩ := h v List.mem_cons_self
    obtain ⟨Ts, e⟩ := refs_of l fun u hu => h u (List.mem_cons_of_mem _ hu)
    exact ⟨T :: Ts, by rw [e]; rfl⟩
theorem vals_refs : ∀ Ts : List Addr, Vals (Ts.map V.ref) (Ts.map Value.ref)
  | [] => .nil
  | T :: Ts => .cons rfl (vals_refs Ts)
section
variable {X : Cx}
theorem pe_listZip {a b : Expr} {ta tb : TE} {p p2 q pos : Pos} (hc : X.calm = true) (hg : Gl X "list") (hm : X.mg "list" = none) (hg2 : Gl X "zip") (hm2 : X.mg "zip" = none) (ha : PE X a ta) (hb : PE X b tb)
    (nl : starEach [.Call (.Name "zip" p2) [a, b] [] q] X.env = (false, eval (.Call (.Name "zip" p2) [a, b] [] q) X.env) :: starEach [] X.env)
    (na : starEach [a, b] X.env = (false, eval a X.env) :: starEach [b] X.env) (nb : starEach [b] X.env = (false, eval b X.env) :: starEach [] X.env) (hp : (backTo q (starEach [b] X.env)).any (·.1) = false) :
    PE X (.Call (.Name "list" p) [.Call (.Name "zip" p2) [a, b] [] q] [] pos) (tZipL X.K ta tb) := by
  refine ⟨fun pins s σ H Q I h => ?_⟩
  refine Call_ (ld_blt I hg hm boot_list (callWith_type1 (args_cons ?_ nl) nl))
  refine Call_ (ld_blt I hg2 hm2 boot_zip (callWith_type1 (args_cons (thn (ha.run pins s σ H _ I h) fun v s1 ⟨x, H1, I1, r1, q1⟩ => one_arg hb I1 q1 (fun u s2 y H2 I2 r2 q2 => ?_) nb) na) na hp))
  obtain ⟨l1, l2, xs, ys, rfl, rfl, hx, hy, fin⟩ := q2
  cases (show v = Value.ref l1 from r1)
  cases (show u = Value.ref l2 from r2)
  obtain ⟨it1, rv1, pl1, z1⟩ := I2.list hx
  obtain ⟨it2, rv2, pl2, z2⟩ := I2.list hy
  have il1 := pl1.isList
  have il2 := pl2.isList
  have lt1 : l1 < s2.heap.objs.size := let ⟨_, e, _⟩ := il1; Heap.lt_size e
  have lt2 : l2 < s2.heap.objs.size := let ⟨_, e, _⟩ := il2; Heap.lt_size e
  refine zip_begins2 (begins_list l1 it1.toArray) (begins_list l2 it2.toArray) il1 il2 fun h' hz hTI hTO g1 g2 hsz hk => ?_
  refine args_nil ?_
  have D := PySem.W.ktu_apart s2.heap.objs.size l1 l2 lt1 lt2
  have e1 : it1.length = xs.length := (Paired.length rv1).symm
  have e2 : it2.length = ys.length := (Paired.length rv2).symm
  have hmin : min it1.toArray.size it2.toArray.size = (xs.zip ys).length := by simp [e1, e2]
  refine call_list_zip (A := X.A) (s := { s2 with heap := h' }) (I2.ok.hd hc) D (by rw [hmin, List.length_zip]; omega) hz hTI hTO ⟨_, g1, rfl, rfl⟩ ⟨_, g2, rfl, rfl⟩ (il1.at fun o e => hk _ o e) (il2.at fun o e => hk _ o e) fun h2 acc c' hk2 hl hacc => ?_
  have accE : ∀ (j : Nat) (v : Value), acc[j]? = some v → ∃ (T : Addr) (x y : V), v = Value.ref T ∧ (xs.zip ys)[j]? = some (x, y) ∧ ObjOk X.prog X.w H2 h2 T (.tup [x, y]) ∧ s2.heap.objs.size ≤ T ∧ T ≠ h'.objs.size ∧ ∀ k : Nat, acc[k]? = some v → k = j := fun j v e => by
    obtain ⟨T, x, y, a1, a2, a3, a4, a5, _, _, _, _, a6, a7⟩ := hacc.2 j v e
    have jx : j < xs.length := by
      have := (Array.getElem?_eq_some_iff.mp a2).1
      rw [List.size_toArray, e1] at this
      exact this
    have jy : j < ys.length := by
      have := (Array.getElem?_eq_some_iff.mp a3).1
      rw [List.size_toArray, e2] at this
      exact this
    obtain ⟨u1, b1, c1⟩ := rv1.get (i := j) (x := xs[j]) (by simp [jx])
    obtain ⟨u2, b2, c2⟩ := rv2.get (i := j) (x := ys[j]) (by simp [jy])
    have f1 : u1 = x := by
      have : it1[j]? = some x := by simpa using a2
      rw [b1] at this
      exact Option.some.inj this
    have f2 : u2 = y := by
      have : it2[j]? = some y := by simpa using a3
      rw [b2] at this
      exact Option.some.inj this
    subst f1 f2
    refine ⟨T, xs[j], ys[j], a1, by simp [List.getElem?_zip_eq_some, jx, jy], ⟨by show 2 ≤ sizeLine; rw [sizeLine_eq]; omega, [u1, u2], .cons c1 (.cons c2 .nil), ⟨_, a4, rfl, _, rfl⟩⟩, ?_, a6, a7⟩
    have : h'.objs.size ≤ T := a5
    omega
  obtain ⟨Ts, eT⟩ := refs_of acc.toList fun v hv => by
    obtain ⟨j, hj⟩ := List.mem_iff_getElem?.mp hv
    obtain ⟨T, _, _, e, _⟩ := accE j v (by simpa using hj)
    exact ⟨T, e⟩
  have atT : ∀ (j : Nat) (T : Addr), Ts[j]? = some T → acc[j]? = some (Value.ref T) := fun j T e => by
    have : acc.toList[j]? = some (Value.ref T) := by rw [eT]; simp [e]
    simpa using this
  have lenT : Ts.length = (xs.zip ys).length := by
    have a := congrArg List.length eT
    rw [List.length_map, Array.length_toList, hacc.1, hmin] at a
    exact a.symm
  have inf : ∀ (j : Nat) (T : Addr), Ts[j]? = some T → ∃ x y : V, (xs.zip ys)[j]? = some (x, y) ∧ ObjOk X.prog X.w H2 h2 T (.tup [x, y]) ∧ s2.heap.objs.size ≤ T ∧ T ≠ h'.objs.size ∧ ∀ k : Nat, Ts[k]? = some T → k = j := fun j T e => by
    obtain ⟨T2, x, y, a1, a2, a3, a4, a5, a6⟩ := accE j _ (atT j T e)
    cases a1
    exact ⟨x, y, a2, a3, a4, a5, fun k ek => a6 k (atT k T ek)⟩
  have nd : Ts.Nodup := by
    refine List.pairwise_iff_getElem.mpr fun i j hi hj hij e => ?_
    obtain ⟨_, _, _, _, _, _, u⟩ := inf i Ts[i] (by simp [hi])
    have := u j (by rw [e]; simp [hj])
    omega
  have fst : (Ts.zip (xs.zip ys)).map (·.1) = Ts := by
    have := List.map_fst_zip (l₁ := Ts) (l₂ := xs.zip ys) (by omega)
    exact this
  have pT : h'.objs.size ∉ Ts := fun h => by
    obtain ⟨j, hj⟩ := List.mem_iff_getElem?.mp h
    obtain ⟨_, _, _, _, _, n, _⟩ := inf j _ hj
    exact n rfl
  have fr : ∀ t ∈ Ts, H2 t = none := fun t ht => by
    obtain ⟨j, hj⟩ := List.mem_iff_getElem?.mp ht
    obtain ⟨_, _, _, _, n, _⟩ := inf j _ hj
    exact I2.hok.fresh n
  have pf : H2 h'.objs.size = none := I2.hok.fresh (by omega)
  have no : ∀ {b : Addr}, s2.heap.objs.size ≤ b → s2.heap.get? b = none := fun {b} hb => by
    cases e : s2.heap.get? b with
    | none => rfl
    | some o => exact absurd (Heap.lt_size e) (Nat.not_lt.mpr hb)
  refine ⟨.ref h'.objs.size, _, (show L2.Inv X pins σ (upd (updP H2 (Ts.zip (xs.zip ys))) h'.objs.size (.lst (Ts.map V.ref))) { s2 with heap := h2, toks := s2.toks } from inv_laidM (t' := s2.toks) I2 (fun b u e => ?_) (H' := upd (updP H2 (Ts.zip (xs.zip ys))) h'.objs.size (.lst (Ts.map V.ref))) (fun b => ?_)), rfl, fin Ts h'.objs.size lenT fr nd pT pf⟩
  · have lb := Heap.lt_size e
    exact hk2 b u (Nat.ne_of_lt (Nat.lt_add_right 4 lb)) (Nat.ne_of_lt (Nat.lt_add_right 3 lb)) (Nat.ne_of_lt lb) (Nat.ne_of_lt (Nat.lt_add_right 1 lb)) (hk b u e)
  · by_cases hbp : b = h'.objs.size
    · subst hbp
      refine .inr ⟨pf, no (by omega), _, upd_same, ?_, acc.toList, c', ?_, ?_⟩
      · rw [List.length_map, lenT, List.length_zip]
        omega
      · rw [eT]
        exact vals_refs Ts
      · rw [Array.toArray_toList]
        exact hl
    · rw [upd_ne hbp]
      by_cases hbT : b ∈ Ts
      · obtain ⟨j, hj⟩ := List.mem_iff_getElem?.mp hbT
        obtain ⟨x, y, a2, a3, a4, a5, _⟩ := inf j b hj
        have mem : (b, x, y) ∈ Ts.zip (xs.zip ys) := List.mem_iff_getElem?.mpr ⟨j, by simp [List.getElem?_zip_eq_some, hj, a2]⟩
        refine .inr ⟨fr b hbT, no a4, _, updP_at (by rw [fst]; exact nd) mem, ?_⟩
        exact a3
      · exact .inl (updP_no (by rw [fst]; exact hbT))
end
end HR
set_option Elab.async false
set_option linter.all false
set_option maxRecDepth 20000
set_option exponentiation.threshold 5000
namespace HR
open PySem PySem.Spec PyProof.Rows L2
/-! ### list(zip(a, b)), as a value -/
section
variable {K : PySem.W.Frag} {P : Pins} {m : List Addr} {h : OH} {H : Hp}
theorem sim_zip : ∀ (vs ws : List V) (xs ys : List D) (Ts : List Addr) {F : Hp}, Ts.length = (vs.zip ws).length → (∀ t ∈ Ts, H t = none) → Ts.Nodup → Sim K P F m h H → DenL K F m vs xs → DenL K F m ws ys →
    ∃ F', Ext F m F' m ∧ Sim K P F' m h (updP H (Ts.zip (vs.zip ws))) ∧ DenL K F' m (Ts.map V.ref) ((xs.zip ys).map fun p => .tup [p.1, p.2])
  | [], ws, xs, ys, Ts, F, hl, hf, nd, S, r1, r2 => by
    cases r1
    obtain rfl : Ts = [] := List.eq_nil_of_length_eq_zero (by simpa using hl)
    exact ⟨F, .refl, S, .nil⟩
  | v :: vs, [], xs, ys, Ts, F, hl, hf, nd, S, r1, r2 => by
    cases r1
    cases r2
    obtain rfl : Ts = [] := List.eq_nil_of_length_eq_zero (by simpa using hl)
    exact ⟨F, .refl, S, .nil⟩
  | v :: vs, w :: ws, xs, ys, Ts, F, hl, hf, nd, S, r1, r2 => by
    cases r1 with
    | cons a1 a2 =>
      cases r2 with
      | cons b1 b2 =>
        cases Ts with
        | nil => simp at hl
        | cons t Ts =>
          obtain ⟨n1, n2⟩ := List.nodup_cons.mp nd
          have hl2 : Ts.length = (vs.zip ws).length := by simpa using hl
          obtain ⟨F1, x1, S1, r3⟩ := sim_zip vs ws _ _ Ts hl2 (fun u hu => hf u (List.mem_cons_of_mem _ hu)) n2 S a2 b2
          have fst : (Ts.zip (vs.zip ws)).map (·.1) = Ts := List.map_fst_zip (by omega)
          have ft : updP H (Ts.zip (vs.zip ws)) t = none := by
            rw [updP_no (by rw [fst]; exact n1)]
            exact hf t List.mem_cons_self
          have x2 := S1.extF (o := .tup [v, w]) ft
          refine ⟨_, x1.trans x2, S1.frozen (o := .tup [v, w]) ft, ?_⟩
          exact .cons (.tup upd_same (.cons (a1.mono (x1.trans x2)) (.cons (b1.mono (x1.trans x2)) .nil))) (r3.mono x2)
end
def sLstZip (fa fb : SE) : SE := fun e h => (fa e h).bind fun x h1 => (fb e h1).bind fun y h2 => match lsqAt h2 x, lsqAt h2 y with
  | some xs, some ys => .ok (.lst ((xs.zip ys).map fun p => .tup [p.1, p.2])) h2
  | _, _ => .bad
section
variable {X : Cx} {W : WX}
theorem de_lstZip {a b : Expr} {fa fb : SE} {p p2 q pos : Pos} (hc : X.calm = true) (hg : Gl X "list") (hm : X.mg "list" = none) (hg2 : Gl X "zip") (hm2 : X.mg "zip" = none) (ha : DE X W a fa) (hb : DE X W b fb)
    (nl : starEach [.Call (.Name "zip" p2) [a, b] [] q] X.env = (false, eval (.Call (.Name "zip" p2) [a, b] [] q) X.env) :: starEach [] X.env := by rfl)
    (na : starEach [a, b] X.env = (false, eval a X.env) :: starEach [b] X.env := by rfl) (nb : starEach [b] X.env = (false, eval b X.env) :: starEach [] X.env := by rfl) (hp : (backTo q (starEach [b] X.env)).any (·.1) = false := by rfl) :
    DE X W (.Call (.Name "list" p) [.Call (.Name "zip" p2) [a, b] [] q] [] pos) (sLstZip fa fb) := PE.of (pe_listZip hc hg hm hg2 hm2 ha hb nl na nb hp) fun σ H Q => by
  rintro ⟨P, F, m, e, h, S, E, fin⟩
  refine rd_seq S E fin fun F1 m1 h1 H1 v d x1 S1 E1 r1 fin1 => ?_
  refine rd_seq S1 E1 fin1 fun F2 m2 h2 H2 v2 d2 x2 S2 E2 r2 fin2 => ?_
  have r1 := r1.mono x2
  cases q1 : lsqAt h2 d with
  | none => rw [q1] at fin2; exact fin2.bad_elim
  | some xs =>
    rw [q1] at fin2
    cases q2 : lsqAt h2 d2 with
    | none => rw [q2] at fin2; exact fin2.bad_elim
    | some ys =>
      rw [q2] at fin2
      dsimp only at fin2
      obtain ⟨l1, vs, rfl, s1, d1⟩ := lsqAt_ok S2 r1 q1
      obtain ⟨l2, ws, rfl, s2, e2⟩ := lsqAt_ok S2 r2 q2
      refine ⟨l1, l2, vs, ws, rfl, rfl, s1, s2, fun Ts p hl hf nd hpT hpn => ?_⟩
      obtain ⟨F3, x3, S3, r3⟩ := sim_zip vs ws xs ys Ts hl hf nd S2 d1 e2
      have fst : (Ts.zip (vs.zip ws)).map (·.1) = Ts := List.map_fst_zip (by omega)
      have ft : updP H2 (Ts.zip (vs.zip ws)) p = none := by
        rw [updP_no (by rw [fst]; exact hpT)]
        exact hpn
      have x4 := S3.extF (o := .lst (Ts.map V.ref)) ft
      exact fin2.okX (x3.trans x4) (S3.frozen ft) (.lst upd_same (r3.mono x4))
end
section
variable {PD : D → OH → Prop}
@[simp] theorem W_lstZip (fa fb : SE) (e : Env') (h : OH) : (sLstZip fa fb e h).W PD = (fa e h).W fun x h1 => (fb e h1).W fun y h2 => match lsqAt h2 x, lsqAt h2 y with
  | some xs, some ys => PD (.lst ((xs.zip ys).map fun p => .tup [p.1, p.2])) h2
  | _, _ => False := by
  unfold sLstZip; rw [W_bind]; congr; funext d h1
  rw [W_bind]; congr; funext d2 h2
  cases lsqAt h2 d with
  | none => rfl
  | some xs => cases lsqAt h2 d2 <;> rfl
@[simp] theorem W_lstRg (fa fb : SE) (e : Env') (h : OH) : (sLstRg fa fb e h).W PD = (fa e h).W fun x h1 => (fb e h1).W fun y h2 => match x, y with
  | .int i, .int j => if 0 ≤ i ∧ i ≤ 1000000 ∧ 0 ≤ j ∧ j ≤ 1000000 then PD (.lst ((List.range (j - i).toNat).map fun k => .int (i + (k : Nat)))) h2 else False
  | _, _ => False := by
  unfold sLstRg; rw [W_bind]; congr; funext d h1
  rw [W_bind]; congr; funext d2 h2
  cases d <;> cases d2 <;> first | rfl | (dsimp only; split <;> rfl)
end
end HR
set_option Elab.async false
set_option linter.all false
set_option maxRecDepth 20000
set_option exponentiation.threshold 5000
namespace HR
open PySem PySem.Spec PyProof.Rows L2
/-! ### an own list, held in a name, is from here on a value -/
def sFrz (i : Nat) (f : SS) : SS := fun e h => match e[i]? with
  | some (some (.ref j)) => (match h[j]? with
    | some (.lst xs) => f (e.set i (some (.lst xs))) (h.set j .dead)
    | _ => .bad)
  | _ => .bad
section
variable {X : Cx} {W : WX}
theorem rdS_frz {K : PySem.W.Frag} {i : Nat} {f : SS} {Dn : Ends} {σ : L2.St} {H : Hp} (q : rdS K W (sFrz i f) Dn σ H) : rdS K W f Dn σ H := by
  obtain ⟨P, F, m, e, h, S, E, fin⟩ := q
  unfold sFrz at fin
  cases q1 : e[i]? with
  | none => rw [q1] at fin; exact fin.elim
  | some od =>
    cases od with
    | none => rw [q1] at fin; exact fin.elim
    | some d =>
      obtain ⟨v, ev, r⟩ := E.at_ i d q1
      cases r with
      | @ref b j e1 =>
        rw [q1] at fin
        obtain ⟨o, k1, k2⟩ := S.own e1
        dsimp only at fin
        rw [k1] at fin
        cases o with
        | lst xs =>
          obtain ⟨vs, k3, k4, k5⟩ := k2
          have x : Ext F m (upd F b (.lst vs)) m := ext_frz k5
          refine ⟨P, _, m, e.set i (some (.lst xs)), h.set j .dead, S.freeze e1 k5 k3, ⟨by rw [List.length_set]; exact E.len, fun k d ed => ?_⟩, FinS.weak x fin⟩
          by_cases hk : k = i
          · subst hk
            rw [List.getElem?_set_self (List.getElem?_eq_some_iff.mp q1).1] at ed
            cases ed
            exact ⟨_, ev, .lst upd_same (k4.mono x)⟩
          · rw [List.getElem?_set_ne (Ne.symm hk)] at ed
            obtain ⟨v2, a, c⟩ := E.at_ k d ed
            exact ⟨v2, a, c.mono x⟩
        | _ => exact fin.elim
      | _ => rw [q1] at fin; exact fin.elim
theorem dss_frz {i : Nat} {ss : List Stmt} {f : SS} (h : DSs X W ss f) : DSs X W ss (sFrz i f) := PSs.of h fun Dn σ H q => rdS_frz q
end
theorem SW_frz {N C B : Env' → OH → Prop} {R : D → OH → Prop} {i j : Nat} {f : SS} {e : Env'} {h : OH} {xs : List D} (h1 : e[i]? = some (some (.ref j))) (h2 : h[j]? = some (.lst xs)) : (sFrz i f e h).W N C B R = (f (e.set i (some (.lst xs))) (h.set j .dead)).W N C B R := by
  unfold sFrz
  rw [h1]
  dsimp only
  rw [h2]
end HR
set_option Elab.async false
set_option linter.all false
set_option maxRecDepth 20000
set_option exponentiation.threshold 5000
namespace HR
open PySem PySem.Spec PyProof.Rows L2
/-! ### sorted(triples of small ints) -/
abbrev T3 := Int × Int × Int
def B6 : Int := 1000000
def ns3 (p : T3) : List Int := [p.1, p.2.1, p.2.2]
def cd3 (p : T3) : Int := TS.code B6 (ns3 p)
def ok3 (p : T3) : Bool := decide (0 ≤ p.1 ∧ p.1 < B6 ∧ 0 ≤ p.2.1 ∧ p.2.1 < B6 ∧ 0 ≤ p.2.2 ∧ p.2.2 < B6)
def d3 (p : T3) : D := .tup [.int p.1, .int p.2.1, .int p.2.2]
def ins3 (x : T3) : List T3 → List T3
  | [] => [x]
  | y :: ys => if cd3 x ≤ cd3 y then x :: y :: ys else y :: ins3 x ys
def sort3 : List T3 → List T3
  | [] => []
  | x :: xs => ins3 x (sort3 xs)
def tripOf : D → Option T3
  | .tup [.int a, .int b, .int c] => some (a, b, c)
  | _ => none
def tripsOf : List D → Option (List T3)
  | [] => some []
  | x :: xs => match tripOf x, tripsOf xs with
    | some p, some ps => some (p :: ps)
    | _, _ => none
@[simp] theorem tripsOf_map (ps : List T3) : tripsOf (ps.map d3) = some ps := by
  induction ps with
  | nil => rfl
  | cons p ps ih => simp only [List.map_cons, tripsOf, ih]; rfl
def opSort3 : D → OH → Res D := fun d h => match (lsqAt h d).bind tripsOf with
  | some ts => if ts.all ok3 = true ∧ ts.length < 64 then .ok (.lst ((sort3 ts).map d3)) h else .bad
  | none => .bad
section
variable {PD : D → OH → Prop}
@[simp] theorem W_sort3 (d : D) (h : OH) : (opSort3 d h).W PD = match (lsqAt h d).bind tripsOf with
  | some ts => if ts.all ok3 = true ∧ ts.length < 64 then PD (.lst ((sort3 ts).map d3)) h else False
  | none => False := by
  unfold opSort3
  cases (lsqAt h d).bind tripsOf with
  | none => rfl
  | some ts => dsimp only; split <;> rfl
end
end HR
set_option Elab.async false
set_option linter.all false
set_option maxRecDepth 20000
set_option exponentiation.threshold 5000
namespace HR
open PySem PySem.Spec PyProof.Rows L2
/-! ### a[i], b[j] = x, y for own lists -/
section
variable {X : Cx} {W : WX}
def putL (o i : SE) (y : D) (k : SS) : SS := fun e h => (o e h).toS e fun x h2 => (i e h2).toS e fun kk h3 => match x, kk with
  | .ref n, .int j => (match h3[n]? with
    | some (.lst xs) => (match ixN xs.length j with
      | some q => k e (h3.set n (.lst (xs.set q y)))
      | none => .bad)
    | _ => .bad)
  | _, _ => .bad
def sSubL (o1 i1 o2 i2 v : SE) : SS := fun e h => (v e h).toS e fun y h1 => match y with
  | .tup [y1, y2] => putL o1 i1 y1 (putL o2 i2 y2 fun e h => .nx e h) e h1
  | _ => .bad
end
section
variable {N C B : Env' → OH → Prop} {R : D → OH → Prop}
@[simp] theorem SW_putL (o i : SE) (y : D) (k : SS) (e : Env') (h : OH) : (putL o i y k e h).W N C B R = (o e h).W fun x h2 => (i e h2).W fun kk h3 => match x, kk with
  | .ref n, .int j => lkL h3[n]? fun xs => lkS (ixN xs.length j) fun q => (k e (h3.set n (.lst (xs.set q y)))).W N C B R
  | _, _ => False := by
  unfold putL
  simp only [W_toS]
  congr; funext x h2; congr; funext kk h3
  cases x <;> cases kk <;> first | rfl | skip
  rename_i n j
  dsimp only
  cases h3[n]? with
  | none => rfl
  | some o => cases o with
    | lst xs => simp only [lkL_lst]; cases ixN xs.length j <;> rfl
    | _ => rfl
@[simp] theorem SW_subL (o1 i1 o2 i2 v : SE) (e : Env') (h : OH) : (sSubL o1 i1 o2 i2 v e h).W N C B R = (v e h).W fun y h1 => match y with
  | .tup [y1, y2] => (putL o1 i1 y1 (putL o2 i2 y2 fun e h => .nx e h) e h1).W N C B R
  | _ => False := by
  unfold sSubL
  simp only [W_toS]
  congr; funext y h1
  split <;> rfl
end
end HR
set_option Elab.async false
set_option linter.all false
set_option maxRecDepth 20000
set_option maxHeartbeats 1000000
/-! enumerate over an own list, which keeps its length meanwhile -/
namespace HR
open PySem L2 RZ
section
variable {X : Cx} {W : WX}
/-- j rounds are left of n -/
def forE (g : TF) (b : SS) (i n : Nat) : Nat → SS
  | 0 => fun e h => match h[i]? with
    | some (.lst ys) => if ys.length = n then .nx e h else .bad
    | _ => .bad
  | j + 1 => fun e h => match h[i]? with
    | some (.lst ys) => if ys.length = n then (match ys[n - (j + 1)]? with
      | some d => (match g (.tup [.int ((n - (j + 1) : Nat) : Int), d]) e h with
        | none => .bad
        | some e1 => (match b e1 h with
          | .nx e2 h2 => forE g b i n j e2 h2
          | .ct e2 h2 => forE g b i n j e2 h2
          | .bk e2 h2 => .nx e2 h2
          | r => r))
      | none => .bad) else .bad
    | _ => .bad
def sForE (f : SE) (g : TF) (b : SS) : SS := fun e h => (sRefL f e h).toS e fun i h1 => match h1[i]? with
  | some (.lst xs) => forE g b i xs.length xs.length e h1
  | _ => .bad
end
section
variable {N C B : Env' → OH → Prop} {R : D → OH → Prop}
@[simp] theorem SW_forE (f : SE) (g : TF) (b : SS) (e : Env') (h : OH) : (sForE f g b e h).W N C B R = (f e h).W fun d h1 => isR d fun i => lkO h1[i]? fun xs => (forE g b i xs.length xs.length e h1).W N C B R := by
  unfold sForE
  rw [W_toS, W_refL]
  congr; funext d h1; congr; funext i
  rcases h1[i]? with _ | o
  · rfl
  · cases o <;> rfl
end
end HR
set_option Elab.async false
set_option linter.all false
/-! the plain functions -/
namespace HR
open PySem L2
namespace Sh
/-- is_integer -/
def is_integer_b : SS := (sSeq (sIfS (sOr (sNot (sTest (sIsi ["int"] (sVar 0)))) (sTest (sIsi ["bool"] (sVar 0)))) (sRet (sC (.bl false))) sNext) (sRet (sAndV (sBin opGe (sVar 0) (sVar 1)) (sOrV (sBin (opIs false) (sVar 2) (sC .non)) (sBin opLe (sVar 0) (sVar 2))))))
def is_integer : FN := fnOf 3 is_integer_b
/-- is_sequence -/
def is_sequence_b : SS := (sRet (sIsi ["list", "tuple"] (sVar 0)))
def is_sequence : FN := fnOf 1 is_sequence_b
/-- is_name -/
def is_name_b : SS := (sRet (sAndV (sIsi ["str"] (sVar 0)) (sAndV (sChain opLe opLe (sC (.int 1)) (sCall bLen (sCons (sVar 0) sNil)) (sC (.int (8)))) (sCall (b1 opAll) (sCons (sLc false (sIt (sVar 0)) (gN 1) sYes (sBin (opInS false) (sVar 1) (sC (.str "abcdefghijklmnopqrstuvwxyz"))) [1]) sNil)))))
def is_name : FN := fnOf 2 is_name_b
/-- _law_draw -/
def l_draw_b : SS := (sSeq (sIfS (sTest (sBin opGt (sBin opIx (sVar 0) (sC (.int 0))) (sC (.int 0)))) (sSeq (sSet 2 (sBin opMod (sBin opIx (sVar 0) (sC (.int 0))) (sVar 1))) (sSeq (sIxS (sVar 0) (sC (.int 0)) (sBin opDiv (sBin opIx (sVar 0) (sC (.int 0))) (sVar 1))) (sRet (sVar 2)))) sNext) (sSeq (sIxS (sVar 0) (sC (.int 2)) (sBin opAdd (sBin opIx (sVar 0) (sC (.int 2))) (sC (.int 1)))) (sSeq (sSet 3 (sBin opMod (sBin opMul (sBin opIx (sVar 0) (sC (.int 1))) (sBin opIx (sVar 0) (sC (.int 1)))) (sC (.int 2305843009213693951)))) (sSeq (sIxS (sVar 0) (sC (.int 1)) (sBin opMod (sBin opAdd (sBin opAdd (sVar 3) (sBin opMul (sBin opMul (sC (.int 7919)) (sBin opIx (sVar 0) (sC (.int 2)))) (sBin opIx (sVar 0) (sC (.int 1))))) (sC (.int 104729))) (sC (.int 2305843009213693951)))) (sRet (sBin opMod (sBin opDiv (sBin opIx (sVar 0) (sC (.int 1))) (sC (.int 65537))) (sVar 1)))))))
def l_draw : FN := fnOf 4 l_draw_b
/-- _law_dressed -/
def l_dressed_b (rec_ : FN) : SS := (sSeq (sIfS (sNot (sTest (sIsi ["list", "tuple"] (sVar 1)))) (sRet (sVar 1)) sNext) (sSeq (sSet 2 (sLc false (sIt (sVar 1)) (gN 3) sYes (sCall (withD [] rec_) (sCons (sVar 0) (sCons (sVar 3) sNil))) [3])) (sRet (sIf (sTest (sBin (opEq false) (sCall (withD [] Sh.l_draw) (sCons (sVar 0) (sCons (sC (.int 2)) sNil))) (sC (.int 0)))) (sVar 2) (sCall (b1 opTuple) (sCons (sVar 2) sNil))))))
def l_dressed_n : Nat → FN
  | 0 => fun _ _ => .bad
  | j + 1 => fnOf 4 (l_dressed_b (l_dressed_n j))
/-- _law_draw -/
def l_draw_1_b : SS := (sSeq (sIfS (sTest (sBin (opNil true) (sBin opIx (sVar 0) (sC (.int 0))) (sLst sNil))) (sSeq (sSet 2 (sBin opIx (sBin opIx (sVar 0) (sC (.int 0))) (sC (.int 0)))) (sSeq (sIxS (sVar 0) (sC (.int 0)) (sBin opAdd (sBin opMul (sLst (sCons (sBin opDiv (sVar 2) (sVar 1)) sNil)) (sCall (b1 opInt) (sCons (sBin opGe (sVar 2) (sVar 1)) sNil))) (sCut false (sBin opIx (sVar 0) (sC (.int 0))) (sPart (sC (.int 1))) sNoPart))) (sRet (sBin opMod (sVar 2) (sVar 1))))) sNext) (sSeq (sIxS (sVar 0) (sC (.int 2)) (sBin opAdd (sBin opIx (sVar 0) (sC (.int 2))) (sC (.int 1)))) (sSeq (sSet 3 (sBin opIx (sBin opIx (sVar 0) (sC (.int 1))) (sBin opMod (sBin opIx (sVar 0) (sC (.int 2))) (sCall bLen (sCons (sBin opIx (sVar 0) (sC (.int 1))) sNil))))) (sSeq (sSet 4 (sBin opAdd (sBin opAdd (sBin opMul (sBin opIx (sVar 0) (sC (.int 3))) (sBin opIx (sVar 0) (sC (.int 3)))) (sBin opMul (sBin opAdd (sVar 3) (sC (.int 5))) (sC (.int 92821)))) (sBin opMul (sBin opIx (sVar 0) (sC (.int 2))) (sC (.int 1000039))))) (sSeq (sIxS (sVar 0) (sC (.int 3)) (sBin opMod (sVar 4) (sBin opSub (sBin opMul (sBin opPow (sC (.int 2)) (sC (.int 64))) (sBin opPow (sC (.int 2)) (sC (.int 63)))) (sC (.int 1))))) (sRet (sBin opMod (sBin opDiv (sBin opIx (sVar 0) (sC (.int 3))) (sBin opPow (sC (.int 2)) (sC (.int 41)))) (sVar 1))))))))
def l_draw_1 : FN := fnOf 5 l_draw_1_b
/-- _law_dressed -/
def l_dressed_1_b (rec_ : FN) : SS := (sSeq (sIfS (sNot (sTest (sIsi ["list", "tuple"] (sVar 1)))) (sRet (sVar 1)) sNext) (sSeq (sSet 2 (sLc false (sIt (sVar 1)) (gN 3) sYes (sCall (withD [] rec_) (sCons (sVar 0) (sCons (sVar 3) sNil))) [3])) (sRet (sIf (sTest (sBin (opEq false) (sCall (withD [] Sh.l_draw_1) (sCons (sVar 0) (sCons (sC (.int 2)) sNil))) (sC (.int 0)))) (sVar 2) (sCall (b1 opTuple) (sCons (sVar 2) sNil))))))
def l_dressed_1_n : Nat → FN
  | 0 => fun _ _ => .bad
  | j + 1 => fnOf 4 (l_dressed_1_b (l_dressed_1_n j))
/-- is_member -/
def is_member_b : SS := (sRet (sAndV (sCall (withD [] (pureF Sh.is_sequence)) (sCons (sVar 0) sNil)) (sAndV (sBin (opEq false) (sCall bLen (sCons (sVar 0) sNil)) (sC (.int 2))) (sAndV (sCall (withD [] (pureF Sh.is_name)) (sCons (sBin opIx (sVar 0) (sC (.int 0))) sNil)) (sCall (withD [] (pureF Sh.is_integer)) (sCons (sBin opIx (sVar 0) (sC (.int 1))) (sCons (sC (.int 1)) (sCons (sC (.int (10))) sNil))))))))
def is_member : FN := fnOf 1 is_member_b
/-- check_members -/
def check_members_b : SS := (sSeq (sIfS (sOr (sNot (sTest (sCall (withD [] (pureF Sh.is_sequence)) (sCons (sVar 0) sNil)))) (sOr (sTest (sBin opGt (sCall bLen (sCons (sVar 0) sNil)) (sC (.int (10))))) (sNot (sTest (sCall (b1 opAll) (sCons (sLc false (sIt (sVar 0)) (gN 1) sYes (sCall (withD [] (pureF Sh.is_member)) (sCons (sVar 1) sNil)) [1]) sNil)))))) (sRaise "InvalidMembers") sNext) (sIfS (sTest (sBin opLt (sLenSet (sLc false (sIt (sVar 0)) (gN 1) sYes (sBin opIx (sVar 1) (sC (.int 0))) [1])) (sCall bLen (sCons (sVar 0) sNil)))) (sRaise "InvalidMembers") sNext))
def check_members : FN := fnOf 2 check_members_b
/-- is_item -/
def is_item_b : SS := (sRet (sOrV (sBin (opIs false) (sVar 0) (sC .non)) (sAndV (sIsi ["str"] (sVar 0)) (sBin (opInL false) (sVar 0) (sVar 1)))))
def is_item : FN := fnOf 2 is_item_b
/-- check_record -/
def check_record_b : SS := (sSeq (sIfS (sOr (sNot (sTest (sCall (withD [] (pureF Sh.is_sequence)) (sCons (sVar 0) sNil)))) (sTest (sBin opGt (sCall bLen (sCons (sVar 0) sNil)) (sC (.int (400)))))) (sRaise "InvalidRecord") sNext) (sIfS (sNot (sTest (sCall (b1 opAll) (sCons (sLc false (sIt (sVar 0)) (gN 2) sYes (sCall (withD [] (pureF Sh.is_item)) (sCons (sVar 2) (sCons (sVar 1) sNil))) [2]) sNil)))) (sRaise "InvalidRecord") sNext))
def check_record : FN := fnOf 3 check_record_b
/-- Observed.__init__ -/
def Observed_init_b : SS := (sSeq (sFldS "Observed" "position" (sVar 0) (sVar 1)) (sSeq (sFldS "Observed" "name" (sVar 0) (sVar 2)) (sSeq (sFldS "Observed" "rank" (sVar 0) (sVar 3)) (sSeq (sFldS "Observed" "found_talks" (sVar 0) (sLstO sNil)) (sSeq (sFldS "Observed" "quiet_ticks" (sVar 0) (sC (.int 0))) (sFldS "Observed" "is_open" (sVar 0) (sC (.bl false))))))))
def Observed_init : FN := fnOf 4 Observed_init_b
/-- Observed.pass_tick -/
def Observed_pass_tick_b : SS := (sSeq (sIfS (sOr (sTest (sBin (opIs false) (sVar 1) (sC .non))) (sTest (sBin opGt (sUn (opFld "rank") (sVar 1)) (sUn (opFld "rank") (sVar 0))))) (sFldA "Observed" "quiet_ticks" (sVar 0) (sC (.int 1))) sNext) (sIfS (sOr (sTest (sBin (opIs false) (sVar 1) (sC .non))) (sTest (sBin opGe (sUn (opFld "rank") (sVar 1)) (sUn (opFld "rank") (sVar 0))))) (sFldS "Observed" "is_open" (sVar 0) (sC (.bl false))) sNext))
def Observed_pass_tick : FN := fnOf 2 Observed_pass_tick_b
/-- Observed.speak_on -/
def Observed_speak_on_b : SS := (sSeq (sIfS (sTest (sUn (opFld "is_open") (sVar 0))) (sSeq (sAsg (gT 2 (gCs (gN 1) (gCs (gN 2) gNl))) (sBin opIx (sUn (opFld "found_talks") (sVar 0)) (sUn opNeg (sC (.int 1))))) (sIxS (sUn (opFld "found_talks") (sVar 0)) (sUn opNeg (sC (.int 1))) (sTup (sCons (sVar 1) (sCons (sBin opAdd (sVar 2) (sC (.int 1))) sNil))))) (sExpr (sMtO gAppend (sUn (opFld "found_talks") (sVar 0)) (sCons (sTup (sCons (sUn (opFld "quiet_ticks") (sVar 0)) (sCons (sC (.int 1)) sNil))) sNil)))) (sSeq (sFldS "Observed" "quiet_ticks" (sVar 0) (sC (.int 0))) (sFldS "Observed" "is_open" (sVar 0) (sC (.bl true)))))
def Observed_speak_on : FN := fnOf 3 Observed_speak_on_b
/-- Reading.read_tick -/
def Reading_read_tick_b : SS := (sSeq (sFor (sIt (sUn (opFld "observed") (sVar 0))) (gN 2) (sIfS (sTest (sBin (opEqI ["Observed"]) (sVar 2) (sVar 1))) (sExpr (sMeth "Observed" "speak_on" Sh.Observed_speak_on (sVar 2) sNil)) (sExpr (sMeth "Observed" "pass_tick" Sh.Observed_pass_tick (sVar 2) (sCons (sVar 1) sNil))))) (sSeq (sFor (sRng2 (sC (.int 1)) (sBin opAdd (sC (.int (10))) (sC (.int 1)))) (gN 3) (sIfS (sOr (sTest (sBin (opIs false) (sVar 1) (sC .non))) (sTest (sBin opGt (sUn (opFld "rank") (sVar 1)) (sVar 3)))) (sIxK (sUn (opFld "last_position") (sVar 0)) (sVar 3) (sUn opNeg (sC (.int 1)))) sNext)) (sIfS (sTest (sBin (opIs true) (sVar 1) (sC .non))) (sIxK (sUn (opFld "last_position") (sVar 0)) (sUn (opFld "rank") (sVar 1)) (sCall bMax (sCons (sBin opIxD (sUn (opFld "last_position") (sVar 0)) (sUn (opFld "rank") (sVar 1))) (sCons (sUn (opFld "position") (sVar 1)) sNil)))) sNext)))
def Reading_read_tick : FN := fnOf 4 Reading_read_tick_b
/-- Reading.kind_of_fault -/
def Reading_kind_of_fault_b : SS := (sSeq (sIfS (sTest (sUn (opFld "is_open") (sVar 1))) (sRet (sC .non)) sNext) (sSeq (sIfS (sTest (sBin (opEq false) (sUn (opFld "quiet_ticks") (sVar 1)) (sC (.int 0)))) (sRet (sC (.str "silence"))) sNext) (sRet (sIf (sTest (sBin opGt (sBin opIxD (sUn (opFld "last_position") (sVar 0)) (sUn (opFld "rank") (sVar 1))) (sUn (opFld "position") (sVar 1)))) (sC (.str "order")) (sC .non)))))
def Reading_kind_of_fault : FN := fnOf 2 Reading_kind_of_fault_b
/-- Reading.__init__ -/
def Reading_init_b : SS := (sSeq (sFldS "Reading" "observed" (sVar 0) (sLc false (sEnumX (sCons (sVar 1) sNil)) (gT 2 (gCs (gN 3) (gCs (gN 4) gNl))) sYes (sMake "Observed" Sh.Observed_init (sCons (sVar 3) (sCons (sBin opIx (sVar 4) (sC (.int 0))) (sCons (sBin opIx (sVar 4) (sC (.int 1))) sNil)))) [3, 4])) (sSeq (sFldS "Reading" "last_position" (sVar 0) (sDcO (sRng2 (sC (.int 1)) (sBin opAdd (sC (.int (10))) (sC (.int 1)))) (gN 5) sYes (sVar 5) (sUn opNeg (sC (.int 1))) [5])) (sSeq (sFldS "Reading" "fault" (sVar 0) (sC .non)) (sFor (sEnumX (sCons (sVar 2) sNil)) (gT 2 (gCs (gN 6) (gCs (gN 7) gNl))) (sSeq (sSet 8 (sIf (sTest (sBin (opIs false) (sVar 7) (sC .non))) (sC .non) (sBin opIx (sLc false (sIt (sUn (opFld "observed") (sVar 0))) (gN 4) (sTest (sBin (opEq false) (sUn (opFld "name") (sVar 4)) (sVar 7))) (sVar 4) [4]) (sC (.int 0))))) (sSeq (sSet 9 (sIf (sTest (sBin (opIs false) (sVar 8) (sC .non))) (sC .non) (sMeth "Reading" "kind_of_fault" Sh.Reading_kind_of_fault (sVar 0) (sCons (sVar 8) sNil)))) (sSeq (sIfS (sTest (sBin (opIs true) (sVar 9) (sC .non))) (sSeq (sFldS "Reading" "fault" (sVar 0) (sTup (sCons (sVar 6) (sCons (sVar 9) sNil)))) sBreak) sNext) (sExpr (sMeth "Reading" "read_tick" Sh.Reading_read_tick (sVar 0) (sCons (sVar 8) sNil))))))))))
def Reading_init : FN := fnOf 10 Reading_init_b
/-- checked_reading -/
def checked_reading_b : SS := (sSeq (sExpr (sCall (withD [] (pureF Sh.check_members)) (sCons (sVar 0) sNil))) (sSeq (sExpr (sCall (withD [] (pureF Sh.check_record)) (sCons (sVar 1) (sCons (sLc false (sIt (sVar 0)) (gN 2) sYes (sBin opIx (sVar 2) (sC (.int 0))) [2]) sNil)))) (sRet (sMake "Reading" Sh.Reading_init (sCons (sVar 0) (sCons (sVar 1) sNil))))))
def checked_reading : FN := fnOf 3 checked_reading_b
/-- fault_of -/
def fault_of_b : SS := (sRet (sUn (opFld "fault") (sCall (withD [] Sh.checked_reading) (sCons (sVar 0) (sCons (sVar 1) sNil)))))
def fault_of : FN := fnOf 2 fault_of_b
/-- _law_bag -/
def l_bag_b : SS := (sSeq (sSet 1 (sC (.int 1))) (sSeq (sFor (sIt (sVar 0)) (gN 2) (sSet 1 (sBin opMod (sBin opAdd (sBin opAdd (sBin opMul (sVar 1) (sC (.int 1000003))) (sBin opMod (sVar 2) (sC (.int 2305843009213693951)))) (sC (.int 1))) (sC (.int 2305843009213693951))))) (sRet (sLstO (sCons (sCall (b1 (opList false)) (sCons (sVar 0) sNil)) (sCons (sC (.int 0)) (sCons (sC (.int 0)) (sCons (sC (.int 0)) (sCons (sVar 1) sNil)))))))))
def l_bag : FN := fnOf 3 l_bag_b
/-- _law_stir -/
def l_stir_b : SS := (sSeq (sSet 2 (sBin opMod (sBin opAdd (sBin opAdd (sBin opMul (sVar 0) (sC (.int 998244353))) (sBin opMul (sVar 1) (sC (.int 1000000007)))) (sC (.int 5))) (sC (.int 2305843009213693951)))) (sSeq (sSet 3 (sBin opMod (sBin opMul (sVar 2) (sVar 2)) (sC (.int 2305843009213693951)))) (sRet (sBin opDiv (sBin opMod (sBin opAdd (sBin opAdd (sBin opMul (sVar 3) (sC (.int 2860486313))) (sBin opMul (sBin opMul (sVar 1) (sVar 1)) (sC (.int 48271)))) (sBin opDiv (sVar 2) (sC (.int 3)))) (sC (.int 2305843009213693921))) (sC (.int 1024))))))
def l_stir : FN := fnOf 4 l_stir_b
/-- _law_draw -/
def l_draw_2_b : SS := (sSeq (sIfS (sTest (sBin (opEq false) (sVar 1) (sC (.int 1)))) (sRet (sC (.int 0))) sNext) (sSeq (sIxS (sVar 0) (sC (.int 3)) (sBin opAdd (sBin opIx (sVar 0) (sC (.int 3))) (sC (.int 1)))) (sSeq (sIfS (sAnd (sTest (sBin opLt (sBin opIx (sVar 0) (sC (.int 2))) (sC (.int 2)))) (sTest (sBin (opEq false) (sBin opIx (sVar 0) (sC (.int 1))) (sCall bLen (sCons (sBin opIx (sVar 0) (sC (.int 0))) sNil))))) (sRet (sBin opMod (sCall (withD [] (pureF Sh.l_stir)) (sCons (sBin opIx (sVar 0) (sC (.int 4))) (sCons (sBin opIx (sVar 0) (sC (.int 3))) sNil))) (sVar 1))) sNext) (sSeq (sIfS (sTest (sBin opLt (sBin opIx (sVar 0) (sC (.int 2))) (sC (.int 2)))) (sSeq (sSet 2 (sBin opIx (sBin opIx (sVar 0) (sC (.int 0))) (sBin opIx (sVar 0) (sC (.int 1))))) (sSeq (sIxS (sVar 0) (sC (.int 1)) (sBin opAdd (sBin opIx (sVar 0) (sC (.int 1))) (sC (.int 1)))) (sSeq (sIfS (sTest (sBin opLt (sVar 2) (sBin opPow (sC (.int 10)) (sC (.int 18))))) (sRet (sBin opMod (sCall (withD [] (pureF Sh.l_stir)) (sCons (sBin opMod (sVar 2) (sC (.int 2305843009213693951))) (sCons (sBin opIx (sVar 0) (sC (.int 3))) sNil))) (sVar 1))) sNext) (sIxS (sVar 0) (sC (.int 2)) (sBin opSub (sVar 2) (sBin opPow (sC (.int 10)) (sC (.int 18)))))))) sNext) (sSeq (sSet 3 (sBin opMod (sBin opIx (sVar 0) (sC (.int 2))) (sVar 1))) (sSeq (sIxS (sVar 0) (sC (.int 2)) (sBin opDiv (sBin opIx (sVar 0) (sC (.int 2))) (sVar 1))) (sRet (sVar 3))))))))
def l_draw_2 : FN := fnOf 4 l_draw_2_b
/-- _law_shuffled -/
def l_shuffled_b : SS := (sSeq (sSet 2 (sCall (b1 (opList true)) (sCons (sVar 1) sNil))) (sRet (sLc false (sRng1 (sCall bLen (sCons (sVar 1) sNil))) (gN 3) sYes (sMtO gPopAt (sVar 2) (sCons (sCall (withD [] Sh.l_draw_2) (sCons (sVar 0) (sCons (sCall bLen (sCons (sVar 2) sNil)) sNil))) sNil)) [3])))
def l_shuffled : FN := fnOf 4 l_shuffled_b
/-- _law_members -/
def l_members_b : SS := (sSeq (sSet 2 (sLstO (sCons (sC (.str "a")) (sCons (sC (.str "b")) (sCons (sC (.str "abcdefgh")) (sCons (sC (.str "zz")) (sCons (sC (.str "m")) (sCons (sC (.str "ba")) (sCons (sC (.str "q")) (sCons (sC (.str "xyz")) (sCons (sC (.str "cc")) (sCons (sC (.str "p")) sNil)))))))))))) (sSeq (sSet 3 (sBin opIx (sLst (sCons (sC (.int 1)) (sCons (sC (.int 2)) (sCons (sC (.int 4)) (sCons (sC (.int 10)) sNil))))) (sCall (withD [] Sh.l_draw_2) (sCons (sVar 0) (sCons (sC (.int 4)) sNil))))) (sSeq (sSet 4 (sCall (withD [] Sh.l_draw_2) (sCons (sVar 0) (sCons (sBin opAdd (sVar 1) (sC (.int 1))) sNil)))) (sRet (sLc false (sRng1 (sVar 4)) (gN 5) sYes (sTup (sCons (sMtO gPopAt (sVar 2) (sCons (sCall (withD [] Sh.l_draw_2) (sCons (sVar 0) (sCons (sCall bLen (sCons (sVar 2) sNil)) sNil))) sNil)) (sCons (sBin opAdd (sC (.int 1)) (sCall (withD [] Sh.l_draw_2) (sCons (sVar 0) (sCons (sVar 3) sNil)))) sNil))) [5])))))
def l_members : FN := fnOf 6 l_members_b
/-- schedules_of -/
def schedules_of_2_b : SS := (sSeq (sSet 2 (sCall (withD [] Sh.checked_reading) (sCons (sVar 0) (sCons (sVar 1) sNil)))) (sSeq (sIfS (sTest (sBin (opIs true) (sUn (opFld "fault") (sVar 2)) (sC .non))) sBad sNext) (sRet (sLc false (sIt (sUn (opFld "observed") (sVar 2))) (gN 3) sYes (sTup (sCons (sCall (b1 (opList false)) (sCons (sUn (opFld "found_talks") (sVar 3)) sNil)) (sCons (sUn (opFld "is_open") (sVar 3)) (sCons (sUn (opFld "quiet_ticks") (sVar 3)) sNil)))) [3]))))
def schedules_of_2 : FN := fnOf 4 schedules_of_2_b
/-- _law_told -/
def l_told_b : SS := (sSeq (sSet 2 (sCall (withD [] (noXF (pureF Sh.fault_of))) (sCons (sVar 0) (sCons (sVar 1) sNil)))) (sRet (sIf (sTest (sBin (opIs true) (sVar 2) (sC .non))) (sLst (sCons (sC (.str "fault")) (sCons (sVar 2) sNil))) (sLst (sCons (sC (.str "fine")) (sCons (sCall (withD [] (noXF (pureF Sh.schedules_of_2))) (sCons (sVar 0) (sCons (sVar 1) sNil))) sNil))))))
def l_told : FN := fnOf 3 l_told_b
/-- _law_renamed -/
def l_renamed_b : SS := (sSeq (sSet 3 (sCall (withD [] Sh.l_shuffled) (sCons (sVar 0) (sCons (sLst (sCons (sC (.str "x")) (sCons (sC (.str "y")) (sCons (sC (.str "zz")) (sCons (sC (.str "other")) (sCons (sC (.str "u")) (sCons (sC (.str "v")) (sCons (sC (.str "w")) (sCons (sC (.str "t")) (sCons (sC (.str "s")) (sCons (sC (.str "r")) sNil))))))))))) sNil)))) (sSeq (sSet 4 (sCall (b1 opDictP) (sCons (sLc false (sEnum (sCons (sVar 1) sNil)) (gT 2 (gCs (gN 5) (gCs (gN 6) gNl))) sYes (sTup (sCons (sBin opIx (sVar 6) (sC (.int 0))) (sCons (sBin opIx (sVar 3) (sVar 5)) sNil))) [5, 6]) sNil))) (sRet (sTup (sCons (sLc false (sIt (sVar 1)) (gN 6) sYes (sTup (sCons (sBin opIxK (sVar 4) (sBin opIx (sVar 6) (sC (.int 0)))) (sCons (sBin opIx (sVar 6) (sC (.int 1))) sNil))) [6]) (sCons (sLc false (sIt (sVar 2)) (gN 7) sYes (sIf (sTest (sBin (opIs false) (sVar 7) (sC .non))) (sC .non) (sBin opIxK (sVar 4) (sVar 7))) [7]) sNil))))))
def l_renamed : FN := fnOf 8 l_renamed_b
/-- _law_spread -/
def l_spread_b : SS := (sSeq (sSet 2 (sSortSet (sLc false (sIt (sVar 1)) (gN 3) sYes (sBin opIx (sVar 3) (sC (.int 1))) [3]))) (sSeq (sSet 4 (sCut false (sCall (withD [] Sh.l_shuffled) (sCons (sVar 0) (sCons (sLstRg (sC (.int 1)) (sC (.int 11))) sNil))) sNoPart (sPart (sCall bLen (sCons (sVar 2) sNil))))) (sSeq (sSet 5 (sCall (b1 opDictP) (sCons (sLstZip (sVar 2) (sCall (b1 opSortI) (sCons (sVar 4) sNil))) sNil))) (sRet (sLc false (sIt (sVar 1)) (gN 3) sYes (sTup (sCons (sBin opIx (sVar 3) (sC (.int 0))) (sCons (sBin opIxK (sVar 5) (sBin opIx (sVar 3) (sC (.int 1)))) sNil))) [3])))))
def l_spread : FN := fnOf 6 l_spread_b
/-- _law_high_right -/
def l_high_right_b : SS := (sSeq (sSet 2 (sCall (b1 opMaxL) (sCons (sLc false (sIt (sVar 0)) (gN 3) sYes (sBin opIx (sVar 3) (sC (.int 1))) [3]) sNil))) (sSeq (sSet 4 (sLc false (sIt (sVar 0)) (gN 3) (sTest (sBin (opEq false) (sBin opIx (sVar 3) (sC (.int 1))) (sVar 2))) (sBin opIx (sVar 3) (sC (.int 0))) [3])) (sSeq (sSet 5 (sLc false (sIt (sVar 0)) (gN 3) (sTest (sBin opLt (sBin opIx (sVar 3) (sC (.int 1))) (sVar 2))) (sVar 3) [3])) (sSeq (sIfS (sTest (sBin (opIs true) (sCall (withD [] (noXF (pureF Sh.fault_of))) (sCons (sVar 0) (sCons (sVar 1) sNil))) (sC .non))) (sRet (sC (.bl true))) sNext) (sSeq (sSet 6 (sLc false (sIt (sVar 1)) (gN 7) sYes (sIf (sTest (sBin (opInL false) (sVar 7) (sVar 4))) (sC .non) (sVar 7)) [7])) (sSeq (sSet 8 (sLc false (sZip (sCons (sVar 0) (sCons (sCall (withD [] (noXF (pureF Sh.schedules_of_2))) (sCons (sVar 0) (sCons (sVar 1) sNil))) sNil))) (gT 2 (gCs (gN 3) (gCs (gN 9) gNl))) (sTest (sBin opLt (sBin opIx (sVar 3) (sC (.int 1))) (sVar 2))) (sVar 9) [3, 9])) (sRet (sBin (opEq false) (sCall (withD [] (noXF (pureF Sh.schedules_of_2))) (sCons (sVar 5) (sCons (sVar 6) sNil))) (sVar 8)))))))))
def l_high_right : FN := fnOf 10 l_high_right_b
/-- law -/
def law_k46_b : SS := (sSeq (sSet 1 (sCall (withD [] Sh.l_bag) (sCons (sVar 0) sNil))) (sSeq (sFor (sRng1 (sBin opAdd (sC (.int 3)) (sCall bMin (sCons (sC (.int 5)) (sCons (sCall bLen (sCons (sVar 0) sNil)) sNil))))) (gN 2) (sSeq (sSet 3 (sCall (withD [] Sh.l_members) (sCons (sVar 1) (sCons (sC (.int 6)) sNil)))) (sSeq (sSet 4 (sBin opAdd (sLst (sCons (sC .non) (sCons (sC .non) sNil))) (sLc false (sIt (sVar 3)) (gN 5) sYes (sBin opIx (sVar 5) (sC (.int 0))) [5]))) (sSeq (sSet 6 (sLstO sNil)) (sSeq (sFor (sRng1 (sCall (withD [] Sh.l_draw_2) (sCons (sVar 1) (sCons (sC (.int 51)) sNil)))) (gN 7) (sSeq (sSet 8 (sBin opIx (sVar 4) (sCall (withD [] Sh.l_draw_2) (sCons (sVar 1) (sCons (sCall bLen (sCons (sVar 4) sNil)) sNil))))) (sSeq (sSet 9 (sBin (opIs true) (sCall (withD [] (noXF (pureF Sh.fault_of))) (sCons (sVar 3) (sCons (sBin opAdd (sVar 6) (sLst (sCons (sVar 8) sNil))) sNil))) (sC .non))) (sExpr (sMtO gAppend (sVar 6) (sCons (sIf (sAnd (sTest (sVar 9)) (sTest (sBin opGt (sCall (withD [] Sh.l_draw_2) (sCons (sVar 1) (sCons (sC (.int 20)) sNil))) (sC (.int 0))))) (sC .non) (sVar 8)) sNil)))))) (sFrz 6 (sSeq (sSet 10 (sCall (withD [] (pureF Sh.l_told)) (sCons (sVar 3) (sCons (sVar 6) sNil)))) (sSeq (sAsg (gT 2 (gCs (gN 11) (gCs (gN 12) gNl))) (sCall (withD [] Sh.l_renamed) (sCons (sVar 1) (sCons (sVar 3) (sCons (sVar 6) sNil))))) (sSeq (sIfS (sOr (sTest (sBin (opEq true) (sCall (withD [] (pureF Sh.l_told)) (sCons (sVar 11) (sCons (sVar 12) sNil))) (sVar 10))) (sTest (sBin (opEq true) (sCall (withD [] (pureF Sh.l_told)) (sCons (sCall (withD [] Sh.l_spread) (sCons (sVar 1) (sCons (sVar 3) sNil))) (sCons (sVar 6) sNil))) (sVar 10)))) (sRet (sC (.bl false))) sNext) (sSeq (sSet 13 (sCall (withD [] (pureF Sh.l_told)) (sCons (sBin opAdd (sVar 3) (sLst (sCons (sTup (sCons (sC (.str "never")) (sCons (sBin opAdd (sC (.int 1)) (sCall (withD [] Sh.l_draw_2) (sCons (sVar 1) (sCons (sC (.int 10)) sNil)))) sNil))) sNil))) (sCons (sVar 6) sNil)))) (sSeq (sIfS (sOr (sTest (sBin (opEq true) (sBin opIx (sVar 13) (sC (.int 0))) (sBin opIx (sVar 10) (sC (.int 0))))) (sTest (sBin (opEq true) (sIf (sTest (sBin (opEq false) (sBin opIx (sVar 13) (sC (.int 0))) (sC (.str "fine")))) (sCut false (sBin opIx (sVar 13) (sC (.int 1))) sNoPart (sPart (sUn opNeg (sC (.int 1))))) (sBin opIx (sVar 13) (sC (.int 1)))) (sBin opIx (sVar 10) (sC (.int 1)))))) (sRet (sC (.bl false))) sNext) (sIfS (sAnd (sTest (sBin (opNil true) (sVar 3) (sLst sNil))) (sNot (sTest (sCall (withD [] (pureF Sh.l_high_right)) (sCons (sVar 3) (sCons (sVar 6) sNil)))))) (sRet (sC (.bl false))) sNext)))))))))))) (sRet (sC (.bl true)))))
def law_k46 : FN := fnOf 14 law_k46_b
end Sh
end HR
set_option Elab.async false
set_option linter.all false
set_option maxRecDepth 20000
namespace HR
open PySem L2
/-! ### the spring: draw -/
/-- the spring at i -/
def Spr (h : OH) (i : Nat) : Prop := ∃ a b c : Int, h[i]? = some (.lst [.int a, .int b, .int c]) ∧ 0 ≤ b ∧ b < 2305843009213693951
/-- nothing but i is changed; the heap may have grown -/
def Chg (i : Nat) (h h' : OH) : Prop := h.length ≤ h'.length ∧ ∀ j, j < h.length → j ≠ i → h'[j]? = h[j]?
theorem Chg.refl (i : Nat) (h : OH) : Chg i h h := ⟨Nat.le_refl _, fun _ _ _ => rfl⟩
theorem Chg.trans {i : Nat} {h1 h2 h3 : OH} (a : Chg i h1 h2) (b : Chg i h2 h3) : Chg i h1 h3 := ⟨Nat.le_trans a.1 b.1, fun j hj n => (b.2 j (Nat.lt_of_lt_of_le hj a.1) n).trans (a.2 j hj n)⟩
theorem Chg.set (i : Nat) (h : OH) (o : OO) : Chg i h (h.set i o) := ⟨by simp, fun j hj n => by rw [List.getElem?_set_ne (Ne.symm n)]⟩
theorem Chg.get {i : Nat} {h h' : OH} (c : Chg i h h') {j : Nat} {o : OO} (e : h[j]? = some o) (n : j ≠ i) : h'[j]? = some o := (c.2 j (List.getElem?_eq_some_iff.mp e).1 n).trans e
theorem Chg.app (i : Nat) (h t : OH) : Chg i h (h ++ t) := ⟨by simp, fun j hj _ => List.getElem?_append_left hj⟩
/-- an object made since is changed -/
theorem Chg.setNew {i : Nat} {h h' : OH} (c : Chg i h h') {j : Nat} (hj : h.length ≤ j) (o : OO) : Chg i h (h'.set j o) := ⟨by simpa using c.1, fun k hk n => by rw [List.getElem?_set_ne (by omega)]; exact c.2 k hk n⟩
theorem Spr.lt {h : OH} {i : Nat} (s : Spr h i) : i < h.length := by
  obtain ⟨a, b, c, e, _⟩ := s
  exact (List.getElem?_eq_some_iff.mp e).1
theorem Spr.app {h : OH} {i : Nat} (s : Spr h i) (t : OH) : Spr (h ++ t) i := by
  have := s.lt
  obtain ⟨a, b, c, e, r⟩ := s
  exact ⟨a, b, c, by rw [List.getElem?_append_left this]; exact e, r⟩
theorem Spr.set {h : OH} {i j : Nat} (s : Spr h i) (n : j ≠ i) (o : OO) : Spr (h.set j o) i := by
  obtain ⟨a, b, c, e, r⟩ := s
  exact ⟨a, b, c, by rw [List.getElem?_set_ne n]; exact e, r⟩
end HR
set_option Elab.async false
set_option linter.all false
set_option maxRecDepth 20000
namespace HR
open PySem L2
/-! ### halls: the talks, the talkers -/
def dT (p : Int × Int) : D := .tup [.int p.1, .int p.2]
structure Tk where
  name : Str
  rank : Int
  pre : List (Int × Int)
  cyc : List (Int × Int)
def dTk (t : Tk) : D := .tup [.str t.name, .int t.rank, .lst (t.pre.map dT), .lst (t.cyc.map dT)]
def In1 (m : Int) (p : Int × Int) : Prop := 1 ≤ p.1 ∧ p.1 ≤ m ∧ 1 ≤ p.2 ∧ p.2 ≤ m
theorem pickI {ns : List Int} {v : Int} {P : D → Prop} (h0 : 0 ≤ v) (h1 : v < ns.length) (q : ∀ n ∈ ns, P (.int n)) : lkS (atI (ns.map D.int) v) P := by
  have hl : v.toNat < ns.length := by omega
  refine lkS_of (x := .int ns[v.toNat]) ?_ (q _ (List.getElem_mem hl))
  rw [atI_z h0 (by simpa using h1)]
  simp [hl]
def WfN (x : Str) : Prop := 1 ≤ x.length ∧ x.length ≤ 8 ∧ ∀ c ∈ x.cps.toList, c ∈ ("abcdefghijklmnopqrstuvwxyz" : Str).cps.toList
structure WfTk (m : Int) (t : Tk) : Prop where
  name : WfN t.name
  r1 : 1 ≤ t.rank
  r2 : t.rank ≤ 10
  lp : t.pre.length ≤ 8
  lc1 : 1 ≤ t.cyc.length
  lc : t.cyc.length ≤ 8
  pre : ∀ p ∈ t.pre, In1 m p
  cyc : ∀ p ∈ t.cyc, In1 m p
structure WfHall (m : Int) (ts : List Tk) : Prop where
  len : ts.length ≤ 10
  tk : ∀ t ∈ ts, WfTk m t
  nd : (ts.map (·.name)).Nodup
def NAMES : List Str := ["a", "b", "abcdefgh", "zz", "m", "ba", "q", "xyz", "cc", "p"]
theorem names_wf : ∀ x ∈ NAMES, WfN x := by unfold WfN; decide +kernel
theorem names_nd : NAMES.Nodup := by decide +kernel
theorem eraseIdx_mapF {α β : Type} (f : α → β) : ∀ (l : List α) (n : Nat), (l.map f).eraseIdx n = (l.eraseIdx n).map f
  | [], _ => rfl
  | _ :: _, 0 => rfl
  | x :: l, n + 1 => by simp [eraseIdx_mapF f l n]
theorem eraseIdx_permF {α : Type} : ∀ (l : List α) (n : Nat) (h : n < l.length), (l[n] :: l.eraseIdx n).Perm l
  | [], _, h => absurd h (Nat.not_lt_zero _)
  | x :: l, 0, _ => List.Perm.refl _
  | x :: l, n + 1, h => (List.Perm.swap x _ _).trans ((eraseIdx_permF l n (Nat.lt_of_succ_lt_succ h)).cons x)
end HR
set_option Elab.async false
set_option linter.all false
set_option maxRecDepth 20000
namespace HR
open PySem L2
/-! ### the checks of a hall -/
theorem pure_dT (p : Int × Int) : (dT p).pure = true := by simp [dT]
@[simp] theorem pureL_dT (ts : List (Int × Int)) : D.pureL (ts.map dT) = true := pureL_map _ pure_dT ts
theorem pure_dTk (t : Tk) : (dTk t).pure = true := by simp [dTk]
@[simp] theorem pureL_dTk (ts : List Tk) : D.pureL (ts.map dTk) = true := pureL_map _ pure_dTk ts
@[simp] theorem isseq_l (xs : List D) (h : OH) (hp : D.pureL xs = true) : pureF Sh.is_sequence [.lst xs] h = .ok (.bl true) h := by
  refine pure_eq h (by simp [hp]) rfl ?_
  unfold Sh.is_sequence; rw [W_fn]; unfold Sh.is_sequence_b; simp
@[simp] theorem isseq_t (xs : List D) (h : OH) (hp : D.pureL xs = true) : pureF Sh.is_sequence [.tup xs] h = .ok (.bl true) h := by
  refine pure_eq h (by simp [hp]) rfl ?_
  unfold Sh.is_sequence; rw [W_fn]; unfold Sh.is_sequence_b; simp
@[simp] theorem isint2 (v lo hi : Int) (h : OH) : pureF Sh.is_integer [.int v, .int lo, .int hi] h = .ok (.bl (decide (lo ≤ v) && decide (v ≤ hi))) h := by
  refine pure_eq h rfl rfl ?_
  unfold Sh.is_integer; rw [W_fn]; unfold Sh.is_integer_b; simp
  split
  · rename_i q; simp [q]
  · rename_i q; simp [q]
@[simp] theorem isint1 (v lo : Int) (h : OH) : pureF Sh.is_integer [.int v, .int lo, .non] h = .ok (.bl (decide (lo ≤ v))) h := by
  refine pure_eq h rfl rfl ?_
  unfold Sh.is_integer; rw [W_fn]; unfold Sh.is_integer_b; simp
theorem isname (x : Str) (h : OH) (w : WfN x) : pureF Sh.is_name [.str x] h = .ok (.bl true) h := by
  refine pure_eq h rfl rfl ?_
  obtain ⟨l1, l2, lc⟩ := w
  have l1' : (1 : Int) ≤ x.length := by omega
  have l2' : (x.length : Int) ≤ 8 := by omega
  have lb : x.length ≤ big := by simp [big]; omega
  have ln : x.cps.toList.length = x.length := by simp [Str.length]
  unfold Sh.is_name; rw [W_fn]; unfold Sh.is_name_b; simp [wipeD, W_lenS, lb, l1', l2', signsD]
  refine W_lcMap1 x.cps.toList (fun c => .str ⟨#[c]⟩) (fun _ => .bl true) [] (by simp only [big]; omega) (fun c hc => ⟨_, rfl, ?_⟩) ?_
  · simp
    exact Array.mem_toList_iff.mp (lc c hc)
  · rw [bs_mapF]; simp
end HR
set_option Elab.async false
set_option linter.all false
set_option maxRecDepth 20000
namespace HR
open PySem L2
/-! ### schedules -/
/-- 0, x0, x0 + x1, .. -/
def sums (l : List Int) : List Int := (List.range (l.length + 1)).map fun k => (l.take k).sum
def dSch (p c : List (Int × Int)) : D := .obj "Schedule" [("prefix", .lst (p.map dT)), ("cycle", .lst (c.map dT)), ("prefix_silences", .lst ((sums (p.map (·.1))).map D.int)), ("prefix_lengths", .lst ((sums (p.map (·.2))).map D.int)), ("cycle_silences", .lst ((sums (c.map (·.1))).map D.int)), ("cycle_lengths", .lst ((sums (c.map (·.2))).map D.int))]
@[simp] theorem pure_dSch (p c : List (Int × Int)) : (dSch p c).pure = true := by simp [dSch]
def dMem (t : Tk) : D := .obj "Member" [("name", .str t.name), ("rank", .int t.rank), ("schedule", dSch t.pre t.cyc)]
@[simp] theorem pure_dMem (t : Tk) : (dMem t).pure = true := by simp [dMem]
@[simp] theorem pureL_dMem (ts : List Tk) : D.pureL (ts.map dMem) = true := pureL_map _ pure_dMem ts
end HR
set_option Elab.async false
set_option linter.all false
set_option maxRecDepth 20000
namespace HR
open PySem L2
/-! ### the talks of a schedule, their sums -/
def nth (p c : List (Int × Int)) (i : Nat) : Int × Int := if i < p.length then p.getD i (0, 0) else c.getD ((i - p.length) % c.length) (0, 0)
/-- the sum over the first n talks -/
def acc (f : Int × Int → Int) (p c : List (Int × Int)) : Nat → Int
  | 0 => 0
  | n + 1 => acc f p c n + f (nth p c n)
end HR
set_option Elab.async false
set_option linter.all false
set_option maxRecDepth 20000
namespace HR
open PySem L2
section
variable {p c : List (Int × Int)}
/-- the two lists of sums -/
def dSums (f : Int × Int → Int) (l : List (Int × Int)) : D := .lst ((sums (l.map f)).map D.int)
end
end HR
set_option Elab.async false
set_option linter.all false
set_option maxRecDepth 20000
namespace HR
open PySem L2
section
variable {p c : List (Int × Int)}
def schFs (p c : List (Int × Int)) : List (String × D) := [("prefix", .lst (p.map dT)), ("cycle", .lst (c.map dT)), ("prefix_silences", dSums (·.1) p), ("prefix_lengths", dSums (·.2) p), ("cycle_silences", dSums (·.1) c), ("cycle_lengths", dSums (·.2) c)]
@[simp] theorem ins_dSch (h : OH) : insAt h (dSch p c) = some ("Schedule", schFs p c) := rfl
@[simp] theorem fs_1 : (schFs p c).lookup "prefix" = some (.lst (p.map dT)) := rfl
@[simp] theorem fs_2 : (schFs p c).lookup "cycle" = some (.lst (c.map dT)) := rfl
@[simp] theorem fs_3 : (schFs p c).lookup "prefix_silences" = some (dSums (·.1) p) := rfl
@[simp] theorem fs_4 : (schFs p c).lookup "prefix_lengths" = some (dSums (·.2) p) := rfl
@[simp] theorem fs_5 : (schFs p c).lookup "cycle_silences" = some (dSums (·.1) c) := rfl
@[simp] theorem fs_6 : (schFs p c).lookup "cycle_lengths" = some (dSums (·.2) c) := rfl
@[simp] theorem fs_m1 : hasNo (schFs p c) "sum_of_first" = True := eq_true rfl
@[simp] theorem fs_m2 : hasNo (schFs p c) "nth_ready" = True := eq_true rfl
@[simp] theorem fs_m3 : hasNo (schFs p c) "nth_talk" = True := eq_true rfl
@[simp] theorem fs_m4 : hasNo (schFs p c) "count_ready" = True := eq_true rfl
@[simp] theorem fs_m5 : hasNo (schFs p c) "length_ready" = True := eq_true rfl
end
end HR
set_option Elab.async false
set_option linter.all false
set_option maxRecDepth 20000
set_option Elab.async false
set_option linter.all false
set_option maxRecDepth 20000
namespace HR
open PySem L2
/-! ### inverse of a growing function: the plain law -/
/-- g l: the least q with l ≤ f q -/
def Gal (f g : Nat → Nat) : Prop := ∀ q l, l ≤ f q ↔ g l ≤ q
def Inc (f : Nat → Nat) : Prop := ∀ q, f q < f (q + 1)
section
variable {f g f' g' : Nat → Nat}
theorem Inc.lt (i : Inc f) {a : Nat} : ∀ {b : Nat}, a < b → f a < f b
  | 0, h => absurd h (Nat.not_lt_zero _)
  | b + 1, h => by
    rcases Nat.lt_or_ge a b with h1 | h1
    · exact Nat.lt_trans (i.lt h1) (i b)
    · have : a = b := by omega
      subst this; exact i a
theorem Inc.le (i : Inc f) {a b : Nat} (h : a ≤ b) : f a ≤ f b := by
  rcases Nat.lt_or_ge a b with h1 | h1
  · exact Nat.le_of_lt (i.lt h1)
  · have : a = b := by omega
    subst this; exact Nat.le_refl _
theorem Gal.le (a : Gal f g) (l : Nat) : l ≤ f (g l) := (a (g l) l).mpr (Nat.le_refl _)
theorem Gal.lt (a : Gal f g) {q l : Nat} (h : q < g l) : f q < l := by
  rcases Nat.lt_or_ge (f q) l with k | k
  · exact k
  · have := (a q l).mp k; omega
end
/-! ### how many talks are ready, how long they are -/
section
variable {p c : List (Int × Int)}
def cnt (p c : List (Int × Int)) : Nat → Nat
  | 0 => 0
  | q + 1 => if acc (·.1) p c (cnt p c q + 1) ≤ ((q + 1 : Nat) : Int) then cnt p c q + 1 else cnt p c q
/-- ticks of the talks that are ready at q -/
def len2 (p c : List (Int × Int)) (q : Nat) : Nat := (acc (·.2) p c (cnt p c q)).toNat
end
/-! ### the clocks -/
def LL (ts : List Tk) (r q : Nat) : Nat := ((ts.filter fun t => t.rank == (r : Int)).map fun t => len2 t.pre t.cyc q).sum
def LI (ts : List Tk) (r q : Nat) : Nat := q + LL ts r q
end HR
set_option Elab.async false
set_option linter.all false
set_option maxRecDepth 20000
namespace HR
open PySem L2
/-! ### the clocks: what the functions of the program compute -/
def memFs (t : Tk) : List (String × D) := [("name", .str t.name), ("rank", .int t.rank), ("schedule", dSch t.pre t.cyc)]
@[simp] theorem ins_dMem (t : Tk) (h : OH) : insAt h (dMem t) = some ("Member", memFs t) := rfl
@[simp] theorem mem_1 (t : Tk) : (memFs t).lookup "name" = some (.str t.name) := rfl
@[simp] theorem mem_2 (t : Tk) : (memFs t).lookup "rank" = some (.int t.rank) := rfl
@[simp] theorem mem_3 (t : Tk) : (memFs t).lookup "schedule" = some (dSch t.pre t.cyc) := rfl
section
variable {ts : List Tk}
/-- the i-th tick left for rank k + 1, as a tick -/
def TO (ts : List Tk) : Nat → Nat → Nat
  | 0, q => q
  | k + 1, q => TO ts k (LI ts (k + 1) q)
end
end HR
set_option Elab.async false
set_option linter.all false
set_option maxRecDepth 20000
set_option exponentiation.threshold 5000
set_option Elab.async false
set_option linter.all false
set_option maxRecDepth 20000
namespace HR
open PySem L2
/-! small things of many laws -/
theorem In1.mono {m m' : Int} {p : Int × Int} (w : In1 m p) (h : m ≤ m') : In1 m' p := ⟨w.1, by have := w.2.1; omega, w.2.2.1, by have := w.2.2.2; omega⟩
theorem WfHall.mono {m m' : Int} {ts : List Tk} (w : WfHall m ts) (h : m ≤ m') : WfHall m' ts := ⟨w.len, fun t ht => let a := w.tk t ht; ⟨a.name, a.r1, a.r2, a.lp, a.lc1, a.lc, fun p hp => (a.pre p hp).mono h, fun p hp => (a.cyc p hp).mono h⟩, w.nd⟩
@[simp] theorem W_addLL (xs ys : List D) (h : OH) {PD : D → OH → Prop} : (opAdd (.lst xs) (.lst ys) h).W PD = if xs.length + ys.length ≤ 1000000 then PD (.lst (xs ++ ys)) h else False := by
  simp [opAdd, lstAt, big]
@[simp] theorem SW_aug (i : Nat) (g : D → D → OH → Res D) (f : SE) (e : Env') (h : OH) {N C B : Env' → OH → Prop} {R : D → OH → Prop} : (sAug i g f e h).W N C B R = (sVar i e h).W fun x _ => (f e h).W fun y h1 => (g x y h1).W fun z h2 => N (e.set i (some z)) h2 := by
  unfold sAug sVar
  rcases e[i]? with _ | _ | x
  · rfl
  · rfl
  · simp
@[simp] theorem W_tointB (b : Bool) (h : OH) {PD : D → OH → Prop} : (opInt (.bl b) h).W PD = PD (.int (if b then 1 else 0)) h := rfl
@[simp] theorem W_tointI (b : Int) (h : OH) {PD : D → OH → Prop} : (opInt (.int b) h).W PD = PD (.int b) h := rfl
end HR
set_option Elab.async false
set_option linter.all false
set_option maxRecDepth 20000
namespace HR
open PySem L2
/-! ### how long a repr may be -/
/-- d is read as p: shown within n signs, of depth at most k -/
structure RpP (d : D) (p : PyData) (k n : Nat) : Prop where
  py : ∀ get, pyR get d = some p
  sh : p.showable = true
  dp : p.depth ≤ k
  ln : p.shown.length ≤ n
def Rp (d : D) (k n : Nat) : Prop := ∃ p, RpP d p k n
theorem Rp.mono {d : D} {k n k' n' : Nat} (h : Rp d k n) (hk : k ≤ k') (hn : n ≤ n') : Rp d k' n' := let ⟨p, a, b, c, e⟩ := h; ⟨p, a, b, Nat.le_trans c hk, Nat.le_trans e hn⟩
end HR
set_option Elab.async false
set_option linter.all false
set_option maxRecDepth 20000
set_option exponentiation.threshold 5000
namespace HR
open PySem L2
/-! ### values that are no halls -/
def gTk : Tk := ⟨"k", 1, [], [(1, 1)]⟩
/-! what they are to repr -/
/-! the def that draws one -/
@[simp] theorem W_dct0 (e : Env') (h : OH) {PD : D → OH → Prop} : (sDct0 e h).W PD = PD (.dct []) h := rfl
end HR
set_option Elab.async false
set_option linter.all false
set_option maxRecDepth 20000
set_option exponentiation.threshold 5000
set_option Elab.async false
set_option linter.all false
set_option maxRecDepth 20000
set_option exponentiation.threshold 5000
namespace HR
open PySem L2
/-! ### small things of the laws of errors -/
@[simp] theorem W_eqNS (neg : Bool) (y : Str) (h : OH) {PD : D → OH → Prop} (hy : PyData.strOk y = true) : (opEq neg .non (.str y) h).W PD = PD (.bl neg) h := by
  simp [opEq, SeqAt.shaped, PyData.canLay0, PyData.depth, PyData.eqv, hy]
end HR
set_option Elab.async false
set_option linter.all false
set_option maxRecDepth 20000
namespace HR
open PySem L2
/-! ### the bag of the laws of records and texts: draws -/
/-- the bag at i, after at most c draws -/
def Bag (ns : List Int) (h : OH) (i c : Nat) : Prop := ∃ p rest cnt total : Int, h[i]? = some (.lst [.lst (ns.map D.int), .int p, .int rest, .int cnt, .int total]) ∧ 0 ≤ p ∧ p ≤ ns.length ∧ 0 ≤ cnt ∧ cnt ≤ c ∧ 0 ≤ total ∧ total < 2305843009213693951
section
variable {ns : List Int} {h : OH} {i c : Nat}
theorem Bag.lt (s : Bag ns h i c) : i < h.length := by
  obtain ⟨p, r, n, t, e, _⟩ := s
  exact (List.getElem?_eq_some_iff.mp e).1
theorem Bag.mono {c' : Nat} (s : Bag ns h i c) (hc : c ≤ c') : Bag ns h i c' := by
  obtain ⟨p, r, n, t, e, a1, a2, a3, a4, a5⟩ := s
  exact ⟨p, r, n, t, e, a1, a2, a3, by omega, a5⟩
theorem Bag.app (s : Bag ns h i c) (t : OH) : Bag ns (h ++ t) i c := by
  have := s.lt
  obtain ⟨p, r, n, t', e, q⟩ := s
  exact ⟨p, r, n, t', by rw [List.getElem?_append_left this]; exact e, q⟩
theorem Bag.set {j : Nat} (s : Bag ns h i c) (n : j ≠ i) (o : OO) : Bag ns (h.set j o) i c := by
  obtain ⟨p, r, m, t, e, q⟩ := s
  exact ⟨p, r, m, t, by rw [List.getElem?_set_ne n]; exact e, q⟩
theorem stir_ok {a b : Int} (hb : 0 ≤ b) (hb2 : b < 2 ^ 62) : ∃ s : Int, ∀ h, pureF Sh.l_stir [.int a, .int b] h = .ok (.int s) h := by
  have key : (Sh.l_stir [.int a, .int b] []).W fun d _ => ∃ s : Int, d = .int s := by
    unfold Sh.l_stir; rw [W_fn]; unfold Sh.l_stir_b
    have m1 : mulOk a 998244353 = true := mulOk_r (by decide)
    have m2 : mulOk b 1000000007 = true := mulOk_r (by decide)
    have m3 : ∀ x : Int, mulOk (x % 2305843009213693951) (x % 2305843009213693951) = true := fun x => mulOk_l (by have := Int.emod_nonneg x (show (2305843009213693951 : Int) ≠ 0 by decide); have := Int.emod_lt_of_pos x (show (0 : Int) < 2305843009213693951 by decide); omega)
    have m4 : ∀ x : Int, mulOk x 2860486313 = true := fun x => mulOk_r (by decide)
    have m5 : mulOk b b = true := mulOk_l (by omega)
    have m6 : ∀ x : Int, mulOk x 48271 = true := fun x => mulOk_r (by decide)
    have d1 : ∀ x : Int, divOk x 3 = true := fun x => divOk_small (small_64 (by decide)) (by decide)
    have d2 : ∀ x : Int, divOk x 1024 = true := fun x => divOk_small (small_64 (by decide)) (by decide)
    simp [m1, m2, m3, m4, m5, m6, d1, d2]
  obtain ⟨d, h', e, s, rfl⟩ := key.out
  have r0 : D.pureL [D.int a, D.int b] = true := rfl
  exact ⟨s, fun h => by unfold pureF; rw [if_pos r0, e]; rfl⟩
theorem bdraw_ok {n : Int} (hs : Bag ns h i c) (hc : c < 2 ^ 60) (hn : 0 < n) (hn2 : Small n) {P : D → OH → Prop} (q : ∀ v h', 0 ≤ v → v < n → Bag ns h' i (c + 1) → Chg i h h' → P (.int v) h') : (Sh.l_draw_2 [.ref i, .int n] h).W P := by
  have hi := hs.lt
  have hm := hs.mono (Nat.le_succ c)
  obtain ⟨p, rest, cnt, total, e, p0, p1, c0, c1, t0, t1⟩ := hs
  unfold Sh.l_draw_2
  rw [W_fn]
  unfold Sh.l_draw_2_b
  have hd : ∀ x : Int, divOk x n = true := fun x => divOk_small (i := x) hn2 hn
  have k1 : ∀ x : Int, 0 ≤ x % n := fun x => Int.emod_nonneg _ (by omega)
  have k2 : ∀ x : Int, x % n < n := fun x => Int.emod_lt_of_pos _ hn
  have hset : ∀ o : OO, (h.set i o)[i]? = some o := fun o => by simp [hi]
  have st : ∀ a : Int, ∃ s : Int, ∀ h, pureF Sh.l_stir [.int a, .int (cnt + 1)] h = .ok (.int s) h := fun a => stir_ok (by omega) (by omega)
  have hb : (2 : Nat) ^ 60 = 1152921504606846976 := by decide
  have i1 : ixN 5 1 = some 1 := rfl
  have i2 : ixN 5 2 = some 2 := rfl
  have i3 : ixN 5 3 = some 3 := rfl
  have a4 : ∀ a b c d e : D, atI [a, b, c, d, e] 4 = some e := fun _ _ _ _ _ => rfl
  by_cases hn1 : n = 1
  · subst hn1
    simp
    exact q 0 h (by decide) (by decide) hm (Chg.refl ..)
  · by_cases hr : rest < 2
    · by_cases hp : p = ns.length
      · obtain ⟨s, es⟩ := st total
        simp [hn1, e, hset, i1, i2, i3, a4, hr, hp, es, hn]
        exact q _ _ (k1 _) (k2 _) ⟨p, rest, cnt + 1, total, by rw [hp]; exact hset _, p0, p1, by omega, by omega, t0, t1⟩ (Chg.set ..)
      · have hpl : p.toNat < ns.length := by omega
        have ea : atI (ns.map D.int) p = some (.int ns[p.toNat]) := by
          rw [atI_z p0 (by simp; omega)]
          simp [hpl]
        generalize ns[p.toNat] = cell at ea
        by_cases hcell : cell < 1000000000000000000
        · obtain ⟨s, es⟩ := st (cell % 2305843009213693951)
          simp [hn1, e, hset, i1, i2, i3, a4, hr, hp, ea, hcell, es, hn]
          exact q _ _ (k1 _) (k2 _) ⟨p + 1, rest, cnt + 1, total, hset _, by omega, by omega, by omega, by omega, t0, t1⟩ (Chg.set ..)
        · simp [hn1, e, hset, i1, i2, i3, a4, hr, hp, ea, hcell, hn, hd]
          exact q _ _ (k1 _) (k2 _) ⟨p + 1, _, cnt + 1, total, hset _, by omega, by omega, by omega, by omega, t0, t1⟩ (Chg.set ..)
    · simp [hn1, e, hset, i1, i2, i3, a4, hr, hn, hd]
      exact q _ _ (k1 _) (k2 _) ⟨p, _, cnt + 1, total, hset _, by omega, by omega, by omega, by omega, t0, t1⟩ (Chg.set ..)
end
theorem bag_ok (ns : List Int) (h : OH) (hl : ns.length ≤ 63) {P : D → OH → Prop} (q : ∀ o, Bag ns (h ++ [o]) h.length 0 → P (.ref h.length) (h ++ [o])) : (Sh.l_bag [.scr (ns.map D.int)] h).W P := by
  unfold Sh.l_bag
  rw [W_fn]
  unfold Sh.l_bag_b
  simp
  refine W_forL (fun k e h' => h' = h ∧ ∃ (t : Int) (c : Option D), e = [some (.scr (ns.map D.int)), some (.int t), c] ∧ 0 ≤ t ∧ t < 2305843009213693951) _ _ _ ⟨rfl, 1, none, rfl, by decide, by decide⟩ (fun k d hd e h' hI => ?_) (fun e h' hI => ?_)
  · obtain ⟨rfl, t, c, rfl, t1, t2⟩ := hI
    rw [List.getElem?_map, Option.map_eq_some_iff] at hd
    obtain ⟨x, hx, rfl⟩ := hd
    refine ⟨_, rfl, ?_⟩
    have m1 : mulOk t 1000003 = true := mulOk_r (by decide)
    have s3 : ∀ y : Int, 0 ≤ y % 2305843009213693951 ∧ y % 2305843009213693951 < 2305843009213693951 := fun y => ⟨Int.emod_nonneg _ (by decide), Int.emod_lt_of_pos _ (by decide)⟩
    simp [m1]
    exact ⟨(s3 _).1, (s3 _).2⟩
  · obtain ⟨rfl, t, c, rfl, t1, t2⟩ := hI
    simp [opList, seqAt, Res.W]
    exact q _ ⟨0, 0, 0, t, by simp, by decide, by omega, by decide, by decide, t1, t2⟩
end HR
set_option Elab.async false
set_option linter.all false
set_option maxRecDepth 20000
namespace HR
open PySem L2
/-! ### records as texts -/
abbrev Item := Option Str
def dI : Item → D
  | none => .non
  | some x => .str x
theorem pure_dI (x : Item) : (dI x).pure = true := by cases x <;> rfl
@[simp] theorem pureL_dI (xs : List Item) : D.pureL (xs.map dI) = true := pureL_map _ pure_dI xs
@[simp] theorem ok_dash : PyData.strOk "-" = true := by decide +kernel
@[simp] theorem W_sM1 (g : Str → D → OH → Res D) (o a : SE) (e : Env') (h : OH) {PD : D → OH → Prop} : (sM1 g o a e h).W PD = (o e h).W fun x h1 => match x with | .str s => (a e h1).W fun d h2 => (g s d h2).W PD | _ => False := by
  unfold sM1
  rw [W_bind]
  congr; funext x h1
  cases x with
  | str s => rw [W_bind]
  | _ => rfl
end HR
set_option Elab.async false
set_option linter.all false
set_option maxRecDepth 20000
set_option exponentiation.threshold 5000
namespace HR
open PySem L2
/-! ### the simulation: it runs through -/
def runFs (t : Tk) (i : Nat) (b : Bool) (sp wt : Int) : List (String × D) := [("member", dMem t), ("index", .int i), ("is_ready", .bl b), ("spoken", .int sp), ("waited", .int wt)]
def oRun (t : Tk) (i : Nat) (b : Bool) (sp wt : Int) : OO := .ins "Running" (runFs t i b sp wt)
@[simp] theorem W_make (K : String) (g : FN) (a : SA) (e : Env') (h : OH) {PD : D → OH → Prop} : (sMake K g a e h).W PD = (a e h).W fun ys h1 => (g (.ref h1.length :: ys) (h1 ++ [.ins K []])).W fun d h2 => (match d with | .non => PD (.ref h1.length) h2 | _ => False) := by
  unfold sMake
  rw [W_bind]
  congr; funext ys h1
  rw [W_bind, W_noX]
  congr; funext d h2
  cases d <;> rfl
@[simp] theorem SW_fldA (K f : String) (o v : SE) (e : Env') (h : OH) {N C B : Env' → OH → Prop} {R : D → OH → Prop} : (sFldA K f o v e h).W N C B R = (o e h).W fun x h1 => isR x fun n => lkI h1[n]? fun K' fs => if K' = K then (lkS (fs.lookup f) fun d => match d with
    | .int i => (v e h1).W fun y h2 => (match y with
      | .int j => lkI h2[n]? fun K2 fs2 => if K2 = K ∧ fs2.length < 900 then N e (h2.set n (.ins K (putS f (.int (i + j)) fs2))) else False
      | _ => False)
    | _ => False) else False := by
  unfold sFldA
  rw [W_toS]
  congr; funext x h1
  cases x with
  | ref n =>
    dsimp only [isR]
    cases h1[n]? with
    | none => rfl
    | some ob =>
      cases ob with
      | ins K' fs =>
        simp only [lkI_ins]
        by_cases q : K' = K
        · rw [if_pos q, if_pos q]
          cases fs.lookup f with
          | none => rfl
          | some d =>
            simp only [lkS_some]
            cases d with
            | int i =>
              dsimp only
              rw [W_toS]
              congr; funext y h2
              cases y with
              | int j =>
                cases h2[n]? with
                | none => rfl
                | some ob2 =>
                  cases ob2 with
                  | ins K2 fs2 => simp only [lkI_ins]; split <;> rfl
                  | _ => rfl
              | _ => cases h2[n]? <;> rfl
            | _ => rfl
        · rw [if_neg q, if_neg q]; rfl
      | _ => rfl
  | _ => rfl
section
variable {t : Tk} {i : Nat} {b : Bool} {sp wt : Int}
@[simp] theorem rf_member : (runFs t i b sp wt).lookup "member" = some (dMem t) := rfl
@[simp] theorem rf_index : (runFs t i b sp wt).lookup "index" = some (.int i) := rfl
@[simp] theorem rf_ready : (runFs t i b sp wt).lookup "is_ready" = some (.bl b) := rfl
@[simp] theorem rf_spoken : (runFs t i b sp wt).lookup "spoken" = some (.int sp) := rfl
@[simp] theorem rf_waited : (runFs t i b sp wt).lookup "waited" = some (.int wt) := rfl
@[simp] theorem rf_len : (runFs t i b sp wt).length = 5 := rfl
@[simp] theorem rf_wait : hasNo (runFs t i b sp wt) "wait" = True := eq_true rfl
@[simp] theorem rf_speak : hasNo (runFs t i b sp wt) "speak" = True := eq_true rfl
@[simp] theorem put_index : putS "index" (.int ((i : Int) + 1)) (runFs t i b sp wt) = runFs t (i + 1) b sp wt := by simp [putS, runFs]
@[simp] theorem put_ready (x : Bool) : putS "is_ready" (.bl x) (runFs t i b sp wt) = runFs t i x sp wt := by simp [putS, runFs]
@[simp] theorem put_spoken (x : Int) : putS "spoken" (.int x) (runFs t i b sp wt) = runFs t i b x wt := by simp [putS, runFs]
@[simp] theorem put_waited (x : Int) : putS "waited" (.int x) (runFs t i b sp wt) = runFs t i b sp x := by simp [putS, runFs]
@[simp] theorem put_all : putS "waited" (.int 0) (putS "spoken" (.int 0) (putS "is_ready" (.bl false) (putS "index" (.int 0) (putS "member" (dMem t) [])))) = runFs t 0 false 0 0 := by simp [putS, runFs]
@[simp] theorem ins_set {h : OH} {n : Nat} {C : String} {fs : List (String × D)} (lt : n < h.length) : insAt (h.set n (.ins C fs)) (.ref n) = some (C, fs) := ins_ref (by simp [lt])
end
/-- the instances of all talkers, in order, from 0 on; K: no index is above -/
def RunSt (ts : List Tk) (h : OH) (K : Nat) : Prop := ∀ (k : Nat) (t : Tk), ts[k]? = some t → ∃ (i : Nat) (b : Bool) (sp wt : Int), i ≤ K ∧ h[k]? = some (oRun t i b sp wt)
end HR
set_option Elab.async false
set_option linter.all false
set_option maxRecDepth 20000
set_option exponentiation.threshold 5000
namespace HR
open PySem L2
section
variable {ts : List Tk} {h : OH} {K : Nat}
theorem RunSt.mono {K' : Nat} (S : RunSt ts h K) (hk : K ≤ K') : RunSt ts h K' := fun k t e => by
  obtain ⟨i, b, sp, wt, a, q⟩ := S k t e
  exact ⟨i, b, sp, wt, by omega, q⟩
theorem RunSt.lt (S : RunSt ts h K) {k : Nat} (hk : k < ts.length) : k < h.length := by
  obtain ⟨i, b, sp, wt, _, q⟩ := S k ts[k] (by simp [hk])
  exact (List.getElem?_eq_some_iff.mp q).1
theorem RunSt.other (S : RunSt ts h K) {n : Nat} (hn : ts.length ≤ n) (o : OO) : RunSt ts (h.set n o) K := fun k t e => by
  obtain ⟨i, b, sp, wt, a, q⟩ := S k t e
  have := (List.getElem?_eq_some_iff.mp e).1
  exact ⟨i, b, sp, wt, a, by rw [List.getElem?_set_ne (by omega)]; exact q⟩
theorem RunSt.app (S : RunSt ts h K) (o : OH) : RunSt ts (h ++ o) K := fun k t e => by
  obtain ⟨i, b, sp, wt, a, q⟩ := S k t e
  exact ⟨i, b, sp, wt, a, by rw [List.getElem?_append_left (List.getElem?_eq_some_iff.mp q).1]; exact q⟩
theorem RunSt.at_ (S : RunSt ts h K) {k : Nat} (hk : k < ts.length) : ∃ (i : Nat) (b : Bool) (sp wt : Int), i ≤ K ∧ h[k]? = some (oRun ts[k] i b sp wt) := S k ts[k] (by simp [hk])
end
end HR
set_option Elab.async false
set_option linter.all false
set_option maxRecDepth 20000
set_option exponentiation.threshold 5000
set_option Elab.async false
set_option linter.all false
set_option maxRecDepth 20000
set_option exponentiation.threshold 5000
namespace HR
open PySem L2
structure Rs where
  i : Nat
  b : Bool
  sp : Int
  wt : Int
abbrev Cf := Tk × Rs
def waitR (t : Tk) (r : Rs) : Rs := ⟨r.i, r.wt + 1 == (nth t.pre t.cyc r.i).1, r.sp, r.wt + 1⟩
/-- does one wait at a tick -/
def waits (c : Option Tk) (x : Cf) : Bool := !x.2.b && (match c with | none => true | some u => decide (x.1.rank < u.rank))
def afterW (c : Option Tk) (x : Cf) : Cf := if waits c x then (x.1, waitR x.1 x.2) else x
def start (ts : List Tk) : List Cf := ts.map fun t => (t, ⟨0, false, 0, 0⟩)
def dN : Option Str → D
  | none => .non
  | some x => .str x
def oCf (x : Cf) : OO := oRun x.1 x.2.i x.2.b x.2.sp x.2.wt
theorem afterW_fst (c : Option Tk) (x : Cf) : (afterW c x).1 = x.1 := by
  unfold afterW
  split <;> rfl
/-! ### the program -/
end HR
set_option Elab.async false
set_option linter.all false
set_option maxRecDepth 20000
set_option exponentiation.threshold 5000
namespace HR
open PySem L2
/-- the heap in the midst of the waiting: the first i are through -/
def WaitIs (c : Option Tk) (S : List Cf) (i : Nat) (h : OH) : Prop := ∀ (k : Nat) (x : Cf), S[k]? = some x → h[k]? = some (oCf (if k < i then afterW c x else x))
theorem WaitIs.tk {c : Option Tk} {S : List Cf} {i : Nat} {h : OH} (R : WaitIs c S i h) {k : Nat} {x : Cf} (e : S[k]? = some x) : ∃ r, h[k]? = some (oCf (x.1, r)) := by
  have := R k x e
  split at this
  · refine ⟨(afterW c x).2, ?_⟩
    rw [this, ← afterW_fst c x]
  · exact ⟨x.2, this⟩
end HR
set_option Elab.async false
set_option linter.all false
set_option maxRecDepth 20000
set_option exponentiation.threshold 5000
namespace HR
open PySem L2
/-! ### a record, read tick by tick -/
/-- what it shows of one member: the talks that are over, the one that may go on, the quiet ticks since -/
structure Ob where
  done : List (Int × Int)
  cur : Option (Int × Int)
  q : Int
def Ob.tk (o : Ob) : List (Int × Int) := o.done ++ o.cur.toList
def speakO (o : Ob) : Ob := match o.cur with
  | some p => ⟨o.done, some (p.1, p.2 + 1), 0⟩
  | none => ⟨o.done, some (o.q, 1), 0⟩
/-- a tick at which one of the rank rs speaks, or nobody -/
def isQ (rs : Option Int) (r : Int) : Bool := match rs with
  | none => true
  | some s => decide (s > r)
def isC (rs : Option Int) (r : Int) : Bool := match rs with
  | none => true
  | some s => decide (s ≥ r)
def passO (rs : Option Int) (r : Int) (o : Ob) : Ob := ⟨if isC rs r then o.tk else o.done, if isC rs r then none else o.cur, if isQ rs r then o.q + 1 else o.q⟩
structure RdS where
  obs : Nat → Ob
  lp : Int → Int
variable (rk : Nat → Int)
def stepRd (x : Option Nat) (S : RdS) : RdS where
  obs := fun j => match x with
    | none => passO none (rk j) (S.obs j)
    | some k => if j = k then speakO (S.obs j) else passO (some (rk k)) (rk j) (S.obs j)
  lp := fun r => match x with
    | none => -1
    | some k => if rk k > r then -1 else if r = rk k then (if (k : Int) > S.lp r then (k : Int) else S.lp r) else S.lp r
/-- the kind of the fault if k speaks: silence (true), order (false) -/
def kindF (k : Nat) (S : RdS) : Option Bool := if (S.obs k).cur.isSome then none else if (S.obs k).q = 0 then some true else if S.lp (rk k) > k then some false else none
def runRd : List (Option Nat) → RdS → RdS
  | [], S => S
  | x :: xs, S => runRd xs (stepRd rk x S)
def S0 : RdS := ⟨fun _ => ⟨[], none, 0⟩, fun _ => -1⟩
theorem tk_pass (rs : Option Int) (r : Int) (o : Ob) : (passO rs r o).tk = o.tk := by
  unfold passO
  cases isC rs r <;> simp [Ob.tk]
/-! ### a record without a fault: what the end tells of what came before -/
end HR
set_option Elab.async false
set_option linter.all false
set_option maxRecDepth 20000
set_option exponentiation.threshold 5000
set_option Elab.async false
set_option linter.all false
set_option maxRecDepth 20000
set_option exponentiation.threshold 5000
set_option Elab.async false
set_option linter.all false
set_option maxRecDepth 20000
set_option exponentiation.threshold 5000
namespace HR
open PySem L2
/-! ### the reading of a record by the program -/
def obFs (j : Nat) (m : Str × Int) (l : Nat) (o : Ob) : List (String × D) := [("position", .int j), ("name", .str m.1), ("rank", .int m.2), ("found_talks", .ref l), ("quiet_ticks", .int o.q), ("is_open", .bl o.cur.isSome)]
section
variable {j : Nat} {m : Str × Int} {l : Nat} {o : Ob}
@[simp] theorem ofs_pos : (obFs j m l o).lookup "position" = some (.int j) := rfl
@[simp] theorem ofs_name : (obFs j m l o).lookup "name" = some (.str m.1) := rfl
@[simp] theorem ofs_rank : (obFs j m l o).lookup "rank" = some (.int m.2) := rfl
@[simp] theorem ofs_talks : (obFs j m l o).lookup "found_talks" = some (.ref l) := rfl
@[simp] theorem ofs_q : (obFs j m l o).lookup "quiet_ticks" = some (.int o.q) := rfl
@[simp] theorem ofs_open : (obFs j m l o).lookup "is_open" = some (.bl o.cur.isSome) := rfl
@[simp] theorem ofs_len : (obFs j m l o).length = 6 := rfl
@[simp] theorem ofs_n1 : hasNo (obFs j m l o) "speak_on" = True := eq_true rfl
@[simp] theorem ofs_n2 : hasNo (obFs j m l o) "pass_tick" = True := eq_true rfl
end
theorem W_isR (i : Nat) (neg : Bool) (h : OH) {PD : D → OH → Prop} : (opIs neg (.ref i) .non h).W PD = PD (.bl neg) h := by cases neg <;> rfl
theorem ixN_last {n : Nat} : ixN (n + 1) (-1) = some n := by
  unfold ixN
  rw [if_neg (by decide), if_pos (by omega)]
  congr 1
  omega
theorem atI_last {α : Type} (xs : List α) (x : α) : atI (xs ++ [x]) (-1) = some x := by
  have e : (xs ++ [x]).length = xs.length + 1 := by simp
  unfold atI
  rw [e, ixN_last]
  simp
/-- who speaks: nobody, or an object with a rank -/
def SpkD (rs : Option Int) (d : D) (h : OH) (i : Nat) : Prop := match rs with
  | none => d = .non
  | some s => ∃ k fs, d = .ref k ∧ k ≠ i ∧ h[k]? = some (.ins "Observed" fs) ∧ fs.lookup "rank" = some (.int s)
section
variable {h : OH} {i : Nat} {j : Nat} {m : Str × Int} {l : Nat} {o : Ob}
theorem ob_init {nm : Str} {r : Int} (e : h[i]? = some (.ins "Observed" [])) {PD : D → OH → Prop} (q : PD .non ((h ++ [OO.lst []]).set i (OO.ins "Observed" (obFs j (nm, r) h.length ⟨[], none, 0⟩)))) : (Sh.Observed_init [.ref i, .int j, .str nm, .int r] h).W PD := by
  have lt := (List.getElem?_eq_some_iff.mp e).1
  have hs : ∀ x : OO, (h.set i x)[i]? = some x := fun x => by simp [lt]
  have ha : ∀ (x : OO) (t : OH), (h.set i x ++ t)[i]? = some x := fun x t => by rw [List.getElem?_append_left (by simpa using lt)]; exact hs x
  have hq : ∀ (x : OO) (y : OO) (t : OH), (h.set i x ++ t).set i y = h.set i y ++ t := fun x y t => by
    rw [List.set_append_left _ _ (by simpa using lt), List.set_set]
  unfold Sh.Observed_init; rw [W_fn]; unfold Sh.Observed_init_b
  simp [isR, e, hs, ha, hq, putS]
  rw [List.set_append_left _ _ lt] at q
  exact q
theorem ob_pass {rs : Option Int} {d : D} (e : h[i]? = some (.ins "Observed" (obFs j m l o))) (sd : SpkD rs d h i) {PD : D → OH → Prop} (q : PD .non (h.set i (.ins "Observed" (obFs j m l (passO rs m.2 o))))) : (Sh.Observed_pass_tick [.ref i, d] h).W PD := by
  have lt := (List.getElem?_eq_some_iff.mp e).1
  have hs : ∀ x : OO, (h.set i x)[i]? = some x := fun x => by simp [lt]
  have si : ∀ fs, insAt (h.set i (.ins "Observed" fs)) (.ref i) = some ("Observed", fs) := fun fs => ins_set lt
  have s0 := ins_ref e
  have hset : h.set i (.ins "Observed" (obFs j m l o)) = h := by
    refine List.ext_getElem? fun k => ?_
    by_cases c : i = k
    · subst c; rw [hs]; exact e.symm
    · rw [List.getElem?_set_ne c]
  have pq : ∀ x, putS "quiet_ticks" (.int x) (obFs j m l o) = obFs j m l ⟨o.done, o.cur, x⟩ := fun x => by simp [putS, obFs]
  have po : ∀ o : Ob, putS "is_open" (.bl false) (obFs j m l o) = obFs j m l ⟨o.tk, none, o.q⟩ := fun x => by simp [putS, obFs]
  unfold Sh.Observed_pass_tick; rw [W_fn]; unfold Sh.Observed_pass_tick_b
  have wr := W_isR
  cases rs with
  | none =>
    cases sd
    simp [isR, e, hs, pq, po]
    exact q
  | some s =>
    obtain ⟨k, fs, rfl, ne, ek, er⟩ := sd
    have sk : ∀ x : OO, insAt (h.set i x) (.ref k) = some ("Observed", fs) := fun x => ins_ref (by rw [List.getElem?_set_ne (Ne.symm ne)]; exact ek)
    have sk0 := ins_ref ek
    have isq : isQ (some s) m.2 = decide (m.2 < s) := rfl
    have isc : isC (some s) m.2 = decide (m.2 ≤ s) := rfl
    by_cases c1 : m.2 < s
    · have c2 : m.2 ≤ s := by omega
      have z : passO (some s) m.2 o = ⟨(⟨o.done, o.cur, o.q + 1⟩ : Ob).tk, none, o.q + 1⟩ := by simp [passO, isq, isc, c1, c2, Ob.tk]
      rw [z] at q
      simp [isR, wr, e, hs, si, s0, sk, sk0, er, pq, po, c1, c2]
      exact q
    · by_cases c2 : m.2 ≤ s
      · have z : passO (some s) m.2 o = ⟨o.tk, none, o.q⟩ := by simp [passO, isq, isc, c1, c2]
        rw [z] at q
        simp [isR, wr, e, hs, si, s0, sk, sk0, er, pq, po, c1, c2]
        exact q
      · have z : passO (some s) m.2 o = o := by
          cases o
          simp [passO, isq, isc, c1, c2]
        rw [z, hset] at q
        simp [isR, wr, e, hs, si, s0, sk, sk0, er, pq, po, c1, c2]
        exact q
theorem ob_speak (e : h[i]? = some (.ins "Observed" (obFs j m l o))) (el : h[l]? = some (.lst (o.tk.map dT))) (hl : o.tk.length < 1000) (ne : i ≠ l) {PD : D → OH → Prop}
    (q : PD .non ((h.set l (.lst ((speakO o).tk.map dT))).set i (.ins "Observed" (obFs j m l (speakO o))))) : (Sh.Observed_speak_on [.ref i] h).W PD := by
  have lt := (List.getElem?_eq_some_iff.mp e).1
  have ltl := (List.getElem?_eq_some_iff.mp el).1
  have s0 := ins_ref e
  have hs : ∀ x y : OO, ((h.set l y).set i x)[i]? = some x := fun x y => by simp [lt]
  have hl0 : ∀ y : OO, (h.set l y)[i]? = some (.ins "Observed" (obFs j m l o)) := fun y => by rw [List.getElem?_set_ne (Ne.symm ne)]; exact e
  have si : ∀ y : OO, insAt (h.set l y) (.ref i) = some ("Observed", obFs j m l o) := fun y => ins_ref (hl0 y)
  have si2 : ∀ (y : OO) fs, insAt ((h.set l y).set i (.ins "Observed" fs)) (.ref i) = some ("Observed", fs) := fun y fs => ins_ref (hs _ y)
  have pq : putS "is_open" (.bl true) (putS "quiet_ticks" (.int 0) (obFs j m l o)) = obFs j m l (speakO o) := by
    unfold speakO
    cases o.cur <;> simp [putS, obFs]
  have pql : (putS "quiet_ticks" (.int 0) (obFs j m l o)).length = 6 := rfl
  unfold Sh.Observed_speak_on; rw [W_fn]; unfold Sh.Observed_speak_on_b
  cases ec : o.cur with
  | some p =>
    have et : o.tk = o.done ++ [p] := by simp [Ob.tk, ec]
    have et2 : (speakO o).tk = o.done ++ [(p.1, p.2 + 1)] := by simp [Ob.tk, speakO, ec]
    rw [et2] at q
    rw [et] at el
    simp only [List.map_append, List.map_cons, List.map_nil] at el q
    simp [isR, s0, ec, el, atI_last, ixN_last, gT, gCs, gN, gNl, seqAt, dT, hl0, hs, pq, pql] at q ⊢
    exact q
  | none =>
    have et : o.tk = o.done := by simp [Ob.tk, ec]
    have et2 : (speakO o).tk = o.done ++ [(o.q, 1)] := by simp [Ob.tk, speakO, ec]
    rw [et2] at q
    rw [et] at el hl
    simp only [List.map_append, List.map_cons, List.map_nil] at el q
    have hl2 : o.done.length < 1000000 := by omega
    have lk : h[l]? = some (.lst (o.done.map dT)) := el
    simp [isR, s0, ec, el, isOwn, hl2, dT, hl0, hs, pq, pql] at q ⊢
    exact q
end
end HR
set_option Elab.async false
set_option linter.all false
set_option maxRecDepth 20000
set_option exponentiation.threshold 5000
namespace HR
open PySem L2
def lpD (lp : Int → Int) : List (Key × D) := (List.range 10).map fun (r : Nat) => (Sum.inl ((r : Int) + 1), D.int (lp ((r : Int) + 1)))
theorem ten {r : Int} (h1 : 1 ≤ r) (h2 : r ≤ 10) : r = 1 ∨ r = 2 ∨ r = 3 ∨ r = 4 ∨ r = 5 ∨ r = 6 ∨ r = 7 ∨ r = 8 ∨ r = 9 ∨ r = 10 := by omega
theorem lpD_ten (lp : Int → Int) : lpD lp = [(.inl 1, .int (lp 1)), (.inl 2, .int (lp 2)), (.inl 3, .int (lp 3)), (.inl 4, .int (lp 4)), (.inl 5, .int (lp 5)), (.inl 6, .int (lp 6)), (.inl 7, .int (lp 7)), (.inl 8, .int (lp 8)), (.inl 9, .int (lp 9)), (.inl 10, .int (lp 10))] := rfl
theorem lp_get (lp : Int → Int) {r : Int} (h1 : 1 ≤ r) (h2 : r ≤ 10) : getK (lpD lp) (.inl r) = some (.int (lp r)) := by
  rw [lpD_ten]
  rcases ten h1 h2 with rfl | rfl | rfl | rfl | rfl | rfl | rfl | rfl | rfl | rfl <;> simp [getK]
theorem lp_put (lp : Int → Int) {r x : Int} (h1 : 1 ≤ r) (h2 : r ≤ 10) : putD (lpD lp) (.inl r) (.int x) = lpD fun s => if s = r then x else lp s := by
  rw [lpD_ten, lpD_ten]
  rcases ten h1 h2 with rfl | rfl | rfl | rfl | rfl | rfl | rfl | rfl | rfl | rfl <;> simp [putD]
theorem lp_len (lp : Int → Int) : (lpD lp).length = 10 := rfl
theorem lp_congr {lp lp' : Int → Int} (h : ∀ r, 1 ≤ r → r ≤ 10 → lp r = lp' r) : lpD lp = lpD lp' := by
  rw [lpD_ten, lpD_ten]
  simp [h]
def rdRefs (b n : Nat) : List D := (List.range n).map fun j => D.ref (b + 1 + 2 * j)
def rdFs (b n : Nat) (flt : D) : List (String × D) := [("observed", .lst (rdRefs b n)), ("last_position", .ref (b + 1 + 2 * n)), ("fault", flt)]
/-- the reading stands at b -/
structure RdIs (ms : List (Str × Int)) (b : Nat) (S : RdS) (flt : D) (h : OH) : Prop where
  len : h.length = b + 2 * ms.length + 2
  rd : h[b]? = some (.ins "Reading" (rdFs b ms.length flt))
  ob : ∀ j m, ms[j]? = some m → h[b + 1 + 2 * j]? = some (.ins "Observed" (obFs j m (b + 2 + 2 * j) (S.obs j))) ∧ h[b + 2 + 2 * j]? = some (.lst ((S.obs j).tk.map dT))
  lp : h[b + 1 + 2 * ms.length]? = some (.dct (lpD S.lp))
section
variable {ms : List (Str × Int)} {b : Nat} {S : RdS} {flt : D} {h : OH}
@[simp] theorem rfs_obs (b n : Nat) (flt : D) : (rdFs b n flt).lookup "observed" = some (.lst (rdRefs b n)) := rfl
@[simp] theorem rfs_lp (b n : Nat) (flt : D) : (rdFs b n flt).lookup "last_position" = some (.ref (b + 1 + 2 * n)) := rfl
@[simp] theorem rfs_flt (b n : Nat) (flt : D) : (rdFs b n flt).lookup "fault" = some flt := rfl
@[simp] theorem rfs_len (b n : Nat) (flt : D) : (rdFs b n flt).length = 3 := rfl
@[simp] theorem rfs_n1 (b n : Nat) (flt : D) : hasNo (rdFs b n flt) "kind_of_fault" = True := eq_true rfl
@[simp] theorem rfs_n2 (b n : Nat) (flt : D) : hasNo (rdFs b n flt) "read_tick" = True := eq_true rfl
theorem RdIs.congr {S' : RdS} (R : RdIs ms b S flt h) (ho : ∀ j, j < ms.length → S'.obs j = S.obs j) (hl : ∀ r, 1 ≤ r → r ≤ 10 → S'.lp r = S.lp r) : RdIs ms b S' flt h :=
  ⟨R.len, R.rd, fun j m e => by rw [ho j (List.getElem?_eq_some_iff.mp e).1]; exact R.ob j m e, by rw [lp_congr hl]; exact R.lp⟩
theorem RdIs.setLp (R : RdIs ms b S flt h) (lp : Int → Int) : RdIs ms b ⟨S.obs, lp⟩ flt (h.set (b + 1 + 2 * ms.length) (.dct (lpD lp))) := by
  refine ⟨by simpa using R.len, ?_, fun j m e => ?_, ?_⟩
  · rw [List.getElem?_set_ne (by omega)]; exact R.rd
  · have := (List.getElem?_eq_some_iff.mp e).1
    rw [List.getElem?_set_ne (by omega), List.getElem?_set_ne (by omega)]
    exact R.ob j m e
  · have := R.len
    rw [List.getElem?_set_self (by omega)]
theorem RdIs.setOb (R : RdIs ms b S flt h) {k : Nat} {m : Str × Int} (ek : ms[k]? = some m) (o : Ob) : RdIs ms b ⟨fun j => if j = k then o else S.obs j, S.lp⟩ flt ((h.set (b + 2 + 2 * k) (.lst (o.tk.map dT))).set (b + 1 + 2 * k) (.ins "Observed" (obFs k m (b + 2 + 2 * k) o))) := by
  have hk := (List.getElem?_eq_some_iff.mp ek).1
  have hl := R.len
  refine ⟨by simpa using hl, ?_, fun j m2 e => ?_, ?_⟩
  · rw [List.getElem?_set_ne (by omega), List.getElem?_set_ne (by omega)]; exact R.rd
  · by_cases c : j = k
    · subst c
      rw [ek] at e
      cases e
      simp only [if_true]
      rw [List.getElem?_set_self (by simp; omega), List.getElem?_set_ne (by omega), List.getElem?_set_self (by omega)]
      exact ⟨rfl, rfl⟩
    · simp only [if_neg c]
      rw [List.getElem?_set_ne (by omega), List.getElem?_set_ne (by omega), List.getElem?_set_ne (by omega), List.getElem?_set_ne (by omega)]
      exact R.ob j m2 e
  · rw [List.getElem?_set_ne (by omega), List.getElem?_set_ne (by omega)]; exact R.lp
theorem RdIs.setOb0 (R : RdIs ms b S flt h) {k : Nat} {m : Str × Int} (ek : ms[k]? = some m) (o : Ob) (et : o.tk = (S.obs k).tk) : RdIs ms b ⟨fun j => if j = k then o else S.obs j, S.lp⟩ flt (h.set (b + 1 + 2 * k) (.ins "Observed" (obFs k m (b + 2 + 2 * k) o))) := by
  have e : h.set (b + 2 + 2 * k) (.lst (o.tk.map dT)) = h := by
    have := (R.ob k m ek).2
    rw [et]
    refine List.ext_getElem? fun i => ?_
    by_cases c : b + 2 + 2 * k = i
    · subst c
      rw [List.getElem?_set_self (List.getElem?_eq_some_iff.mp this).1]
      exact this.symm
    · rw [List.getElem?_set_ne c]
  have := R.setOb ek o
  rw [e] at this
  exact this
def gMb : Str × Int := (gTk.name, gTk.rank)
def rkM (ms : List (Str × Int)) (j : Nat) : Int := (ms.getD j gMb).2
structure WfM (ms : List (Str × Int)) : Prop where
  len : ms.length ≤ 10
  rk : ∀ m ∈ ms, 1 ≤ m.2 ∧ m.2 ≤ 10
  nm : ∀ m ∈ ms, WfN m.1
  nd : (ms.map (·.1)).Nodup
theorem rkM_at {j : Nat} {m : Str × Int} (e : ms[j]? = some m) : rkM ms j = m.2 := by simp [rkM, e]
def dKd : Option Bool → D
  | none => .non
  | some true => .str "silence"
  | some false => .str "order"
/-- who speaks, as a value -/
def spkD (b : Nat) : Option Nat → D
  | none => .non
  | some k => .ref (b + 1 + 2 * k)
theorem kind_ok (R : RdIs ms b S flt h) (w : WfM ms) {k : Nat} (hk : k < ms.length) {PD : D → OH → Prop} (q : PD (dKd (kindF (rkM ms) k S)) h) : (Sh.Reading_kind_of_fault [.ref b, .ref (b + 1 + 2 * k)] h).W PD := by
  obtain ⟨m, em⟩ : ∃ m, ms[k]? = some m := ⟨_, List.getElem?_eq_getElem hk⟩
  have rr := w.rk m (List.mem_of_getElem? em)
  have er := rkM_at em
  have i1 := ins_ref R.rd
  have i2 := ins_ref (R.ob k m em).1
  have dc := dctAt_ref R.lp
  have g := lp_get S.lp rr.1 rr.2
  unfold Sh.Reading_kind_of_fault; rw [W_fn]; unfold Sh.Reading_kind_of_fault_b
  unfold kindF at q
  rw [er] at q
  cases ec : (S.obs k).cur with
  | some p =>
    rw [ec] at q
    simp [i2, ec]
    exact q
  | none =>
    rw [ec] at q
    by_cases c : (S.obs k).q = 0
    · simp only [Option.isSome_none, Bool.false_eq_true, if_false, if_pos c] at q
      simp [i2, ec, c]
      exact q
    · simp only [Option.isSome_none, Bool.false_eq_true, if_false, if_neg c] at q
      simp [i1, i2, ec, c, W_ixD dc (keyD_int _) g]
      by_cases c2 : S.lp m.2 > k
      · rw [if_pos c2] at q
        rw [if_pos (show (k : Int) < S.lp m.2 from c2)]
        exact q
      · rw [if_neg c2] at q
        rw [if_neg (show ¬ (k : Int) < S.lp m.2 from c2)]
        exact q
end
end HR
set_option Elab.async false
set_option linter.all false
set_option maxRecDepth 20000
set_option exponentiation.threshold 5000
namespace HR
open PySem L2
section
variable {ms : List (Str × Int)} {b : Nat} {S : RdS} {flt : D} {h : OH}
theorem rdRefs_at {b n j : Nat} {d : D} (e : (rdRefs b n)[j]? = some d) : j < n ∧ d = .ref (b + 1 + 2 * j) := by
  unfold rdRefs at e
  rw [List.getElem?_map, Option.map_eq_some_iff] at e
  obtain ⟨k, hk, rfl⟩ := e
  obtain ⟨h1, h2⟩ := List.getElem?_eq_some_iff.mp hk
  rw [List.getElem_range] at h2
  subst h2
  exact ⟨by simpa using h1, rfl⟩
/-- the positions, behind what a tick forgets -/
def rsF (ms : List (Str × Int)) (S : RdS) (x : Option Nat) (r : Int) : Int := match x with
  | none => -1
  | some k => if rkM ms k > r then -1 else S.lp r
theorem tick_ok (R : RdIs ms b S flt h) (w : WfM ms) {x : Option Nat} (hx : ∀ k, x = some k → k < ms.length) (hl : ∀ j, (S.obs j).tk.length < 1000) {PD : D → OH → Prop} (q : ∀ h', RdIs ms b (stepRd (rkM ms) x S) flt h' → PD .non h') : (Sh.Reading_read_tick [.ref b, spkD b x] h).W PD := by
  have hn := w.len
  unfold Sh.Reading_read_tick; rw [W_fn]; unfold Sh.Reading_read_tick_b
  have i1 := ins_ref R.rd
  -- the members
  refine SW_seqK fun K hK => ?_
  simp [i1]
  refine W_forL (fun i e h' => RdIs ms b ⟨fun j => if j < i then (stepRd (rkM ms) x S).obs j else S.obs j, S.lp⟩ flt h' ∧ ∃ a c : Option D, e = [some (.ref b), some (spkD b x), a, c]) _ _ _ ⟨R.congr (fun j _ => by simp) (fun _ _ _ => rfl), _, _, rfl⟩ (fun i d hd e h' hI => ?_) (fun e h' hI => ?_)
  · obtain ⟨R1, a, c, rfl⟩ := hI
    obtain ⟨hi, rfl⟩ := rdRefs_at hd
    obtain ⟨m, em⟩ : ∃ m, ms[i]? = some m := ⟨_, List.getElem?_eq_getElem hi⟩
    have er := rkM_at em
    have oi := R1.ob i m em
    simp only [Nat.lt_irrefl, if_false] at oi
    have ii := ins_ref oi.1
    have next : ∀ {o : Ob} {h2 : OH}, (stepRd (rkM ms) x S).obs i = o → RdIs ms b ⟨fun j => if j = i then o else if j < i then (stepRd (rkM ms) x S).obs j else S.obs j, S.lp⟩ flt h2 → RdIs ms b ⟨fun j => if j < i + 1 then (stepRd (rkM ms) x S).obs j else S.obs j, S.lp⟩ flt h2 := fun {o h2} eo R2 => by
      refine R2.congr (fun j hj => ?_) fun _ _ _ => rfl
      dsimp only
      by_cases c1 : j = i
      · rw [if_pos (by omega), if_pos c1, c1, eo]
      · by_cases c2 : j < i
        · rw [if_pos (by omega), if_neg c1, if_pos c2]
        · rw [if_neg (by omega), if_neg c1, if_neg c2]
    refine ⟨_, rfl, ?_⟩
    cases x with
    | none =>
      have we := fun (PD : D → OH → Prop) => W_eqI_non (PD := PD) (es := ["Observed"]) oi.1 (by decide)
      simp [spkD, we, ii]
      refine ob_pass (rs := none) oi.1 rfl ?_
      have e1 : (stepRd (rkM ms) none S).obs i = passO none m.2 (S.obs i) := by simp [stepRd, er]
      exact next e1 (R1.setOb0 em _ (by simp only [Nat.lt_irrefl, if_false]; exact tk_pass _ _ _))
    | some k =>
      have hk := hx k rfl
      obtain ⟨mk, emk⟩ : ∃ m, ms[k]? = some m := ⟨_, List.getElem?_eq_getElem hk⟩
      have erk := rkM_at emk
      have ok := R1.ob k mk emk
      have we := fun (PD : D → OH → Prop) => W_eqI_ref (PD := PD) (es := ["Observed"]) oi.1 (by decide) ok.1
      simp [spkD, we]
      by_cases c : i = k
      · subst c
        simp [ii]
        refine ob_speak oi.1 oi.2 (hl i) (by omega) ?_
        have e1 : (stepRd (rkM ms) (some i) S).obs i = speakO (S.obs i) := by simp [stepRd]
        exact next e1 (R1.setOb em _)
      · have ne : ¬ b + 1 + 2 * i = b + 1 + 2 * k := by omega
        have ne2 : ¬ 2 * i = 2 * k := by omega
        simp [ne2, c, ii]
        refine ob_pass (rs := some (rkM ms k)) oi.1 ⟨_, _, rfl, by omega, ok.1, by rw [erk]; rfl⟩ ?_
        have e1 : (stepRd (rkM ms) (some k) S).obs i = passO (some (rkM ms k)) m.2 (S.obs i) := by simp [stepRd, er, c]
        exact next e1 (R1.setOb0 em _ (by simp only [Nat.lt_irrefl, if_false]; exact tk_pass _ _ _))
  obtain ⟨R1, a, c, rfl⟩ := hI
  have R1 : RdIs ms b ⟨(stepRd (rkM ms) x S).obs, S.lp⟩ flt h' := R1.congr (fun j hj => by
    have : j < (rdRefs b ms.length).length := by simpa [rdRefs] using hj
    dsimp only
    rw [if_pos this]) fun _ _ _ => rfl
  refine hK _ _ ?_
  clear hK K hl R i1
  -- the ranks
  obtain ⟨rs, hrs⟩ : ∃ rs, rs = rsF ms S x := ⟨_, rfl⟩
  refine SW_seqK fun K hK => ?_
  have r1 : rngOk 1 = true := by decide
  have r2 : rngOk 11 = true := by decide
  simp [r1, r2]
  refine W_forL (fun i e h' => RdIs ms b ⟨(stepRd (rkM ms) x S).obs, fun r => if r ≤ i then rs r else S.lp r⟩ flt h' ∧ ∃ a c : Option D, e = [some (.ref b), some (spkD b x), a, c]) _ _ _ ⟨R1.congr (fun _ _ => rfl) (fun r h1 _ => by dsimp only; rw [if_neg (by omega)]), _, _, rfl⟩ (fun i d hd e h2 hI => ?_) (fun e h2 hI => ?_)
  · obtain ⟨R2, a2, c2, rfl⟩ := hI
    obtain ⟨hi, rfl⟩ := rngD_at hd
    refine ⟨_, rfl, ?_⟩
    have i2 := ins_ref R2.rd
    have ek : keyD (.int (1 + (i : Int))) = some (.inl (1 + (i : Int))) := rfl
    have lb : (10 : Nat) < big := by decide
    have lset : ∀ r : Int, (r ≤ ((i : Int) + 1) ∧ ¬ r ≤ (i : Int)) ↔ r = 1 + (i : Int) := fun r => by omega
    have fin : ∀ v : Int, v = rs (1 + (i : Int)) → RdIs ms b ⟨(stepRd (rkM ms) x S).obs, fun r => if r ≤ ((i + 1 : Nat) : Int) then rs r else S.lp r⟩ flt (h2.set (b + 1 + 2 * ms.length) (.dct (putD (lpD fun r => if r ≤ (i : Int) then rs r else S.lp r) (.inl (1 + (i : Int))) (.int v)))) := fun v hv => by
      rw [lp_put _ (by omega) (by omega)]
      refine (R2.setLp _).congr (fun _ _ => rfl) fun r h1 h2 => ?_
      dsimp only
      by_cases c1 : r = 1 + (i : Int)
      · rw [if_pos (by omega), if_pos c1, hv, c1]
      · by_cases c3 : r ≤ (i : Int)
        · rw [if_pos (by omega), if_neg c1, if_pos c3]
        · rw [if_neg (by omega), if_neg c1, if_neg c3]
    have stay : rs (1 + (i : Int)) = S.lp (1 + (i : Int)) → RdIs ms b ⟨(stepRd (rkM ms) x S).obs, fun r => if r ≤ ((i + 1 : Nat) : Int) then rs r else S.lp r⟩ flt h2 := fun he => by
      refine R2.congr (fun _ _ => rfl) fun r h1 h2 => ?_
      dsimp only
      by_cases c1 : r = 1 + (i : Int)
      · rw [if_pos (by omega), if_neg (by omega), c1, he]
      · by_cases c3 : r ≤ (i : Int)
        · rw [if_pos (by omega), if_pos c3]
        · rw [if_neg (by omega), if_neg c3]
    cases x with
    | none =>
      simp [spkD, i2, ek, R2.lp, lp_len, lb]
      exact fin (-1) (by rw [hrs]; rfl)
    | some k =>
      have hk := hx k rfl
      obtain ⟨mk, emk⟩ : ∃ m, ms[k]? = some m := ⟨_, List.getElem?_eq_getElem hk⟩
      have erk := rkM_at emk
      have ik := ins_ref (R2.ob k mk emk).1
      by_cases c : 1 + (i : Int) < mk.2
      · simp [spkD, W_isR, ik, c, i2, ek, R2.lp, lp_len, lb]
        refine fin (-1) ?_
        rw [hrs]
        show _ = if rkM ms k > 1 + (i : Int) then -1 else S.lp (1 + (i : Int))
        rw [erk, if_pos c]
      · simp [spkD, W_isR, ik, c, i2]
        refine stay ?_
        rw [hrs]
        show (if rkM ms k > 1 + (i : Int) then -1 else S.lp (1 + (i : Int))) = _
        rw [erk, if_neg c]
  obtain ⟨R2, a2, c2, rfl⟩ := hI
  refine hK _ _ ?_
  clear hK K R1
  have i2 := ins_ref R2.rd
  cases x with
  | none =>
    simp [spkD]
    refine q _ (R2.congr (fun _ _ => rfl) fun r h1 h3 => ?_)
    simp [stepRd, hrs, rsF]
    omega
  | some k =>
    have hk := hx k rfl
    obtain ⟨mk, emk⟩ : ∃ m, ms[k]? = some m := ⟨_, List.getElem?_eq_getElem hk⟩
    have erk := rkM_at emk
    have rr := w.rk mk (List.mem_of_getElem? emk)
    have ik := ins_ref (R2.ob k mk emk).1
    have dc := dctAt_ref R2.lp
    have l10 : mk.2 ≤ ((rngD 1 10).length : Int) := by simp; omega
    have g := lp_get (fun r => if r ≤ ((rngD 1 10).length : Int) then rs r else S.lp r) rr.1 rr.2
    have ev : rs mk.2 = S.lp mk.2 := by
      rw [hrs]
      show (if rkM ms k > mk.2 then -1 else S.lp mk.2) = _
      rw [erk, if_neg (by omega)]
    rw [if_pos l10, ev] at g
    have lb : (10 : Nat) < big := by decide
    simp only [spkD]
    simp [W_isR, ik, i2, W_ixD dc (keyD_int _) g, R2.lp, lp_len, lb]
    rw [lp_put _ rr.1 rr.2]
    refine q _ ((R2.setLp _).congr (fun _ _ => rfl) fun r h1 h3 => ?_)
    have l10r : r ≤ 10 := h3
    simp only [stepRd, erk]
    by_cases c1 : r = mk.2
    · subst c1
      rw [if_neg (by omega)]
      simp only [if_true]
    · rw [if_neg c1, if_neg c1]
      simp only [l10r, if_true, hrs, rsF, erk]
end
end HR
set_option Elab.async false
set_option linter.all false
set_option maxRecDepth 20000
set_option exponentiation.threshold 5000
namespace HR
open PySem L2
def dMb (m : Str × Int) : D := .tup [.str m.1, .int m.2]
@[simp] theorem pure_dMb (m : Str × Int) : (dMb m).pure = true := by simp [dMb]
@[simp] theorem pureL_dMb (ms : List (Str × Int)) : D.pureL (ms.map dMb) = true := pureL_map _ pure_dMb ms
@[simp] theorem pureL_dN (xs : List (Option Str)) : D.pureL (xs.map dN) = true := pureL_map _ (fun x => by cases x <;> rfl) xs
def nmM (ms : List (Str × Int)) (x : Option Nat) : Option Str := x.map fun k => (ms.getD k gMb).1
def endRd (rk : Nat → Int) : List (Option Nat) → Nat → RdS → Option (Nat × Bool) × RdS
  | [], _, S => (none, S)
  | x :: xs, t, S => match x.bind fun k => kindF rk k S with
    | some kd => (some (t, kd), S)
    | none => endRd rk xs (t + 1) (stepRd rk x S)
def dFlt : Option (Nat × Bool) → D
  | none => .non
  | some p => .tup [.int p.1, dKd (some p.2)]
theorem tk_len_step (rk : Nat → Int) (x : Option Nat) (S : RdS) (j : Nat) : ((stepRd rk x S).obs j).tk.length ≤ (S.obs j).tk.length + 1 := by
  cases x with
  | none => simp only [stepRd, tk_pass]; omega
  | some k =>
    by_cases e : j = k
    · simp only [stepRd, if_pos e, speakO, Ob.tk]
      cases (S.obs j).cur <;> simp
    · simp only [stepRd, if_neg e, tk_pass]; omega
section
variable {ms : List (Str × Int)} {b : Nat} {h : OH}
theorem mb_at {k : Nat} (hk : k < ms.length) : ms[k]? = some (ms.getD k gMb) := by simp [hk]
theorem find_nm (w : WfM ms) {k : Nat} (hk : k < ms.length) : (List.range ms.length).filter (fun j => (ms.getD j gMb).1 == (ms.getD k gMb).1) = [k] := by
  have e : (List.range ms.length).filter (fun j => (ms.getD j gMb).1 == (ms.getD k gMb).1) = (List.range ms.length).filter (fun j => j == k) := by
    refine List.filter_congr fun j hj => ?_
    have hj := List.mem_range.mp hj
    rw [Bool.eq_iff_iff]
    simp only [beq_iff_eq]
    refine ⟨fun z => ?_, fun z => by rw [z]⟩
    have a : (ms.map (·.1))[j]? = some (ms.getD j gMb).1 := by simp [hj]
    have c : (ms.map (·.1))[k]? = some (ms.getD k gMb).1 := by simp [hk]
    exact (List.getElem?_inj (by simpa using hj) w.nd).mp (by rw [a, c, z])
  rw [e]
  have key : ∀ n, k < n → (List.range n).filter (fun j => j == k) = [k] := by
    intro n
    induction n with
    | zero => intro h; omega
    | succ n ih =>
      intro h
      rw [List.range_succ, List.filter_append]
      by_cases c : k < n
      · rw [ih c]
        have : n ≠ k := by omega
        simp [this]
      · have : n = k := by omega
        subst this
        have z : (List.range n).filter (fun j => j == n) = [] := List.filter_eq_nil_iff.mpr fun j hj => by
          have := List.mem_range.mp hj
          simp
          omega
        rw [z]
        simp
  exact key _ hk
theorem enumAt {xs : List D} {i : Nat} {d : D} (e : (enumD xs)[i]? = some d) : ∃ y, xs[i]? = some y ∧ d = .tup [.int i, y] := by
  unfold enumD at e
  first
    | (rw [List.getElem?_mapIdx, Option.map_eq_some_iff] at e; obtain ⟨y, h1, h2⟩ := e; exact ⟨y, h1, h2.symm⟩)
    | (simp at e; obtain ⟨y, h1, h2⟩ := e; exact ⟨y, h1, h2.symm⟩)
end
end HR
set_option Elab.async false
set_option linter.all false
set_option maxRecDepth 20000
namespace HR
open PySem L2
/-! ### two readings, of which one follows the other: renamed members, other ranks in the same order, fewer members, lower ranks silent -/
/-- the ranks of the second run are ordered as those of the first -/
structure OrdR (rk rk' : Nat → Int) (n : Nat) (g : Nat → Nat) : Prop where
  lt : ∀ i j, i < n → j < n → (rk' i > rk' j ↔ rk (g i) > rk (g j))
  mono : ∀ i j, i < n → j < n → (i < j ↔ g i < g j)
theorem OrdR.eq {rk rk' : Nat → Int} {n : Nat} {g : Nat → Nat} (o : OrdR rk rk' n g) {i j : Nat} (hi : i < n) (hj : j < n) : rk' i = rk' j ↔ rk (g i) = rk (g j) := by
  have a := o.lt i j hi hj
  have b := o.lt j i hj hi
  omega
theorem OrdR.inj {rk rk' : Nat → Int} {n : Nat} {g : Nat → Nat} (o : OrdR rk rk' n g) {i j : Nat} (hi : i < n) (hj : j < n) : i = j ↔ g i = g j := by
  have a := o.mono i j hi hj
  have b := o.mono j i hj hi
  omega
structure SimR (rk rk' : Nat → Int) (n : Nat) (g : Nat → Nat) (S S' : RdS) : Prop where
  ob : ∀ j, j < n → S'.obs j = S.obs (g j)
  lp : ∀ j, j < n → (S'.lp (rk' j) = -1 ∧ S.lp (rk (g j)) = -1) ∨ ∃ i, i < n ∧ S'.lp (rk' j) = (i : Int) ∧ S.lp (rk (g j)) = (g i : Int)
def RelX (rk : Nat → Int) (n : Nat) (g : Nat → Nat) : Option Nat → Option Nat → Prop
  | none, none => True
  | some l, some k => k < n ∧ l = g k
  | some l, none => ∀ j, j < n → rk l > rk (g j)
  | none, some _ => False
section
variable {rk rk' : Nat → Int} {n : Nat} {g : Nat → Nat} {S S' : RdS}
theorem sim_S0 : SimR rk rk' n g S0 S0 := ⟨fun _ _ => rfl, fun _ _ => .inl ⟨rfl, rfl⟩⟩
theorem sim_kind (o : OrdR rk rk' n g) (s : SimR rk rk' n g S S') {k : Nat} (hk : k < n) : kindF rk' k S' = kindF rk (g k) S := by
  unfold kindF
  rw [s.ob k hk]
  have e : S'.lp (rk' k) > (k : Int) ↔ S.lp (rk (g k)) > (g k : Int) := by
    rcases s.lp k hk with ⟨a, b⟩ | ⟨i, hi, a, b⟩
    · rw [a, b]; omega
    · have := o.mono k i hk hi
      rw [a, b]; omega
  by_cases c : S'.lp (rk' k) > (k : Int)
  · rw [if_pos c, if_pos (e.mp c)]
  · rw [if_neg c, if_neg fun z => c (e.mpr z)]
theorem passO_eq {rs rs' : Option Int} {r r' : Int} (hq : isQ rs r = isQ rs' r') (hc : isC rs r = isC rs' r') (b : Ob) : passO rs r b = passO rs' r' b := by
  unfold passO
  rw [hq, hc]
theorem sim_step (o : OrdR rk rk' n g) (s : SimR rk rk' n g S S') {x x' : Option Nat} (q : RelX rk n g x x') : SimR rk rk' n g (stepRd rk x S) (stepRd rk' x' S') := by
  match x, x', q with
  | none, none, _ => exact ⟨fun j hj => by
      show passO none (rk' j) (S'.obs j) = passO none (rk (g j)) (S.obs (g j))
      rw [s.ob j hj]
      exact passO_eq rfl rfl _, fun j hj => .inl ⟨rfl, rfl⟩⟩
  | some l, none, q => exact ⟨fun j hj => by
      have hl : g j ≠ l := fun e => by have := q j hj; rw [e] at this; omega
      show passO none (rk' j) (S'.obs j) = if g j = l then speakO (S.obs (g j)) else passO (some (rk l)) (rk (g j)) (S.obs (g j))
      rw [if_neg hl, s.ob j hj]
      have := q j hj
      refine passO_eq ?_ ?_ _
      · simp [isQ]; omega
      · simp [isC]; omega, fun j hj => .inl ⟨rfl, by
        show (if rk l > rk (g j) then (-1 : Int) else _) = -1
        rw [if_pos (q j hj)]⟩⟩
  | some l, some k, q =>
    obtain ⟨hk, rfl⟩ := q
    refine ⟨fun j hj => ?_, fun j hj => ?_⟩
    · show (if j = k then speakO (S'.obs j) else passO (some (rk' k)) (rk' j) (S'.obs j)) = if g j = g k then speakO (S.obs (g j)) else passO (some (rk (g k))) (rk (g j)) (S.obs (g j))
      rw [s.ob j hj]
      have e := o.inj hj hk
      by_cases c : j = k
      · rw [if_pos c, if_pos (e.mp c)]
      · rw [if_neg c, if_neg fun z => c (e.mpr z)]
        have a := o.lt k j hk hj
        have b := o.lt j k hj hk
        refine passO_eq ?_ ?_ _
        · simp only [isQ]
          exact decide_eq_decide.mpr a
        · simp only [isC]
          refine decide_eq_decide.mpr ?_
          omega
    · show ((if rk' k > rk' j then (-1 : Int) else if rk' j = rk' k then (if (k : Int) > S'.lp (rk' j) then (k : Int) else S'.lp (rk' j)) else S'.lp (rk' j)) = -1 ∧ (if rk (g k) > rk (g j) then (-1 : Int) else if rk (g j) = rk (g k) then (if (g k : Int) > S.lp (rk (g j)) then (g k : Int) else S.lp (rk (g j))) else S.lp (rk (g j))) = -1) ∨
        ∃ i, i < n ∧ (if rk' k > rk' j then (-1 : Int) else if rk' j = rk' k then (if (k : Int) > S'.lp (rk' j) then (k : Int) else S'.lp (rk' j)) else S'.lp (rk' j)) = (i : Int) ∧ (if rk (g k) > rk (g j) then (-1 : Int) else if rk (g j) = rk (g k) then (if (g k : Int) > S.lp (rk (g j)) then (g k : Int) else S.lp (rk (g j))) else S.lp (rk (g j))) = (g i : Int)
      have a := o.lt k j hk hj
      have e := o.eq hj hk
      by_cases c : rk' k > rk' j
      · rw [if_pos c, if_pos (a.mp c)]
        exact .inl ⟨rfl, rfl⟩
      · rw [if_neg c, if_neg fun z => c (a.mpr z)]
        by_cases d : rk' j = rk' k
        · rw [if_pos d, if_pos (e.mp d)]
          rcases s.lp j hj with ⟨u, v⟩ | ⟨i, hi, u, v⟩
          · rw [u, v, if_pos (by omega), if_pos (by omega)]
            exact .inr ⟨k, hk, rfl, rfl⟩
          · rw [u, v]
            have m := o.mono i k hi hk
            by_cases f : (k : Int) > (i : Int)
            · rw [if_pos f, if_pos (by omega)]
              exact .inr ⟨k, hk, rfl, rfl⟩
            · rw [if_neg f, if_neg (by omega)]
              exact .inr ⟨i, hi, rfl, rfl⟩
        · rw [if_neg d, if_neg fun z => d (e.mpr z)]
          exact s.lp j hj
/-- all steps related -/
def RelXs (rk : Nat → Int) (n : Nat) (g : Nat → Nat) : List (Option Nat) → List (Option Nat) → Prop
  | [], [] => True
  | x :: xs, y :: ys => RelX rk n g x y ∧ RelXs rk n g xs ys
  | _, _ => False
/-- no speaker left out: the same fault, and the states follow each other -/
theorem end_sim (o : OrdR rk rk' n g) : ∀ (xs ys : List (Option Nat)) (t : Nat) (S S' : RdS), SimR rk rk' n g S S' → RelXs rk n g xs ys → (∀ y ∈ xs, y = none ∨ ∃ k, k < n ∧ y = some (g k)) ∨ (endRd rk xs t S).1 = none →
    (endRd rk' ys t S').1 = (endRd rk xs t S).1 ∧ SimR rk rk' n g (endRd rk xs t S).2 (endRd rk' ys t S').2
  | [], [], t, S, S', s, _, _ => ⟨rfl, s⟩
  | x :: xs, y :: ys, t, S, S', s, q, hz => by
    obtain ⟨q1, q2⟩ := q
    have st := sim_step o s q1
    match x, y, q1 with
    | none, none, _ =>
      exact end_sim o xs ys (t + 1) _ _ st q2 (hz.imp (fun h y hy => h y (List.mem_cons_of_mem _ hy)) fun h => h)
    | some l, some k, q1 =>
      obtain ⟨hk, rfl⟩ := q1
      have kd := sim_kind o s hk
      cases c : kindF rk (g k) S with
      | some d =>
        rw [c] at kd
        simp only [endRd, Option.bind_some, kd, c]
        exact ⟨trivial, s⟩
      | none =>
        rw [c] at kd
        simp only [endRd, Option.bind_some, kd, c] at hz ⊢
        exact end_sim o xs ys (t + 1) _ _ st q2 (hz.imp (fun h y hy => h y (List.mem_cons_of_mem _ hy)) fun h => h)
    | some l, none, q1 =>
      cases c : kindF rk l S with
      | some d =>
        rcases hz with hz | hz
        · rcases hz (some l) List.mem_cons_self with e | ⟨k, hk, e⟩
          · cases e
          · cases e
            exact absurd (q1 k hk) (Int.lt_irrefl _)
        · simp [endRd, c] at hz
      | none =>
        simp only [endRd, Option.bind_some, Option.bind_none, c] at hz ⊢
        exact end_sim o xs ys (t + 1) _ _ st q2 (hz.imp (fun h y hy => h y (List.mem_cons_of_mem _ hy)) fun h => h)
  | [], _ :: _, _, _, _, _, q, _ => q.elim
  | _ :: _, [], _, _, _, _, q, _ => q.elim
end
end HR
set_option Elab.async false
set_option linter.all false
set_option maxRecDepth 20000
set_option exponentiation.threshold 5000
namespace HR
open PySem L2
/-! ### what the program takes for halls: any frozen value -/
mutual
def szD : D → Bool
  | .lst xs => decide (xs.length ≤ 1000) && szL xs
  | .tup xs => decide (xs.length ≤ 1000) && szL xs
  | .str x => decide (x.length ≤ 1000)
  | .non => true
  | .bl _ => true
  | .int _ => true
  | .dct [] => true
  | _ => false
def szL : List D → Bool
  | [] => true
  | x :: xs => szD x && szL xs
end
def sqD : D → Option (List D)
  | .lst xs => some xs
  | .tup xs => some xs
  | _ => none
@[simp] theorem isi_t1 : isiB "NoneType" "list" = false := by decide
@[simp] theorem isi_t2 : isiB "NoneType" "tuple" = false := by decide
@[simp] theorem isi_t3 : isiB "bool" "list" = false := by decide
@[simp] theorem isi_t4 : isiB "bool" "tuple" = false := by decide
@[simp] theorem isi_t5 : isiB "dict" "list" = false := by decide
@[simp] theorem isi_t6 : isiB "dict" "tuple" = false := by decide
@[simp] theorem isi_t7 : isiB "NoneType" "int" = false := by decide
@[simp] theorem isi_t8 : isiB "list" "int" = false := by decide
@[simp] theorem isi_t9 : isiB "tuple" "int" = false := by decide
@[simp] theorem isi_ta : isiB "dict" "int" = false := by decide
@[simp] theorem isi_tb : isiB "bool" "bool" = true := by decide
@[simp] theorem isi_tc : isiB "NoneType" "str" = false := by decide
@[simp] theorem isi_td : isiB "list" "str" = false := by decide
@[simp] theorem isi_te : isiB "tuple" "str" = false := by decide
@[simp] theorem isi_tf : isiB "dict" "str" = false := by decide
@[simp] theorem isi_tg : isiB "bool" "str" = false := by decide
/-! ### halls with lists and tuples exchanged -/
def AllR {ξ : Type} (R : D → ξ → Prop) (xs : List D) (ps : List ξ) : Prop := xs.length = ps.length ∧ ∀ (k : Nat) (x : D), xs[k]? = some x → ∃ p, ps[k]? = some p ∧ R x p
def DrT (d : D) (p : Int × Int) : Prop := sqD d = some [.int p.1, .int p.2]
def DrTs (d : D) (ts : List (Int × Int)) : Prop := ∃ xs, sqD d = some xs ∧ AllR DrT xs ts
def DrTk (d : D) (t : Tk) : Prop := ∃ a b, sqD d = some [.str t.name, .int t.rank, a, b] ∧ DrTs a t.pre ∧ DrTs b t.cyc
def DrH (d : D) (ts : List Tk) : Prop := ∃ xs, sqD d = some xs ∧ AllR DrTk xs ts
theorem AllR.all {ξ : Type} {R : D → ξ → Prop} {xs : List D} {ps : List ξ} (ar : AllR R xs ps) {p : D → Bool} (h : ∀ x q, x ∈ xs → q ∈ ps → R x q → p x = true) : xs.all p = true := by
  rw [List.all_eq_true]
  intro x hx
  obtain ⟨k, hk⟩ := List.mem_iff_getElem?.mp hx
  obtain ⟨q, hq, r⟩ := ar.2 k x hk
  exact h x q hx (List.mem_of_getElem? hq) r
end HR
set_option Elab.async false
set_option linter.all false
set_option maxRecDepth 20000
set_option exponentiation.threshold 5000
set_option Elab.async false
set_option linter.all false
set_option maxRecDepth 20000
set_option exponentiation.threshold 5000
namespace HR
open PySem L2
/-! ### law k01: lists and tuples exchanged at random -/
def Drs (j i : Nat) (x : D) (R : D → Prop) : Prop := ∀ (h : OH) (P : D → OH → Prop), Spr h i → (∀ d h', R d → Spr h' i → Chg i h h' → P d h') → (Sh.l_dressed_n j [.ref i, x] h).W P
theorem Drs.mono {j i : Nat} {x : D} {R R' : D → Prop} (a : Drs j i x R) (q : ∀ d, R d → R' d) : Drs j i x R' := fun h P s z => a h P s fun d h' r => z d h' (q d r)
end HR
set_option Elab.async false
set_option linter.all false
set_option maxRecDepth 20000
set_option exponentiation.threshold 5000
set_option Elab.async false
set_option linter.all false
set_option maxRecDepth 20000
set_option exponentiation.threshold 5000
namespace HR
open PySem L2
/-! ### law k01: names with one other character; a hall that is changed in place -/
/-- n own talkers in a row -/
structure Sb (n : Nat) (f : Nat → Tk) (h : OH) : Prop where
  pre : ∀ m, m < n → h[3 * m]? = some (.lst ((f m).pre.map dT))
  cyc : ∀ m, m < n → h[3 * m + 1]? = some (.lst ((f m).cyc.map dT))
  tk : ∀ m, m < n → h[3 * m + 2]? = some (.lst [.str (f m).name, .int (f m).rank, .ref (3 * m), .ref (3 * m + 1)])
def rf (m : Nat) : D := .ref (3 * m + 2)
def upd1 (f : Nat → Tk) (k : Nat) (t : Tk) : Nat → Tk := fun m => if m = k then t else f m
theorem Sb.rank {n k : Nat} {f : Nat → Tk} {h : OH} (s : Sb n f h) (hk : k < n) (hl : 3 * n ≤ h.length) (r : Int) : Sb n (upd1 f k { f k with rank := r }) (h.set (3 * k + 2) (.lst [.str (f k).name, .int r, .ref (3 * k), .ref (3 * k + 1)])) := by
  refine ⟨fun m hm => ?_, fun m hm => ?_, fun m hm => ?_⟩
  · rw [List.getElem?_set_ne (by omega)]
    unfold upd1
    split
    · subst m; exact s.pre k hk
    · exact s.pre m hm
  · rw [List.getElem?_set_ne (by omega)]
    unfold upd1
    split
    · subst m; exact s.cyc k hk
    · exact s.cyc m hm
  · unfold upd1
    split
    · subst m
      rw [List.getElem?_set_self (by omega)]
    · rw [List.getElem?_set_ne (by omega)]
      exact s.tk m hm
end HR
set_option Elab.async false
set_option linter.all false
set_option maxRecDepth 20000
set_option exponentiation.threshold 5000
namespace HR
open PySem L2
theorem Sb.app {n : Nat} {f : Nat → Tk} {h : OH} (s : Sb n f h) (l : OH) : Sb n f (h ++ l) := by
  have g : ∀ (i : Nat) o, h[i]? = some o → (h ++ l)[i]? = some o := fun i o e => by rw [List.getElem?_append_left (List.getElem?_eq_some_iff.mp e).1]; exact e
  exact ⟨fun m hm => g _ _ (s.pre m hm), fun m hm => g _ _ (s.cyc m hm), fun m hm => g _ _ (s.tk m hm)⟩
end HR
set_option Elab.async false
set_option linter.all false
set_option maxRecDepth 20000
set_option exponentiation.threshold 5000
namespace HR
open PySem L2
/-! ### how long the repr of many may be: a sum -/
def Rps (k : Nat) : List D → Nat → Prop
  | [], _ => True
  | d :: ds, n => ∃ a m, Rp d k a ∧ Rps k ds m ∧ a + 2 + m ≤ n
theorem Rps.py {k : Nat} : ∀ {ds : List D} {n : Nat}, Rps k ds n → ∃ ps, (∀ get, pyRL get ds = some ps) ∧ PyData.showableAll ps = true ∧ PyData.depthAll ps ≤ k ∧ ∀ (j : Nat) (acc : Str), (textFrom j acc (PyData.shownAll ps)).length ≤ acc.length + n
  | [], n, _ => ⟨[], fun _ => rfl, rfl, Nat.zero_le _, fun j acc => by simp [PyData.shownAll, textFrom]⟩
  | d :: ds, n, ⟨a, m, h1, h2, h3⟩ => by
    obtain ⟨p, a1, b1, c1, e1⟩ := h1
    obtain ⟨ps, a2, b2, c2, e2⟩ := h2.py
    refine ⟨p :: ps, fun get => by simp [pyRL, a1 get, a2 get], by simp [PyData.showableAll, b1, b2], by simp only [PyData.depthAll]; omega, fun j acc => ?_⟩
    simp only [PyData.shownAll, textFrom]
    refine Nat.le_trans (e2 _ _) ?_
    have e : (acc ++ (if j > 0 then ", " else "" : String) ++ p.shown).length ≤ acc.length + 2 + p.shown.length := by
      rw [strLen_append, strLen_append]
      split <;> simp only [Nat.add_le_add_iff_right, Nat.add_le_add_iff_left] <;> decide
    omega
/-! ### the values of the law -/
end HR
set_option Elab.async false
set_option linter.all false
set_option maxRecDepth 20000
namespace HR
open PySem L2
/-! ### the reel of laws 21 to 41: draw, talks, halls -/
abbrev RM : Int := 170141183460469231731687303715884105727
structure RlS (gs ms : List Int) (c s : Int) : Prop where
  g0 : ∀ g ∈ gs, 0 ≤ g
  gl : gs.length ≤ 63
  mn : ms ≠ []
  ml : ms.length ≤ 64
  m0 : ∀ x ∈ ms, 0 ≤ x ∧ x < 1000003
  c0 : 0 ≤ c
  s0 : 0 ≤ s
  s1 : s < RM
def rlD (gs ms : List Int) (c s : Int) : OO := .lst [.lst (gs.map D.int), .lst (ms.map D.int), .int c, .int s]
/-- the reel at i -/
def Rl (h : OH) (i : Nat) : Prop := ∃ (gs ms : List Int) (c s : Int), h[i]? = some (rlD gs ms c s) ∧ RlS gs ms c s
theorem Rl.lt {h : OH} {i : Nat} (s : Rl h i) : i < h.length := by
  obtain ⟨a, b, c, d, e, _⟩ := s
  exact (List.getElem?_eq_some_iff.mp e).1
theorem Rl.app {h : OH} {i : Nat} (s : Rl h i) (t : OH) : Rl (h ++ t) i := by
  have := s.lt
  obtain ⟨a, b, c, d, e, r⟩ := s
  exact ⟨a, b, c, d, by rw [List.getElem?_append_left this]; exact e, r⟩
theorem Rl.set {h : OH} {i j : Nat} (s : Rl h i) (n : j ≠ i) (o : OO) : Rl (h.set j o) i := by
  obtain ⟨a, b, c, d, e, r⟩ := s
  exact ⟨a, b, c, d, by rw [List.getElem?_set_ne n]; exact e, r⟩
end HR
set_option Elab.async false
set_option linter.all false
set_option maxRecDepth 20000
set_option exponentiation.threshold 5000
namespace HR
open PySem L2
/-! ### lists and tuples exchanged at random, over the reel -/
def Rrs (j i : Nat) (x : D) (R : D → Prop) : Prop := ∀ (h : OH) (P : D → OH → Prop), Rl h i → (∀ d h', R d → Rl h' i → Chg i h h' → P d h') → (Sh.l_dressed_1_n j [.ref i, x] h).W P
theorem Rrs.mono {j i : Nat} {x : D} {R R' : D → Prop} (a : Rrs j i x R) (q : ∀ d, R d → R' d) : Rrs j i x R' := fun h P s z => a h P s fun d h' r => z d h' (q d r)
end HR
set_option Elab.async false
set_option linter.all false
set_option maxRecDepth 20000
set_option Elab.async false
set_option linter.all false
set_option maxRecDepth 20000
set_option exponentiation.threshold 5000
namespace HR
open PySem L2
/-! ### law k36: the program's own copies of talkers -/
def rk (r : D) (t : Tk) : Int := match r with
  | .int v => v
  | _ => t.rank
/-- the copy of t whose lists stand at b and b + 1 -/
def oTk (name : Str) (r : Int) (b : Nat) : D := .tup [.str name, .int r, .ref b, .ref (b + 1)]
def oLs (t : Tk) : OH := [.lst (t.pre.map dT), .lst (t.cyc.map dT)]
theorem DrTs.all {d : D} {ts : List (Int × Int)} (r : DrTs d ts) : ∃ xs, sqD d = some xs ∧ AllR DrT xs ts := r
end HR
set_option Elab.async false
set_option linter.all false
set_option maxRecDepth 20000
set_option exponentiation.threshold 5000
namespace HR
open PySem L2
/-- copies of talkers, the first with its lists at b -/
def oTks : List Tk → Nat → List D
  | [], _ => []
  | t :: ts, b => oTk t.name t.rank b :: oTks ts (b + 2)
end HR
set_option Elab.async false
set_option linter.all false
set_option maxRecDepth 20000
set_option exponentiation.threshold 5000
set_option Elab.async false
set_option linter.all false
set_option maxRecDepth 20000
set_option exponentiation.threshold 5000
set_option Elab.async false
set_option linter.all false
set_option maxRecDepth 20000
set_option exponentiation.threshold 5000
namespace HR
open PySem L2
/-! ### halls that the caller owns, as they lie in the heap -/
structure HAt (h : OH) (j b : Nat) (ns : List Tk) : Prop where
  top : h[j]? = some (.lst (oTks ns b))
  in_ : ∀ i, i < 2 * ns.length → h[b + i]? = (ns.flatMap oLs)[i]?
def HOk (h : OH) (d : D) (ns : List Tk) (lo hi : Nat) : Prop := ∃ j b, d = .ref j ∧ HAt h j b ns ∧ lo ≤ b ∧ b + 2 * ns.length ≤ j ∧ j < hi
theorem HOk.frame {h h' : OH} {d : D} {ns : List Tk} {lo hi : Nat} (o : HOk h d ns lo hi) (k : ∀ i, lo ≤ i → i < hi → h'[i]? = h[i]?) : HOk h' d ns lo hi := by
  obtain ⟨j, b, e, a, l1, l2, l3⟩ := o
  exact ⟨j, b, e, ⟨by rw [k j (by omega) l3]; exact a.top, fun i hi => by rw [k (b + i) (by omega) (by omega)]; exact a.in_ i hi⟩, l1, l2, l3⟩
/-! ### what repr reads -/
def pT (p : Int × Int) : PyData := .tuple [.int p.1, .int p.2]
theorem Rps.ok {n k : Nat} {ds : List D} (q : Rps k ds n) (hk : k + 1 ≤ 60) (hn : n + 2 ≤ big) : ∃ ps, (∀ get, pyRL get ds = some ps) ∧ reprOkX (.list ps) = true := by
  obtain ⟨ps, a, b, c, e⟩ := q.py
  refine ⟨ps, a, ?_⟩
  have t := e 0 (("[" : String) : Str)
  have l1 : (("[" : String) : Str).length = 1 := rfl
  have l2 : (("]" : String) : Str).length = 1 := rfl
  have d1 : (PyData.list ps).depth ≤ 60 := by
    simp only [PyData.depth]
    omega
  have d2 : (PyData.list ps).shown.length ≤ big := by
    simp only [PyData.shown]
    unfold listText
    rw [strLen_append]
    omega
  have d3 : (PyData.list ps).showable = true := by simp only [PyData.showable, b]
  simp only [reprOkX, d3, Bool.true_and, Bool.and_eq_true, decide_eq_true_eq]
  exact ⟨d1, d2⟩
/-! ### several halls, one behind the other; f, f + 1 are none of theirs -/
def Fnd (h : OH) (f : Nat) : Nat → List D → List (List Tk) → Prop
  | lo, [], [] => lo ≤ h.length
  | lo, d :: ds, ns :: nss => ∃ l1 hi, HOk h d ns l1 hi ∧ (hi ≤ f ∨ f + 1 < l1) ∧ lo ≤ l1 ∧ l1 ≤ hi ∧ Fnd h f hi ds nss
  | _, _, _ => False
theorem Fnd.le {h : OH} {f : Nat} : ∀ {ds : List D} {nss : List (List Tk)} {lo : Nat}, Fnd h f lo ds nss → lo ≤ h.length
  | [], [], _, r => r
  | d :: ds, ns :: nss, _, ⟨_, hi, _, _, l1, l2, r⟩ => Nat.le_trans (Nat.le_trans l1 l2) r.le
  | [], _ :: _, _, r => r.elim
  | _ :: _, [], _, r => r.elim
theorem Fnd.frame {h h' : OH} {f : Nat} (hl : h.length ≤ h'.length) : ∀ {ds : List D} {nss : List (List Tk)} {lo : Nat}, Fnd h f lo ds nss → (∀ i, lo ≤ i → i < h.length → i ≠ f → i ≠ f + 1 → h'[i]? = h[i]?) → Fnd h' f lo ds nss
  | [], [], _, r, k => Nat.le_trans r hl
  | d :: ds, ns :: nss, _, ⟨l1, hi, a, b, q1, q2, r⟩, k => by
    have := r.le
    exact ⟨l1, hi, a.frame fun i h1 h2 => k i (by omega) (by omega) (by omega) (by omega), b, q1, q2, r.frame hl fun i h1 h2 => k i (by omega) h2⟩
  | [], _ :: _, _, r, _ => r.elim
  | _ :: _, [], _, r, _ => r.elim
theorem Fnd.len {h : OH} {f : Nat} : ∀ {ds : List D} {nss : List (List Tk)} {lo : Nat}, Fnd h f lo ds nss → ds.length = nss.length
  | [], [], _, _ => rfl
  | d :: ds, ns :: nss, _, ⟨_, hi, _, _, _, _, r⟩ => by simp [r.len]
  | [], _ :: _, _, r => r.elim
  | _ :: _, [], _, r => r.elim
theorem Fnd.drop {h : OH} {f : Nat} : ∀ {ds : List D} {nss : List (List Tk)} {lo : Nat} (k : Nat) (d : D), Fnd h f lo ds nss → ds[k]? = some d → ∃ ns l1 hi, nss[k]? = some ns ∧ HOk h d ns l1 hi ∧ (hi ≤ f ∨ f + 1 < l1) ∧ lo ≤ l1 ∧ l1 ≤ hi ∧ Fnd h f hi (ds.drop (k + 1)) (nss.drop (k + 1))
  | d' :: ds, ns :: nss, _, 0, d, ⟨l1, hi, a, b, q1, q2, r⟩, e => by
    simp at e
    subst e
    exact ⟨ns, l1, hi, rfl, a, b, q1, q2, r⟩
  | d' :: ds, ns :: nss, _, k + 1, d, ⟨l1, hi, a, b, q1, q2, r⟩, e => by
    obtain ⟨n2, l2, hi2, e2, a2, b2, c1, c2, r2⟩ := r.drop k d (by simpa using e)
    exact ⟨n2, l2, hi2, by simpa using e2, a2, b2, by omega, c2, r2⟩
  | [], [], _, _, _, _, e => by simp at e
  | [], _ :: _, _, _, _, r, _ => r.elim
  | _ :: _, [], _, _, _, r, _ => r.elim
end HR
set_option Elab.async false
set_option linter.all false
set_option maxRecDepth 20000
set_option exponentiation.threshold 5000
set_option Elab.async false
set_option linter.all false
set_option maxRecDepth 20000
set_option exponentiation.threshold 5000
set_option Elab.async false
set_option linter.all false
set_option maxRecDepth 20000
set_option exponentiation.threshold 5000
namespace HR
open PySem L2
/-! ### law k35: halls that are read, frozen or own -/
def Gro (h0 h : OH) : Prop := h0.length ≤ h.length ∧ ∀ i, i < h0.length → h[i]? = h0[i]?
theorem Gro.refl (h : OH) : Gro h h := ⟨Nat.le_refl _, fun _ _ => rfl⟩
theorem Gro.trans {a b c : OH} (x : Gro a b) (y : Gro b c) : Gro a c := ⟨Nat.le_trans x.1 y.1, fun i hi => by rw [y.2 i (Nat.lt_of_lt_of_le hi x.1), x.2 i hi]⟩
theorem Gro.app (h t : OH) : Gro h (h ++ t) := ⟨by simp, fun i hi => List.getElem?_append_left hi⟩
theorem Gro.set {a h : OH} (x : Gro a h) {i : Nat} (o : OO) (hi : a.length ≤ i) : Gro a (h.set i o) := ⟨by simp [x.1], fun k hk => by rw [List.getElem?_set_ne (by omega)]; exact x.2 k hk⟩
theorem Gro.get {a b : OH} (x : Gro a b) {i : Nat} {o : OO} (e : a[i]? = some o) : b[i]? = some o := by
  rw [x.2 i (List.getElem?_eq_some_iff.mp e).1]
  exact e
/-- d is walked over: xs -/
def ItX (h : OH) (d : D) (xs : List D) : Prop := sqD d = some xs ∨ ∃ j, d = .ref j ∧ h[j]? = some (.lst xs)
/-! ### talkers -/
def PtX (h : OH) (a : D) (ts : List (Int × Int)) : Prop := ∃ xs, ItX h a xs ∧ AllR DrT xs ts
def RdT (h : OH) (x : D) (t : Tk) : Prop := ∃ a b, sqD x = some [.str t.name, .int t.rank, a, b] ∧ PtX h a t.pre ∧ PtX h b t.cyc
theorem drT_map (ts : List (Int × Int)) : AllR DrT (ts.map dT) ts := ⟨by simp, fun k x hx => by
  rw [List.getElem?_map, Option.map_eq_some_iff] at hx
  obtain ⟨p, hp, rfl⟩ := hx
  exact ⟨p, hp, rfl⟩⟩
theorem RdT.frz {h : OH} {x : D} {t : Tk} : DrTk x t → RdT h x t := fun ⟨a, b, e, ⟨xa, ea, ra⟩, ⟨xb, eb, rb⟩⟩ => ⟨a, b, e, ⟨xa, .inl ea, ra⟩, ⟨xb, .inl eb, rb⟩⟩
theorem RdT.own {h : OH} {t : Tk} {b : Nat} (g1 : h[b]? = some (.lst (t.pre.map dT))) (g2 : h[b + 1]? = some (.lst (t.cyc.map dT))) : RdT h (oTk t.name t.rank b) t := ⟨_, _, rfl, ⟨_, .inr ⟨_, rfl, g1⟩, drT_map _⟩, ⟨_, .inr ⟨_, rfl, g2⟩, drT_map _⟩⟩
/-! ### members that the law's halls make -/
/-- the parts of an instance at i, h before it -/
def InsAt (h : OH) (C : String) (h' : OH) (fs : List (String × D)) : Prop := Gro h h' ∧ h'[h.length]? = some (.ins C fs)
theorem InsAt.start (h : OH) (C : String) : InsAt h C (h ++ [.ins C []]) [] := ⟨Gro.app _ _, by simp⟩
end HR
set_option Elab.async false
set_option linter.all false
set_option maxRecDepth 20000
set_option exponentiation.threshold 5000
namespace HR
open PySem L2
/-! ### own halls anywhere in the heap -/
def oTz (ns : List Tk) (bs : List Nat) : List D := List.zipWith (fun t b => oTk t.name t.rank b) ns bs
theorem oTz_at {ns : List Tk} {bs : List Nat} {k : Nat} {t : Tk} {b : Nat} (e1 : ns[k]? = some t) (e2 : bs[k]? = some b) : (oTz ns bs)[k]? = some (oTk t.name t.rank b) := by
  simp [oTz, List.getElem?_zipWith, e1, e2]
structure HAz (h : OH) (j : Nat) (bs : List Nat) (ns : List Tk) : Prop where
  len : bs.length = ns.length
  top : h[j]? = some (.lst (oTz ns bs))
  in_ : ∀ (k : Nat) t b, ns[k]? = some t → bs[k]? = some b → h[b]? = some (.lst (t.pre.map dT)) ∧ h[b + 1]? = some (.lst (t.cyc.map dT))
theorem HAz.at {h : OH} {j : Nat} {bs : List Nat} {ns : List Tk} (a : HAz h j bs ns) {k : Nat} {t : Tk} (e : ns[k]? = some t) : ∃ b, bs[k]? = some b ∧ (oTz ns bs)[k]? = some (oTk t.name t.rank b) ∧ h[b]? = some (.lst (t.pre.map dT)) ∧ h[b + 1]? = some (.lst (t.cyc.map dT)) := by
  have hk := (List.getElem?_eq_some_iff.mp e).1
  have l := a.len
  have e2 : bs[k]? = some bs[k] := List.getElem?_eq_getElem (by omega)
  exact ⟨_, e2, oTz_at e e2, a.in_ k t _ e e2⟩
/-- a hall that is read: frozen or own -/
def RdH (h : OH) (d : D) (ts : List Tk) : Prop := (DrH d ts ∧ szD d = true) ∨ ∃ j bs, d = .ref j ∧ HAz h j bs ts
/-! ### own_hall -/
def bsq (b n : Nat) : List Nat := (List.range n).map fun k => b + 2 * k
@[simp] theorem bsq_len (b n : Nat) : (bsq b n).length = n := by simp [bsq]
end HR
set_option Elab.async false
set_option linter.all false
set_option maxRecDepth 20000
set_option exponentiation.threshold 5000
namespace HR
open PySem L2
/-! ### what with_talker and without_talker return -/
def HOz (h : OH) (d : D) (ns : List Tk) (lo hi : Nat) : Prop := ∃ j bs, d = .ref j ∧ HAz h j bs ns ∧ (∀ b ∈ bs, lo ≤ b ∧ b + 1 < hi ∧ b ≠ j ∧ b + 1 ≠ j) ∧ lo ≤ j ∧ j < hi
theorem HOz.rd {h : OH} {d : D} {ns : List Tk} {lo hi : Nat} : HOz h d ns lo hi → RdH h d ns := fun ⟨j, bs, e, a, _⟩ => .inr ⟨j, bs, e, a⟩
theorem HOz.frame {h h' : OH} {d : D} {ns : List Tk} {lo hi : Nat} (o : HOz h d ns lo hi) (k : ∀ i, lo ≤ i → i < hi → h'[i]? = h[i]?) : HOz h' d ns lo hi := by
  obtain ⟨j, bs, e, a, l1, l2, l3⟩ := o
  refine ⟨j, bs, e, ⟨a.len, by rw [k j l2 l3]; exact a.top, fun m t b e1 e2 => ?_⟩, l1, l2, l3⟩
  obtain ⟨p, q⟩ := a.in_ m t b e1 e2
  obtain ⟨c1, c2, _⟩ := l1 b (List.mem_of_getElem? e2)
  exact ⟨by rw [k b (by omega) (by omega)]; exact p, by rw [k (b + 1) (by omega) (by omega)]; exact q⟩
end HR
set_option Elab.async false
set_option linter.all false
set_option maxRecDepth 20000
set_option exponentiation.threshold 5000
set_option Elab.async false
set_option linter.all false
set_option maxRecDepth 20000
set_option exponentiation.threshold 5000
set_option Elab.async false
set_option linter.all false
set_option maxRecDepth 20000
set_option exponentiation.threshold 5000
set_option Elab.async false
set_option linter.all false
set_option maxRecDepth 20000
set_option exponentiation.threshold 5000
set_option Elab.async false
set_option linter.all false
set_option maxRecDepth 20000
set_option exponentiation.threshold 5000
set_option Elab.async false
set_option linter.all false
set_option maxRecDepth 20000
set_option exponentiation.threshold 5000
set_option Elab.async false
set_option linter.all false
set_option maxRecDepth 20000
set_option exponentiation.threshold 5000
namespace HR
open PySem L2
/-! ### law k54: its own halls -/
/-- only i is changed, nothing is new -/
def Chl (i : Nat) (h h' : OH) : Prop := h'.length = h.length ∧ ∀ j, j ≠ i → h'[j]? = h[j]?
theorem Chl.refl (i : Nat) (h : OH) : Chl i h h := ⟨rfl, fun _ _ => rfl⟩
theorem Chl.set (i : Nat) (h : OH) (o : OO) : Chl i h (h.set i o) := ⟨by simp, fun j n => by rw [List.getElem?_set_ne (Ne.symm n)]⟩
theorem Chl.trans {i : Nat} {a b c : OH} (x : Chl i a b) (y : Chl i b c) : Chl i a c := ⟨by rw [y.1, x.1], fun j n => by rw [y.2 j n, x.2 j n]⟩
theorem Chl.get {i : Nat} {h h' : OH} (c : Chl i h h') {j : Nat} {o : OO} (e : h[j]? = some o) (n : j ≠ i) : h'[j]? = some o := by rw [c.2 j n]; exact e
/-- only i is changed of what was; n are new -/
def Chn (i n : Nat) (h h' : OH) : Prop := h'.length = h.length + n ∧ ∀ j, j < h.length → j ≠ i → h'[j]? = h[j]?
theorem Chn.trans {i n m : Nat} {a b c : OH} (x : Chn i n a b) (y : Chn i m b c) : Chn i (n + m) a c := ⟨by rw [y.1, x.1]; omega, fun j hj hn => by rw [y.2 j (by rw [x.1]; omega) hn, x.2 j hj hn]⟩
theorem Chn.get {i n : Nat} {h h' : OH} (c : Chn i n h h') {j : Nat} {o : OO} (e : h[j]? = some o) (hn : j ≠ i) : h'[j]? = some o := by
  rw [c.2 j (List.getElem?_eq_some_iff.mp e).1 hn]
  exact e
theorem Chn.app (i : Nat) (h t : OH) : Chn i t.length h (h ++ t) := ⟨by simp, fun j hj _ => List.getElem?_append_left hj⟩
theorem Chn.set {i n : Nat} {h h' : OH} (c : Chn i n h h') {j : Nat} (hj : h.length ≤ j) (o : OO) : Chn i n h (h'.set j o) := ⟨by rw [List.length_set]; exact c.1, fun k hk hn => by rw [List.getElem?_set_ne (by omega)]; exact c.2 k hk hn⟩
end HR
set_option Elab.async false
set_option linter.all false
set_option maxRecDepth 20000
set_option exponentiation.threshold 5000
set_option Elab.async false
set_option linter.all false
set_option maxRecDepth 20000
set_option exponentiation.threshold 5000
namespace HR
open PySem L2
theorem okNm {x : Str} (w : WfN x) : PyData.strOk x = true := by
  have e : ∀ c ∈ ("abcdefghijklmnopqrstuvwxyz" : Str).cps.toList, c < 0x110000 := by decide +kernel
  simp only [PyData.strOk, Array.all_eq_true_iff_forall_mem, decide_eq_true_eq]
  exact fun c hc => e c (w.2.2 c (Array.mem_toList_iff.mpr hc))
/-! records in == and in -/
theorem W_inN (o : Option Str) (xs : List Str) (h : OH) {PD : D → OH → Prop} : (opInL false (dN o) (.lst (xs.map D.str)) h).W PD = PD (.bl (match o with | none => false | some x => decide (x ∈ xs))) h := by
  have fl : flatsD (xs.map D.str) = some (xs.map V.str) := by
    induction xs with
    | nil => rfl
    | cons y ys ih => simp [flatsD, flatD, ih]
  have f : (xs.map V.str).all flatV = true := by simp [flatV]
  cases o with
  | none =>
    have e : inV .non (xs.map V.str) = false := by
      clear fl f
      induction xs with
      | nil => rfl
      | cons y ys ih => simpa [inV, eqV] using ih
    simp [dN, opInL, flatD, seqAt, fl, e, f, flatV]
  | some x =>
    have e : inV (.str x) (xs.map V.str) = decide (x ∈ xs) := by
      rw [Bool.eq_iff_iff]
      simp [inV, eqV]
    simp [dN, opInL, flatD, seqAt, fl, e, f, flatV]
end HR
set_option Elab.async false
set_option linter.all false
set_option maxRecDepth 20000
set_option exponentiation.threshold 5000
namespace HR
open PySem L2
section
variable {ms : List (Str × Int)} {b : Nat} {h : OH}
/-- the members' objects, the first j of them -/
structure MkIs (ms : List (Str × Int)) (b j : Nat) (h : OH) : Prop where
  len : h.length = b + 1 + 2 * j
  rd : h[b]? = some (.ins "Reading" [])
  ob : ∀ i m, i < j → ms[i]? = some m → h[b + 1 + 2 * i]? = some (.ins "Observed" (obFs i m (b + 2 + 2 * i) ⟨[], none, 0⟩)) ∧ h[b + 2 + 2 * i]? = some (.lst [])
theorem mk_step {j : Nat} {m : Str × Int} (M : MkIs ms b j h) (em : ms[j]? = some m) : MkIs ms b (j + 1) (((h ++ [OO.ins "Observed" []]) ++ [OO.lst []]).set h.length (OO.ins "Observed" (obFs j m (h.length + 1) ⟨[], none, 0⟩))) := by
  have hl := M.len
  refine ⟨by simp [hl]; omega, ?_, fun i m2 hi e => ?_⟩
  · rw [List.getElem?_set_ne (by omega), List.append_assoc, List.getElem?_append_left (by omega)]
    exact M.rd
  · by_cases c : i = j
    · subst c
      rw [em] at e
      cases e
      have e1 : b + 1 + 2 * i = h.length := by omega
      have e2 : b + 2 + 2 * i = h.length + 1 := by omega
      rw [e1, e2, List.getElem?_set_self (by simp), List.getElem?_set_ne (by omega)]
      refine ⟨rfl, ?_⟩
      rw [List.getElem?_append_right (by simp)]
      simp
    · have hi : i < j := by omega
      rw [List.getElem?_set_ne (by omega), List.getElem?_set_ne (by omega), List.append_assoc, List.getElem?_append_left (by omega), List.getElem?_append_left (by omega)]
      exact M.ob i m2 hi e
theorem W_dcRank (a0 a1 a2 a3 a4 a5 a6 a7 a8 a9 : Option D) (h : OH) : dcGo (gN 5) sYes (sVar 5) (sUn opNeg (sC (.int 1))) (wipeD [a0, a1, a2, a3, a4, a5, a6, a7, a8, a9] [5]) (rngD 1 10) h [] = .ok (lpD fun _ => -1) h := by rfl
/-- a member, as a list or a tuple -/
def mbV (t : Bool) (m : Str × Int) : D := if t then .tup [.str m.1, .int m.2] else .lst [.str m.1, .int m.2]
theorem rd_init0 (w : WfM ms) {xs : List (Option Nat)} {ys ds : List D} {MV RV : D} (hmv : enumAtX MV = some (enumD ds)) (hrv : enumAtX RV = some (enumD ys)) (hd1 : ds.length = ms.length) (hd2 : ∀ (j : Nat) (m : Str × Int), ms[j]? = some m → ∃ t, ds[j]? = some (mbV t m)) (hy1 : ys.length = xs.length) (hy2 : ∀ (t : Nat) (x : Option Nat), xs[t]? = some x → ys[t]? = some (dN (nmM ms x))) (hx : ∀ x ∈ xs, ∀ k, x = some k → k < ms.length) (hl : xs.length ≤ 400) (hb : h.length = b + 1) (h0 : h[b]? = some (.ins "Reading" [])) {PD : D → OH → Prop}
    (q : ∀ h', RdIs ms b (endRd (rkM ms) xs 0 S0).2 (dFlt (endRd (rkM ms) xs 0 S0).1) h' → PD .non h') : (Sh.Reading_init [.ref b, MV, RV] h).W PD := by
  have hn := w.len
  unfold Sh.Reading_init; rw [W_fn]; unfold Sh.Reading_init_b
  -- the members
  refine SW_seqK fun K hK => ?_
  simp [hmv]
  refine W_lcGo (fun j acc h' => MkIs ms b j h' ∧ acc = rdRefs b j) _ _ _ ⟨⟨by omega, h0, fun i m hi => by omega⟩, rfl⟩ (fun j d hd acc h' hI => ?_) (fun acc h' hI => ?_)
  · obtain ⟨M, rfl⟩ := hI
    obtain ⟨y, hy, rfl⟩ := enumAt hd
    have hj : j < ms.length := by
      have := (List.getElem?_eq_some_iff.mp hy).1
      omega
    have em := mb_at hj
    obtain ⟨m, hm⟩ : ∃ m, ms.getD j gMb = m := ⟨_, rfl⟩
    rw [hm] at em
    obtain ⟨t, et⟩ := hd2 j m em
    have hy := hy.symm.trans et
    cases hy
    refine ⟨_, by simp [gT, gCs, gN, gNl, seqAt, wipeD]; rfl, ?_⟩
    have m0 : ∀ (PD : D → OH → Prop) (h : OH), (opIx (mbV t m) (.int 0) h).W PD = PD (.str m.1) h := fun PD h => by cases t <;> simp [mbV]
    have m1 : ∀ (PD : D → OH → Prop) (h : OH), (opIx (mbV t m) (.int 1) h).W PD = PD (.int m.2) h := fun PD h => by cases t <;> simp [mbV]
    simp [m0, m1]
    refine ob_init (by simp) ?_
    refine ⟨by simp [rdRefs]; omega, ?_, ?_⟩
    · have := mk_step M em
      simpa using this
    · have := M.len
      simp [rdRefs, List.range_succ]
      omega
  obtain ⟨M, rfl⟩ := hI
  have M : MkIs ms b ms.length h' := by simpa [enumD, hd1] using M
  have le : (enumD ds).length = ms.length := by simp [enumD, hd1]
  have Ml := M.len
  rw [le]
  simp [isR, M.rd]
  refine hK _ _ ?_
  clear hK K h0 hb
  -- the positions
  refine SW_seqK fun K hK => ?_
  have r1 : rngOk 1 = true := by decide
  have r2 : rngOk 11 = true := by decide
  simp [r1, r2]
  rw [W_dcRank]
  simp only [W_ok]
  have g1 : ∀ (x : OO) (t : OH), (h'.set b x ++ t)[b]? = some x := fun x t => by
    rw [List.getElem?_append_left (by simp; omega), List.getElem?_set_self (by omega)]
  simp [isR, g1]
  refine hK _ _ ?_
  clear hK K
  refine SW_seqK fun K hK => ?_
  have g2 : ∀ (x y : OO) (t : OH), ((h'.set b x ++ t).set b y)[b]? = some y := fun x y t => by
    rw [List.getElem?_set_self (by simp; omega)]
  simp [isR, g2]
  refine hK _ _ ?_
  clear hK K
  have R : RdIs ms b S0 .non ((((h'.set b (OO.ins "Reading" [("observed", .lst (rdRefs b ms.length))])) ++ [OO.dct (lpD fun _ => -1)]).set b (OO.ins "Reading" [("observed", .lst (rdRefs b ms.length)), ("last_position", .ref h'.length)])).set b (OO.ins "Reading" [("observed", .lst (rdRefs b ms.length)), ("last_position", .ref h'.length), ("fault", .non)])) := by
    have el : b + 1 + 2 * ms.length = h'.length := by omega
    refine ⟨by simp; omega, ?_, fun j m e => ?_, ?_⟩
    · rw [List.getElem?_set_self (by simp; omega)]
      simp [rdFs, el]
    · have hj := (List.getElem?_eq_some_iff.mp e).1
      have := M.ob j m hj e
      rw [List.getElem?_set_ne (by omega), List.getElem?_set_ne (by omega), List.getElem?_append_left (by simp; omega), List.getElem?_set_ne (by omega), List.getElem?_set_ne (by omega), List.getElem?_set_ne (by omega), List.getElem?_append_left (by simp; omega), List.getElem?_set_ne (by omega)]
      exact this
    · rw [List.getElem?_set_ne (by omega), List.getElem?_set_ne (by omega), List.getElem?_append_right (by simp; omega)]
      simp [el]
      rfl
  simp only [List.set_set] at R ⊢
  revert R
  generalize (List.set (h'.set b (OO.ins "Reading" [("observed", .lst (rdRefs b ms.length))]) ++ [OO.dct (lpD fun _ => -1)]) b (OO.ins "Reading" [("observed", .lst (rdRefs b ms.length)), ("last_position", .ref h'.length), ("fault", .non)])) = h1
  intro R
  clear M Ml g1 g2 r1 r2 le
  -- the record
  simp [hrv]
  refine W_forL (fun t e h2 => ∃ S, RdIs ms b S .non h2 ∧ (∀ j, (S.obs j).tk.length ≤ t) ∧ endRd (rkM ms) xs 0 S0 = endRd (rkM ms) (xs.drop t) t S ∧ ∃ a1 a2 a3 a4 a5 a6 a7 : Option D, e = [some (.ref b), some MV, some RV, a1, a2, a3, a4, a5, a6, a7]) _ _ _ ⟨S0, R, fun j => by simp [S0, Ob.tk], by simp, none, none, none, none, none, none, none, rfl⟩ (fun t d hd e h2 hI => ?_) (fun e h2 hI => ?_)
  · obtain ⟨S, R1, ht, ee, a1, a2, a3, a4, a5, a6, a7, rfl⟩ := hI
    obtain ⟨y, hy, rfl⟩ := enumAt hd
    have htl0 := (List.getElem?_eq_some_iff.mp hy).1
    obtain ⟨x, ex⟩ : ∃ x, xs[t]? = some x := ⟨_, List.getElem?_eq_getElem (by omega)⟩
    have hy := hy.symm.trans (hy2 t x ex)
    cases hy
    have htl := (List.getElem?_eq_some_iff.mp ex).1
    have dr : xs.drop t = x :: xs.drop (t + 1) := by
      rw [List.drop_eq_getElem_cons htl]
      congr 1
      rw [List.getElem?_eq_getElem htl] at ex
      exact Option.some.inj ex
    have hxx := hx x (List.mem_of_getElem? ex)
    rw [dr] at ee
    have i1 := ins_ref R1.rd
    refine ⟨_, by simp [gT, gCs, gN, gNl, seqAt]; rfl, ?_⟩
    -- who speaks
    refine SW_seqK fun K hK => ?_
    suffices hk : K [some (.ref b), some MV, some RV, a1, a2, a3, some (.int t), some (dN (nmM ms x)), some (spkD b x), a7] h2 by
      cases x with
      | none =>
        simp [nmM, dN]
        exact hk
      | some k =>
        have hk1 := hxx k rfl
        simp [-List.getD_eq_getElem?_getD, nmM, dN, W_isStr, i1, wipeD]
        refine W_lcMap (List.range ms.length) (fun j => D.ref (b + 1 + 2 * j)) (fun j => (ms.getD j gMb).1 == (ms.getD k gMb).1) (fun j => D.ref (b + 1 + 2 * j)) _ (by simp only [big, List.length_range]; omega) (fun j hj => ⟨_, rfl, ?_⟩) ?_
        · have hj := List.mem_range.mp hj
          have ij := ins_ref (R1.ob j _ (mb_at hj)).1
          have s1 := okNm (w.nm _ (List.mem_of_getElem? (mb_at hj)))
          have s2 := okNm (w.nm _ (List.mem_of_getElem? (mb_at hk1)))
          simp [-List.getD_eq_getElem?_getD, ij, W_eqS _ _ _ _ s1 s2]
        · rw [find_nm w hk1]
          simp [-List.getD_eq_getElem?_getD]
          exact hk
    refine hK _ _ ?_
    clear hK K
    refine SW_seqK fun K hK => ?_
    suffices hk : K [some (.ref b), some MV, some RV, a1, a2, a3, some (.int t), some (dN (nmM ms x)), some (spkD b x), some (dKd (x.bind fun k => kindF (rkM ms) k S))] h2 by
      cases x with
      | none =>
        simp [spkD]
        exact hk
      | some k =>
        have hk1 := hxx k rfl
        simp [spkD, W_isR, i1]
        refine kind_ok R1 w hk1 ?_
        exact hk
    refine hK _ _ ?_
    clear hK K
    refine SW_seqK fun K hK => ?_
    cases ek : x.bind fun k => kindF (rkM ms) k S with
    | some kd =>
      have e2 : endRd (rkM ms) xs 0 S0 = (some (t, kd), S) := by
        rw [ee]
        simp only [endRd, ek]
      rw [e2] at q
      have nk : ∀ PD : D → OH → Prop, (opIs true (dKd (some kd)) .non h2).W PD = PD (.bl true) h2 := fun PD => by cases kd <;> simp [dKd]
      have pf : putS "fault" (.tup [.int t, dKd (some kd)]) (rdFs b ms.length .non) = rdFs b ms.length (.tup [.int t, dKd (some kd)]) := by simp [putS, rdFs]
      simp [nk, isR, R1.rd, pf]
      refine q _ ⟨by simpa using R1.len, ?_, fun j m e => ?_, ?_⟩
      · have := R1.len
        rw [List.getElem?_set_self (by omega)]
        rfl
      · rw [List.getElem?_set_ne (by omega), List.getElem?_set_ne (by omega)]
        exact R1.ob j m e
      · rw [List.getElem?_set_ne (by omega)]
        exact R1.lp
    | none =>
      simp [dKd]
      refine hK _ _ ?_
      clear hK K
      simp [i1]
      refine tick_ok R1 w hxx (fun j => by have := ht j; omega) fun h3 R2 => ?_
      refine ⟨_, R2, fun j => ?_, ?_⟩
      · have := tk_len_step (rkM ms) x S j
        have := ht j
        omega
      · rw [ee]
        simp only [endRd, ek]
  · obtain ⟨S, R1, ht, ee, a1, a2, a3, a4, a5, a6, a7, rfl⟩ := hI
    rw [List.drop_eq_nil_of_le (by simp [enumD, hy1])] at ee
    rw [ee] at q
    exact q _ R1
theorem rd_init (w : WfM ms) {xs : List (Option Nat)} (hx : ∀ x ∈ xs, ∀ k, x = some k → k < ms.length) (hl : xs.length ≤ 400) (hb : h.length = b + 1) (h0 : h[b]? = some (.ins "Reading" [])) {PD : D → OH → Prop}
    (q : ∀ h', RdIs ms b (endRd (rkM ms) xs 0 S0).2 (dFlt (endRd (rkM ms) xs 0 S0).1) h' → PD .non h') : (Sh.Reading_init [.ref b, .lst (ms.map dMb), .lst ((xs.map (nmM ms)).map dN)] h).W PD :=
  rd_init0 w rfl rfl (by simp) (fun j m e => ⟨true, by simp [e, mbV, dMb]⟩) (by simp) (fun t x e => by simp [e]) hx hl hb h0 q
end
end HR
set_option Elab.async false
set_option linter.all false
set_option maxRecDepth 20000
set_option exponentiation.threshold 5000
namespace HR
open PySem L2
section
variable {ms : List (Str × Int)}
theorem isMember (m : Str × Int) (hn : WfN m.1) (h1 : 1 ≤ m.2) (h2 : m.2 ≤ 10) (h : OH) : pureF Sh.is_member [dMb m] h = .ok (.bl true) h := by
  refine pure_eq h (by simp) rfl ?_
  unfold Sh.is_member; rw [W_fn]; unfold Sh.is_member_b
  simp [dMb, isname m.1 _ hn, h1, h2]
theorem checkMembers (w : WfM ms) (h : OH) : pureF Sh.check_members [.lst (ms.map dMb)] h = .ok .non h := by
  refine pure_eq h (by simp) rfl ?_
  have hl := w.len
  have l10 : ¬ (10 : Int) < ms.length := by omega
  unfold Sh.check_members; rw [W_fn]; unfold Sh.check_members_b
  simp [wipeD, l10]
  refine W_lcMap1 ms dMb (fun _ => .bl true) [] (by simp [big]; omega) (fun x hx => ⟨_, rfl, ?_⟩) ?_
  · simp [isMember x (w.nm x hx) (w.rk x hx).1 (w.rk x hx).2]
  · rw [bs_mapF]; simp [sLenSet, wipeD]
    refine W_lcMap1 ms dMb (fun m => .str m.1) [] (by simp [big]; omega) (fun x hx => ⟨_, rfl, ?_⟩) ?_
    · simp [dMb]
    · have e : ms.map (fun m => D.str m.1) = (ms.map (·.1)).map D.str := by simp
      rw [e]
      simp only [lsqAt, seqAt, Option.bind_some, keys_strs]
      have e2 : ((ms.map (·.1)).map (Sum.inr : Str → Key)).Nodup := by
        refine List.Pairwise.map _ (fun a b hab he => hab (Sum.inr.inj he)) w.nd
      rw [ddK_nodup _ [] e2 (by simp)]
      simp
      omega
theorem isItem {x : Option Str} {xs : List Str} (hx : ∀ y, x = some y → y ∈ xs) (h : OH) : pureF Sh.is_item [dN x, .lst (xs.map D.str)] h = .ok (.bl true) h := by
  refine pure_eq h (by cases x <;> simp [dN]) rfl ?_
  unfold Sh.is_item; rw [W_fn]; unfold Sh.is_item_b
  cases x with
  | none => simp [dN]
  | some y =>
    have := W_inN (some y) xs
    simp [dN] at this ⊢
    simp [this, hx y rfl]
theorem nmM_mem {x : Option Nat} (hx : ∀ k, x = some k → k < ms.length) : ∀ y, nmM ms x = some y → y ∈ ms.map (·.1) := fun y e => by
  cases x with
  | none => cases e
  | some k =>
    have hk := hx k rfl
    cases e
    exact List.mem_map_of_mem (List.mem_of_getElem? (mb_at hk))
theorem checkRecord {xs : List (Option Str)} {ns : List Str} (hx : ∀ x ∈ xs, ∀ y, x = some y → y ∈ ns) (hl : xs.length ≤ 400) (h : OH) : pureF Sh.check_record [.lst (xs.map dN), .lst (ns.map D.str)] h = .ok .non h := by
  have pn : D.pureL (ns.map D.str) = true := pureL_map _ (fun _ => rfl) ns
  refine pure_eq h (by simp [pn]) rfl ?_
  have l400 : ¬ (400 : Int) < xs.length := by omega
  unfold Sh.check_record; rw [W_fn]; unfold Sh.check_record_b
  simp [wipeD, l400]
  refine W_lcMap1 xs dN (fun _ => .bl true) [] (by simp [big]; omega) (fun x hx2 => ⟨_, rfl, ?_⟩) ?_
  · simp [isItem (hx x hx2)]
  · rw [bs_mapF]; simp
/-- the first members and a record -/
structure Rc (ms : List (Str × Int)) (xs : List (Option Nat)) : Prop where
  w : WfM ms
  hx : ∀ x ∈ xs, ∀ k, x = some k → k < ms.length
  hl : xs.length ≤ 400
def recD (ms : List (Str × Int)) (xs : List (Option Nat)) : D := .lst ((xs.map (nmM ms)).map dN)
@[simp] theorem pure_recD (ms : List (Str × Int)) (xs : List (Option Nat)) : (recD ms xs).pure = true := by simp [recD, -List.map_map]
variable {xs : List (Option Nat)}
theorem checkedReading (r : Rc ms xs) (h : OH) {PD : D → OH → Prop} (q : ∀ h', RdIs ms h.length (endRd (rkM ms) xs 0 S0).2 (dFlt (endRd (rkM ms) xs 0 S0).1) h' → PD (.ref h.length) h') : (Sh.checked_reading [.lst (ms.map dMb), recD ms xs] h).W PD := by
  have hn := r.w.len
  have cr := fun h => checkRecord (xs := xs.map (nmM ms)) (ns := ms.map (·.1)) (fun x hx => by
    obtain ⟨z, hz, rfl⟩ := List.mem_map.mp hx
    exact nmM_mem (r.hx z hz)) (by simpa using r.hl) h
  unfold Sh.checked_reading; rw [W_fn]; unfold Sh.checked_reading_b
  refine SW_seqK fun K hK => ?_
  simp [checkMembers r.w]
  refine hK _ _ ?_
  clear hK K
  refine SW_seqK fun K hK => ?_
  simp [wipeD]
  refine W_lcMap1 ms dMb (fun m => .str m.1) _ (by simp [big]; omega) (fun x hx => ⟨_, rfl, by simp [dMb]⟩) ?_
  have e : ms.map (fun m => D.str m.1) = (ms.map (·.1)).map D.str := by simp
  rw [e, recD, cr]
  simp
  refine hK _ _ ?_
  clear hK K cr e
  have := rd_init (h := h ++ [.ins "Reading" []]) (b := h.length) r.w r.hx r.hl (by simp) (by simp) (PD := fun d h2 => match d with | .non => PD (.ref h.length) h2 | _ => False) fun h' R => q h' R
  rw [List.map_map] at this
  simp
  exact this
theorem dFlt_pure (o : Option (Nat × Bool)) : (dFlt o).pure = true := by
  cases o with
  | none => rfl
  | some p => obtain ⟨t, kd⟩ := p; cases kd <;> rfl
theorem faultOf (r : Rc ms xs) (h : OH) : pureF Sh.fault_of [.lst (ms.map dMb), recD ms xs] h = .ok (dFlt (endRd (rkM ms) xs 0 S0).1) h := by
  refine pure_eq h (by simp) (dFlt_pure _) ?_
  unfold Sh.fault_of; rw [W_fn]; unfold Sh.fault_of_b
  simp
  refine checkedReading r [] fun h' R => ?_
  have i1 : insAt h' (.ref 0) = _ := ins_ref R.rd
  simp [i1]
def dSd (o : Ob) : D := .tup [.lst (o.tk.map dT), .bl o.cur.isSome, .int o.q]
def schD (ms : List (Str × Int)) (S : RdS) : D := .lst ((List.range ms.length).map fun j => dSd (S.obs j))
theorem schD_pure (ms : List (Str × Int)) (S : RdS) : (schD ms S).pure = true := by
  have : D.pureL ((List.range ms.length).map fun j => dSd (S.obs j)) = true := pureL_map _ (fun j => by simp [dSd]) _
  simp [schD, this]
theorem sched_body (r : Rc ms xs) (h : OH) (e : (endRd (rkM ms) xs 0 S0).1 = none) {R : D → OH → Prop} (q : ∀ h', R (schD ms (endRd (rkM ms) xs 0 S0).2) h') (a : SS) (e0 : Env') (h' : OH) (R0 : RdIs ms h.length (endRd (rkM ms) xs 0 S0).2 .non h') (m1 m2 a3 : Option D) :
    (sSeq (sIfS (sTest (sBin (opIs true) (sUn (opFld "fault") (sVar 2)) (sC .non))) a sNext) (sRet (sLc false (sIt (sUn (opFld "observed") (sVar 2))) (gN 3) sYes (sTup (sCons (sCall (b1 (opList false)) (sCons (sUn (opFld "found_talks") (sVar 3)) sNil)) (sCons (sUn (opFld "is_open") (sVar 3)) (sCons (sUn (opFld "quiet_ticks") (sVar 3)) sNil)))) [3])) [m1, m2, some (.ref h.length), a3] h').W (fun _ h1 => R .non h1) (fun _ _ => False) (fun _ _ => False) R := by
  have i1 := ins_ref R0.rd
  have hn := r.w.len
  simp [i1, wipeD]
  refine W_lcMap1 (List.range ms.length) (fun j => D.ref (h.length + 1 + 2 * j)) (fun j => dSd ((endRd (rkM ms) xs 0 S0).2.obs j)) _ (by simp [big]; omega) (fun j hj => ⟨_, rfl, ?_⟩) ?_
  · have hj := List.mem_range.mp hj
    obtain ⟨o1, o2⟩ := R0.ob j _ (mb_at hj)
    have lo : opList false (.ref (h.length + 2 + 2 * j)) h' = .ok (.lst (((endRd (rkM ms) xs 0 S0).2.obs j).tk.map dT)) h' := by simp [opList, seqAt, o2]
    simp [-List.getD_eq_getElem?_getD, ins_ref o1, lo, dSd]
  · exact q _
end
end HR
set_option Elab.async false
set_option linter.all false
set_option maxRecDepth 20000
set_option exponentiation.threshold 5000
set_option Elab.async false
set_option linter.all false
set_option maxRecDepth 20000
set_option exponentiation.threshold 5000
set_option Elab.async false
set_option linter.all false
set_option maxRecDepth 20000
set_option exponentiation.threshold 5000
namespace HR
open PySem L2
/-! ### members, drawn from the bag -/
structure MemI (ns : List Int) (i c : Nat) (h : OH) (k : Nat) (acc : List D) (h' : OH) : Prop where
  ex : Bag ns h' i (c + 2 + 2 * k) ∧ Chg i h h' ∧ ∃ (ms : List (Str × Int)) (nl : List Str), acc = ms.map dMb ∧ h'[h.length]? = some (.lst (nl.map D.str)) ∧ ms.length = k ∧ nl.length + k = 10 ∧ (ms.map (·.1) ++ nl).Perm NAMES ∧ ∀ m ∈ ms, 1 ≤ m.2 ∧ m.2 ≤ 10
theorem members_ok {ns : List Int} {h : OH} {i c : Nat} {most : Int} (hs : Bag ns h i c) (hc : c < 2 ^ 59) (h0 : 0 ≤ most) (h1 : most ≤ 10) {P : D → OH → Prop}
    (q : ∀ (ms : List (Str × Int)) h', Bag ns h' i (c + 30) → Chg i h h' → (ms.length : Int) ≤ most → WfM ms → (∀ m ∈ ms, m.1 ∈ NAMES) → P (.lst (ms.map dMb)) h') : (Sh.l_members [.ref i, .int most] h).W P := by
  have hi := hs.lt
  unfold Sh.l_members
  rw [W_fn]
  unfold Sh.l_members_b
  have b60 : (2 : Nat) ^ 60 = 2 * 2 ^ 59 := by decide
  refine SW_seqK fun K hK => ?_
  simp
  refine hK _ _ ?_
  clear hK K
  refine SW_seqK fun K hK => ?_
  simp
  refine bdraw_ok (hs.app _) (by omega) (by decide) (small_64 (by decide)) fun v h2 v0 v1 s2 c2 => ?_
  try simp
  refine pickI (ns := [1, 2, 4, 10]) v0 v1 fun ranks hr => ?_
  have hr' : 1 ≤ ranks ∧ ranks ≤ 10 := by simp at hr; omega
  refine hK _ _ ?_
  clear hK K
  refine SW_seqK fun K hK => ?_
  simp
  refine bdraw_ok s2 (by omega) (by omega) (small_64 (by omega)) fun w h3 w0 w1 s3 c3 => ?_
  refine hK _ _ ?_
  clear hK K
  have r : rngOk w = true := by simp [rngOk]; omega
  have g3 : h3[h.length]? = some (.lst (NAMES.map D.str)) := c3.get (c2.get (by simp; rfl) (by omega)) (by omega)
  have cc : Chg i h h3 := (Chg.app i h _).trans (c2.trans c3)
  simp [r, wipeD]
  refine W_lcGo (fun k acc h' => MemI ns i c h k acc h') _ _ _
    ⟨s3, cc, [], NAMES, rfl, g3, rfl, rfl, List.Perm.refl _, by simp⟩ (fun k d hd acc h' hI => ?_) (fun acc h' hI => ?_)
  · obtain ⟨s, c4, ms, nl, rfl, g, hk, hnl, hp, hw⟩ := hI.ex
    obtain ⟨hk2, rfl⟩ := rngD_at hd
    have hk3 : k < 10 := by omega
    refine ⟨_, rfl, ?_⟩
    simp [g, isOwn]
    refine bdraw_ok s (by omega) (by omega) (small_64 (by omega)) fun p h5 p0 p1 s5 c5 => ?_
    have g5 := c5.get g (by omega)
    simp [g5]
    have hpl : p.toNat < nl.length := by omega
    refine W_popAt p0 (y := .str nl[p.toNat]) (by simp [hpl]) (by omega) ?_
    have s5' := s5.set (j := h.length) (by omega) (.lst ((nl.map D.str).eraseIdx p.toNat))
    have c5' := (c4.trans c5).setNew (j := h.length) (Nat.le_refl _) (.lst ((nl.map D.str).eraseIdx p.toNat))
    have n5 : (h5.set h.length (.lst ((nl.map D.str).eraseIdx p.toNat)))[h.length]? = some (.lst ((nl.eraseIdx p.toNat).map D.str)) := by
      rw [List.getElem?_set_self (List.getElem?_eq_some_iff.mp g5).1, eraseIdx_mapF]
    generalize h5.set h.length (.lst ((nl.map D.str).eraseIdx p.toNat)) = h6 at s5' c5' n5 ⊢
    try simp
    refine bdraw_ok s5' (by omega) (by omega) (small_64 (by omega)) fun rk h7 rk0 rk1 s7 c7 => ?_
    have n7 := c7.get n5 (by omega)
    try simp
    refine ⟨by omega, ⟨s7.mono (by omega), c5'.trans c7, ms ++ [(nl[p.toNat], 1 + rk)], nl.eraseIdx p.toNat, by simp [dMb], n7, by simp [hk], ?_, ?_, ?_⟩⟩
    · rw [List.length_eraseIdx, if_pos hpl]; omega
    · refine List.Perm.trans ?_ hp
      simp only [List.map_append, List.map_cons, List.map_nil, List.append_assoc, List.singleton_append]
      exact List.Perm.append_left _ (eraseIdx_permF nl _ hpl)
    · intro m hm
      rcases List.mem_append.mp hm with hm | hm
      · exact hw m hm
      · rw [List.mem_singleton.mp hm]
        exact ⟨by dsimp only; omega, by dsimp only; omega⟩
  · obtain ⟨s, c4, ms, nl, rfl, g, hk, hnl, hp, hw⟩ := hI.ex
    rw [rngD_len] at hk hnl s
    have hx : ∀ m ∈ ms, m.1 ∈ NAMES := fun m hm => hp.mem_iff.mp (List.mem_append_left _ (List.mem_map_of_mem hm))
    have := hp.symm.nodup names_nd
    exact q ms _ (s.mono (by omega)) c4 (by omega) ⟨by omega, hw, fun m hm => names_wf _ (hx m hm), (List.nodup_append.mp this).1⟩ hx
end HR
set_option Elab.async false
set_option linter.all false
set_option maxRecDepth 20000
set_option exponentiation.threshold 5000
namespace HR
open PySem L2
/-! ### the definitions, as the laws compute them -/
def rkK (ms : List (Str × Int)) : List (Key × D) := ms.map fun m => (Sum.inr m.1, .int m.2)
section
variable {ms : List (Str × Int)} {xs : List (Option Nat)}
theorem rkK_nodup (w : WfM ms) : ((rkK ms).map (·.1)).Nodup := by
  have : (rkK ms).map (·.1) = (ms.map (·.1)).map (Sum.inr : Str → Key) := by simp [rkK]
  rw [this]
  exact List.Pairwise.map _ (fun a b hab he => hab (Sum.inr.inj he)) w.nd
theorem getK_nd : ∀ {ks : List (Key × D)} (nd : (ks.map (·.1)).Nodup) {k : Key} {d : D}, (k, d) ∈ ks → getK ks k = some d
  | [], _, _, _, h => by cases h
  | (k0, d0) :: ks, nd, k, d, h => by
    simp only [List.map_cons, List.nodup_cons] at nd
    by_cases c : k0 = k
    · subst c
      rcases List.mem_cons.mp h with e | e
      · cases e; simp [getK]
      · exact absurd (List.mem_map_of_mem (f := (·.1)) e) nd.1
    · rcases List.mem_cons.mp h with e | e
      · cases e; exact absurd rfl c
      · have := getK_nd nd.2 e
        simpa [getK, c] using this
end
end HR
set_option Elab.async false
set_option linter.all false
set_option maxRecDepth 20000
set_option exponentiation.threshold 5000
set_option Elab.async false
set_option linter.all false
set_option maxRecDepth 20000
set_option exponentiation.threshold 5000
set_option Elab.async false
set_option linter.all false
set_option maxRecDepth 20000
set_option exponentiation.threshold 5000
set_option Elab.async false
set_option linter.all false
set_option maxRecDepth 20000
set_option exponentiation.threshold 5000
namespace HR
open PySem L2
/-! ### the stream of the laws 70 and on: draw, talks, halls -/
def Spr4 (h : OH) (i : Nat) : Prop := ∃ a b : Int, h[i]? = some (.lst [.int a, .int b]) ∧ 0 ≤ b ∧ b < 2147483647
theorem Spr4.lt {h : OH} {i : Nat} (s : Spr4 h i) : i < h.length := by
  obtain ⟨a, b, e, _⟩ := s
  exact (List.getElem?_eq_some_iff.mp e).1
theorem Spr4.app {h : OH} {i : Nat} (s : Spr4 h i) (t : OH) : Spr4 (h ++ t) i := by
  have := s.lt
  obtain ⟨a, b, e, r⟩ := s
  exact ⟨a, b, by rw [List.getElem?_append_left this]; exact e, r⟩
theorem Spr4.set {h : OH} {i j : Nat} (s : Spr4 h i) (n : j ≠ i) (o : OO) : Spr4 (h.set j o) i := by
  obtain ⟨a, b, e, r⟩ := s
  exact ⟨a, b, by rw [List.getElem?_set_ne n]; exact e, r⟩
end HR
set_option Elab.async false
set_option linter.all false
set_option maxRecDepth 20000
set_option exponentiation.threshold 5000
set_option Elab.async false
set_option linter.all false
set_option maxRecDepth 20000
set_option exponentiation.threshold 5000
namespace HR
open PySem L2
/-! ### law k73: the helpers of the law -/
section
variable {ms : List (Str × Int)} {xs : List (Option Nat)} {ts : List Tk} {t : Tk}
theorem Rc.sub (r : Rc ms xs) {ys : List (Option Nat)} (h1 : ∀ y ∈ ys, y ∈ xs) (h2 : ys.length ≤ xs.length) : Rc ms ys := ⟨r.w, fun y hy => r.hx y (h1 y hy), Nat.le_trans h2 r.hl⟩
theorem Rc.take (r : Rc ms xs) (n : Nat) : Rc ms (xs.take n) := r.sub (fun y hy => List.mem_of_mem_take hy) (by simp; omega)
end
end HR
set_option Elab.async false
set_option linter.all false
set_option maxRecDepth 20000
set_option exponentiation.threshold 5000
namespace HR
open PySem L2
section
variable {ms : List (Str × Int)} {xs : List (Option Nat)} {h : OH}
theorem schedulesOf2 (r : Rc ms xs) (e : (endRd (rkM ms) xs 0 S0).1 = none) (h : OH) : pureF Sh.schedules_of_2 [.lst (ms.map dMb), recD ms xs] h = .ok (schD ms (endRd (rkM ms) xs 0 S0).2) h := by
  refine pure_eq h (by simp) (schD_pure _ _) ?_
  unfold Sh.schedules_of_2; rw [W_fn]; unfold Sh.schedules_of_2_b
  refine SW_seqK fun K hK => ?_
  simp
  refine checkedReading r [] fun h' R => ?_
  rw [e] at R
  refine hK _ _ ?_
  clear hK K
  exact sched_body (R := fun d _ => d = schD ms (endRd (rkM ms) xs 0 S0).2) r [] e (fun h' => rfl) _ [] h' R _ _ _
end
end HR
set_option Elab.async false
set_option linter.all false
set_option maxRecDepth 20000
set_option exponentiation.threshold 5000
namespace HR
open PySem L2
/-! ### what the law tells of a record -/
def toldD (ms : List (Str × Int)) (xs : List (Option Nat)) : D := match (endRd (rkM ms) xs 0 S0).1 with
  | some p => .lst [.str "fault", dFlt (some p)]
  | none => .lst [.str "fine", schD ms (endRd (rkM ms) xs 0 S0).2]
section
variable {ms : List (Str × Int)} {xs : List (Option Nat)}
theorem toldOf (r : Rc ms xs) (h : OH) : pureF Sh.l_told [.lst (ms.map dMb), recD ms xs] h = .ok (toldD ms xs) h := by
  have fo : ∀ h, pureF Sh.fault_of [.lst (ms.map dMb), recD ms xs] h = .ok (dFlt (endRd (rkM ms) xs 0 S0).1) h := fun h => faultOf r h
  have pz : (toldD ms xs).pure = true := by
    unfold toldD
    cases (endRd (rkM ms) xs 0 S0).1 with
    | none => simp [schD_pure]
    | some p => simp [dFlt_pure]
  refine pure_eq h (by simp) pz ?_
  unfold Sh.l_told; rw [W_fn]; unfold Sh.l_told_b
  generalize pureF Sh.fault_of = FO at fo ⊢
  refine SW_seqK fun K hK => ?_
  simp [fo, noXF]
  refine hK _ _ ?_
  clear hK K
  unfold toldD
  cases e : (endRd (rkM ms) xs 0 S0).1 with
  | none =>
    have so := schedulesOf2 r e
    generalize pureF Sh.schedules_of_2 = SO at so ⊢
    simp [dFlt, so, noXF]
  | some p =>
    simp [dFlt, opIs]
end
end HR
set_option Elab.async false
set_option linter.all false
set_option maxRecDepth 20000
set_option exponentiation.threshold 5000
namespace HR
open PySem L2
section
variable {ns : List Int} {h : OH} {i c : Nat}
/-- the items shuffled: a permutation -/
theorem shuffled_perm {xs : List D} (hs : Bag ns h i c) (hl : xs.length ≤ 1000) (hc : c + 1000 < 2 ^ 60) {P : D → OH → Prop} (q : ∀ (ys : List D) h', Bag ns h' i (c + xs.length) → Chg i h h' → ys.Perm xs → P (.lst ys) h') : (Sh.l_shuffled [.ref i, .lst xs] h).W P := by
  have hi := hs.lt
  unfold Sh.l_shuffled; rw [W_fn]; unfold Sh.l_shuffled_b
  generalize e0 : List.map some [D.ref i, D.lst xs] ++ List.replicate (4 - [D.ref i, D.lst xs].length) none = env
  refine SW_seqK fun K hK => ?_
  subst e0
  simp [opList, seqAt]
  refine hK _ _ ?_
  clear hK K
  have r : rngOk (xs.length : Int) = true := by simp [rngOk]; omega
  simp [r, wipeD]
  refine W_lcGo (fun k acc h' => k ≤ xs.length → Bag ns h' i (c + k) ∧ Chg i h h' ∧ acc.length = k ∧ ∃ l : List D, h'[h.length]? = some (.lst l) ∧ l.length + k = xs.length ∧ (acc ++ l).Perm xs) _ _ _
    (fun _ => ⟨hs.app _, Chg.app i h _, rfl, xs, by simp, by simp, List.Perm.refl _⟩) (fun k d hd acc h' hI => ?_) (fun acc h' hI => ?_)
  · obtain ⟨hk, rfl⟩ := rngD_at hd
    have hk : k < xs.length := by omega
    obtain ⟨s, c1, la, l, g, ll, pm⟩ := hI (by omega)
    refine ⟨_, rfl, ?_⟩
    simp [g, isOwn]
    refine bdraw_ok s (by omega) (by omega) (small_64 (by omega)) fun p h2 p0 p1 s2 c2 => ?_
    have g2 := c2.get g (by omega)
    have lt2 := (List.getElem?_eq_some_iff.mp g2).1
    simp [g2]
    have pl : p.toNat < l.length := by omega
    refine W_popAt p0 (y := l[p.toNat]) (by simp [pl]) (by omega) ?_
    refine ⟨by omega, fun _ => ⟨(s2.set (by omega) _).mono (by omega), (c1.trans c2).setNew (Nat.le_refl _) _, by simp [la], _, by rw [List.getElem?_set_self lt2], ?_, ?_⟩⟩
    · rw [List.length_eraseIdx_of_lt pl]
      omega
    · refine List.Perm.trans ?_ pm
      try simp only [List.append_assoc, List.singleton_append]
      exact List.Perm.append_left _ (eraseIdx_permF l _ pl)
  · rw [rngD_len] at hI
    obtain ⟨s, c1, la, l, g, ll, pm⟩ := hI (Nat.le_refl _)
    obtain rfl : l = [] := List.eq_nil_of_length_eq_zero (by omega)
    exact q acc h' s c1 (by simpa using pm)
end
end HR
set_option Elab.async false
set_option linter.all false
set_option maxRecDepth 20000
set_option exponentiation.threshold 5000
namespace HR
open PySem L2
/-! ### what is told, of runs that follow each other -/
section
variable {ms ms' : List (Str × Int)} {xs : List (Option Nat)}
/-- the same members but for their names and ranks, the ranks in the same order -/
theorem told_ord (hl : ms'.length = ms.length) (hx : ∀ x ∈ xs, ∀ k, x = some k → k < ms.length) (o : OrdR (rkM ms) (rkM ms') ms.length fun j => j) : toldD ms' xs = toldD ms xs := by
  have rel : ∀ (ys : List (Option Nat)), (∀ x ∈ ys, ∀ k, x = some k → k < ms.length) → RelXs (rkM ms) ms.length (fun j => j) ys ys := fun ys => by
    induction ys with
    | nil => exact fun _ => trivial
    | cons y ys ih =>
      intro h
      refine ⟨?_, ih fun x hx => h x (List.mem_cons_of_mem _ hx)⟩
      cases y with
      | none => trivial
      | some k => exact ⟨h _ List.mem_cons_self k rfl, rfl⟩
  obtain ⟨a, b⟩ := end_sim o xs xs 0 S0 S0 sim_S0 (rel xs hx) (.inl fun y hy => by
    cases y with
    | none => exact .inl rfl
    | some k => exact .inr ⟨k, hx _ hy k rfl, rfl⟩)
  unfold toldD
  rw [a]
  cases e : (endRd (rkM ms) xs 0 S0).1 with
  | some p => rfl
  | none =>
    have : schD ms' (endRd (rkM ms') xs 0 S0).2 = schD ms (endRd (rkM ms) xs 0 S0).2 := by
      unfold schD
      rw [hl]
      congr 1
      refine List.map_congr_left fun j hj => ?_
      rw [b.ob j (List.mem_range.mp hj)]
    dsimp only
    rw [this]
/-- one more member, who never speaks -/
theorem told_more (m : Str × Int) (hx : ∀ x ∈ xs, ∀ k, x = some k → k < ms.length) : (endRd (rkM (ms ++ [m])) xs 0 S0).1 = (endRd (rkM ms) xs 0 S0).1 ∧ ((List.range ms.length).map fun j => dSd ((endRd (rkM (ms ++ [m])) xs 0 S0).2.obs j)) = (List.range ms.length).map fun j => dSd ((endRd (rkM ms) xs 0 S0).2.obs j) := by
  have rk : ∀ j, j < ms.length → rkM (ms ++ [m]) j = rkM ms j := fun j hj => by
    unfold rkM
    simp [List.getElem?_append_left hj]
  have o : OrdR (rkM (ms ++ [m])) (rkM ms) ms.length fun j => j := ⟨fun i j hi hj => by rw [rk i hi, rk j hj], fun _ _ _ _ => Iff.rfl⟩
  have rel : ∀ (ys : List (Option Nat)), (∀ x ∈ ys, ∀ k, x = some k → k < ms.length) → RelXs (rkM (ms ++ [m])) ms.length (fun j => j) ys ys := fun ys => by
    induction ys with
    | nil => exact fun _ => trivial
    | cons y ys ih =>
      intro h
      refine ⟨?_, ih fun x hx => h x (List.mem_cons_of_mem _ hx)⟩
      cases y with
      | none => trivial
      | some k => exact ⟨h _ List.mem_cons_self k rfl, rfl⟩
  obtain ⟨a, b⟩ := end_sim o xs xs 0 S0 S0 sim_S0 (rel xs hx) (.inl fun y hy => by
    cases y with
    | none => exact .inl rfl
    | some k => exact .inr ⟨k, hx _ hy k rfl, rfl⟩)
  refine ⟨a.symm, List.map_congr_left fun j hj => ?_⟩
  rw [b.ob j (List.mem_range.mp hj)]
end
end HR
set_option Elab.async false
set_option linter.all false
set_option maxRecDepth 20000
set_option exponentiation.threshold 5000
namespace HR
open PySem L2
/-! ### members and records, as lists and tuples -/
def sqV (t : Bool) (xs : List D) : D := if t then .tup xs else .lst xs
section
variable {ms : List (Str × Int)} {xs : List (Option Nat)}
def mvL (f : Nat → Bool) (ms : List (Str × Int)) : List D := (List.range ms.length).map fun j => mbV (f j) (ms.getD j gMb)
@[simp] theorem sqV_pure (t : Bool) (xs : List D) : (sqV t xs).pure = D.pureL xs := by cases t <;> simp [sqV]
@[simp] theorem mbV_pure (t : Bool) (m : Str × Int) : (mbV t m).pure = true := by cases t <;> rfl
@[simp] theorem mvL_pure (f : Nat → Bool) (ms : List (Str × Int)) : D.pureL (mvL f ms) = true := pureL_map _ (fun j => mbV_pure _ _) _
@[simp] theorem rvL_pure (xs : List (Option Str)) : D.pureL (xs.map dN) = true := pureL_map _ (fun x => by cases x <;> rfl) _
theorem map_getD (ms : List (Str × Int)) : (List.range ms.length).map (fun j => ms.getD j gMb) = ms := by
  refine List.ext_getElem? fun j => ?_
  by_cases hj : j < ms.length
  · simp [hj]
  · rw [List.getElem?_eq_none (by simp; omega), List.getElem?_eq_none (by omega)]
end
end HR
set_option Elab.async false
set_option linter.all false
set_option maxRecDepth 20000
set_option exponentiation.threshold 5000
namespace HR
open PySem L2
/-! ### other names, other ranks in the same order -/
def NEW46 : List Str := ["x", "y", "zz", "other", "u", "v", "w", "t", "s", "r"]
theorem new46_wf : ∀ x ∈ NEW46, WfN x := by unfold WfN; decide +kernel
theorem new46_nd : NEW46.Nodup := by decide +kernel
def unS : D → Str
  | .str x => x
  | _ => ""
theorem pairsK_map {ξ : Type} (k : ξ → D) (v : ξ → D) (kk : ξ → Key) : ∀ l : List ξ, (∀ x ∈ l, keyD (k x) = some (kk x)) → pairsK (l.map fun x => D.tup [k x, v x]) = some (l.map fun x => (kk x, v x))
  | [], _ => rfl
  | x :: l, h => by
    have ih := pairsK_map k v kk l fun y hy => h y (List.mem_cons_of_mem _ hy)
    have hx := h x List.mem_cons_self
    simp only [List.map_cons, pairsK, ih, pairK, hx, Option.map_some]
theorem enumD_map {ξ : Type} (f : ξ → D) (g : ξ) (l : List ξ) : enumD (l.map f) = (List.range l.length).map fun (j : Nat) => D.tup [.int (j : Int), f (l.getD j g)] := by
  refine List.ext_getElem? fun i => ?_
  unfold enumD
  rw [List.getElem?_mapIdx, List.getElem?_map, List.getElem?_map]
  by_cases c : i < l.length
  · rw [List.getElem?_range c, List.getElem?_eq_getElem c]
    simp [c]
  · rw [List.getElem?_eq_none (by omega), List.getElem?_eq_none (by simp; omega)]
    rfl
section
variable {ns : List Int} {h : OH} {i c : Nat} {ms : List (Str × Int)} {xs : List (Option Nat)}
def renM (ms : List (Str × Int)) (nl : List Str) : List (Str × Int) := (List.range ms.length).map fun j => (nl.getD j "", (ms.getD j gMb).2)
theorem renM_len (nl : List Str) : (renM ms nl).length = ms.length := by simp [renM]
theorem renM_at (nl : List Str) {j : Nat} (hj : j < ms.length) : (renM ms nl).getD j gMb = (nl.getD j "", (ms.getD j gMb).2) := by
  simp [renM, hj]
theorem renM_wf (w : WfM ms) {nl : List Str} (pm : nl.Perm NEW46) : WfM (renM ms nl) where
  len := by rw [renM_len]; exact w.len
  rk := fun m hm => by
    obtain ⟨j, hj, rfl⟩ := List.mem_map.mp hm
    have hj := List.mem_range.mp hj
    exact w.rk (ms.getD j gMb) (List.mem_of_getElem? (mb_at hj))
  nm := fun m hm => by
    obtain ⟨j, hj, rfl⟩ := List.mem_map.mp hm
    have hj := List.mem_range.mp hj
    have ll : nl.length = 10 := pm.length_eq
    have hl := w.len
    have hj2 : j < nl.length := by omega
    refine new46_wf _ (pm.mem_iff.mp ?_)
    simp [hj2]
  nd := by
    have ll : nl.length = 10 := pm.length_eq
    have hl := w.len
    have nd : nl.Nodup := pm.symm.nodup new46_nd
    have e : (renM ms nl).map (·.1) = nl.take ms.length := by
      refine List.ext_getElem? fun k => ?_
      simp only [renM, List.map_map, List.getElem?_map, List.getElem?_take]
      by_cases c : k < ms.length
      · have : k < nl.length := by omega
        simp [c, this]
      · rw [if_neg c, List.getElem?_eq_none (by simp; omega)]
        rfl
    rw [e]
    exact List.Pairwise.sublist (List.take_sublist _ _) nd
theorem renamed_ok (hs : Bag ns h i c) (hc : c + 2000 < 2 ^ 60) (r : Rc ms xs) {P : D → OH → Prop} (q : ∀ (ms' : List (Str × Int)) h', Bag ns h' i (c + 10) → Chg i h h' → ms'.length = ms.length → (∀ j, j < ms.length → rkM ms' j = rkM ms j) → WfM ms' → P (.tup [.lst (ms'.map dMb), recD ms' xs]) h') : (Sh.l_renamed [.ref i, .lst (ms.map dMb), recD ms xs] h).W P := by
  have hn := r.w.len
  have hl := r.hl
  have sp := fun (h : OH) (c : Nat) (hs : Bag ns h i c) (hc : c + 2000 < 2 ^ 60) (P : D → OH → Prop) (q : ∀ (ys : List D) h', Bag ns h' i (c + 10) → Chg i h h' → ys.Perm (NEW46.map D.str) → P (.lst ys) h') => shuffled_perm hs (xs := NEW46.map D.str) (by decide) (by omega) (P := P) q
  obtain ⟨rc, hrc⟩ : ∃ rc, rc = recD ms xs := ⟨_, rfl⟩
  rw [← hrc]
  unfold Sh.l_renamed; rw [W_fn]; unfold Sh.l_renamed_b
  generalize Sh.l_shuffled = SF at sp ⊢
  refine SW_seqK fun K hK => ?_
  simp
  refine sp _ _ hs hc _ fun ys h2 s2 c2 pm => ?_
  obtain ⟨nl, rfl, pn⟩ : ∃ nl : List Str, ys = nl.map D.str ∧ nl.Perm NEW46 := by
    refine ⟨ys.map unS, ?_, ?_⟩
    · rw [List.map_map]
      symm
      refine (List.map_congr_left fun y hy => ?_).trans (List.map_id _)
      obtain ⟨x, hx, rfl⟩ := List.mem_map.mp (pm.mem_iff.mp hy)
      rfl
    · have := pm.map unS
      rw [List.map_map] at this
      exact this.trans (List.Perm.of_eq (List.map_id _))
  have ll : nl.length = 10 := pn.length_eq
  refine hK _ _ ?_
  clear hK K
  refine SW_seqK fun K hK => ?_
  simp [wipeD]
  rw [enumD_map dMb gMb]
  refine W_lcMap1 (List.range ms.length) (fun (j : Nat) => D.tup [.int (j : Int), dMb (ms.getD j gMb)]) (fun j => D.tup [.str (ms.getD j gMb).1, .str (nl.getD j "")]) _ (by simp [big]; omega) (fun j hj => ⟨_, rfl, ?_⟩) ?_
  · have hj := List.mem_range.mp hj
    have hj2 : j < nl.length := by omega
    have e1 : atI (nl.map D.str) (j : Int) = some (.str (nl.getD j "")) := by
      rw [atI_z (by omega) (by simpa using hj2), Int.toNat_natCast]
      simp [hj2]
    generalize ms.getD j gMb = m
    generalize nl.getD j "" = nm at e1
    simp [dMb, e1]
  have kd := fun (h : OH) => (show (lsqAt h (.lst ((List.range ms.length).map fun j => D.tup [.str (ms.getD j gMb).1, .str (nl.getD j "")]))).bind pairsK = some ((List.range ms.length).map fun j => (Sum.inr (ms.getD j gMb).1, D.str (nl.getD j ""))) by
    simp only [lsqAt, seqAt]
    exact pairsK_map (fun j => D.str (ms.getD j gMb).1) (fun j => D.str (nl.getD j "")) (fun j => Sum.inr (ms.getD j gMb).1) _ fun j hj => rfl)
  have knd : (((List.range ms.length).map fun j => ((Sum.inr (ms.getD j gMb).1 : Key), D.str (nl.getD j ""))).map (·.1)).Nodup := by
    have e : ((List.range ms.length).map fun j => ((Sum.inr (ms.getD j gMb).1 : Key), D.str (nl.getD j ""))).map (·.1) = (rkK ms).map (·.1) := by
      have := congrArg (List.map fun m : Str × Int => (Sum.inr m.1 : Key)) (map_getD ms)
      rw [List.map_map] at this
      simp only [List.map_map, rkK]
      exact this
    rw [e]
    exact rkK_nodup r.w
  rw [W_dictP (kd _) knd]
  have gk : ∀ j, j < ms.length → getK ((List.range ms.length).map fun j => ((Sum.inr (ms.getD j gMb).1 : Key), D.str (nl.getD j ""))) (Sum.inr (ms.getD j gMb).1) = some (.str (nl.getD j "")) := fun j hj => getK_nd knd (List.mem_map.mpr ⟨j, List.mem_range.mpr hj, rfl⟩)
  generalize ((List.range ms.length).map fun j => ((Sum.inr (ms.getD j gMb).1 : Key), D.str (nl.getD j ""))) = KS at gk ⊢
  refine hK _ _ ?_
  clear hK K kd knd
  have em : ms.map dMb = (List.range ms.length).map fun j => dMb (ms.getD j gMb) := by
    have := congrArg (List.map dMb) (map_getD ms)
    rw [List.map_map] at this
    exact this.symm
  have er : rc = .lst (xs.map fun x => dN (nmM ms x)) := by rw [hrc, recD, List.map_map]; rfl
  rw [em, er]
  have ix := fun {j : Nat} (hj : j < ms.length) (h : OH) (PD : D → OH → Prop) => W_ixK (b := .str (ms.getD j gMb).1) rfl (gk j hj) (h := h) (PD := PD)
  simp [wipeD, -List.getD_eq_getElem?_getD]
  refine W_lcMap1 (List.range ms.length) (fun j => dMb (ms.getD j gMb)) (fun j => D.tup [.str (nl.getD j ""), .int (ms.getD j gMb).2]) _ (by simp [big]; omega) (fun j hj => ⟨_, rfl, ?_⟩) ?_
  · have hj := List.mem_range.mp hj
    have ix := ix hj
    generalize ms.getD j gMb = m at ix ⊢
    generalize nl.getD j "" = nm at ix ⊢
    simp [dMb, ix]
  refine W_lcMap1 xs (fun x => dN (nmM ms x)) (fun x => dN (nmM (renM ms nl) x)) _ (by simp [big]; omega) (fun x hx => ⟨_, rfl, ?_⟩) ?_
  · cases x with
    | none => simp [nmM, dN, opIs]
    | some k =>
      have hk := r.hx _ hx k rfl
      have ix := ix hk
      have e1 : (renM ms nl).getD k gMb = _ := renM_at nl hk
      simp only [nmM, Option.map_some, dN, e1]
      generalize ms.getD k gMb = m at ix ⊢
      generalize nl.getD k "" = nm at ix ⊢
      simp [opIs, ix]
  have e1 : (List.range ms.length).map (fun j => D.tup [.str (nl.getD j ""), .int (ms.getD j gMb).2]) = (renM ms nl).map dMb := by
    simp only [renM, List.map_map]; rfl
  have e2 : D.lst (xs.map fun x => dN (nmM (renM ms nl) x)) = recD (renM ms nl) xs := by rw [recD, List.map_map]; rfl
  have := q (renM ms nl) h2 s2 c2 (renM_len _) (fun j hj => by unfold rkM; rw [renM_at nl hj]) (renM_wf r.w pn)
  rw [← e1, ← e2] at this
  simpa using this
end
end HR
set_option Elab.async false
set_option linter.all false
set_option maxRecDepth 20000
set_option exponentiation.threshold 5000
namespace HR
open PySem L2
/-! ### other ranks in the same order -/
theorem incr_lt {l : List Int} (p : l.Pairwise (· < ·)) {a b : Nat} (ha : a < l.length) (hb : b < l.length) : l.getD a 0 < l.getD b 0 ↔ a < b := by
  rw [List.pairwise_iff_getElem] at p
  have ea : l.getD a 0 = l[a] := by simp [ha]
  have eb : l.getD b 0 = l[b] := by simp [hb]
  rw [ea, eb]
  constructor
  · intro h
    by_cases c : a < b
    · exact c
    · by_cases d : a = b
      · subst d; omega
      · have := p b a hb ha (by omega)
        omega
  · exact fun h => p a b ha hb h
theorem sortI_incr {l : List Int} (nd : l.Nodup) : (sortI l).Pairwise (· < ·) := by
  have n2 : (sortI l).Nodup := (sortI_perm l).symm.nodup nd
  have le := sortI_le l
  rw [List.pairwise_iff_getElem] at le ⊢
  intro i j hi hj hij
  have a := le i j hi hj hij
  have b := (List.pairwise_iff_getElem.mp n2) i j hi hj hij
  omega
theorem sortU_ln : ∀ l : List Int, (sortU l).length ≤ l.length := by
  have ins : ∀ (x : Int) (l : List Int), (insU x l).length ≤ l.length + 1 := by
    intro x l
    induction l with
    | nil => simp [insU]
    | cons y l ih =>
      simp only [insU]
      split
      · simp
      · split <;> simp <;> omega
  intro l
  induction l with
  | nil => simp [sortU]
  | cons x l ih =>
    have := ins x (sortU l)
    simp only [sortU, List.foldr_cons, List.length_cons] at this ih ⊢
    omega
def T10 : List Int := [1, 2, 3, 4, 5, 6, 7, 8, 9, 10]
section
variable {ns : List Int} {h : OH} {i c : Nat} {ms : List (Str × Int)}
/-- the k-th used rank becomes the k-th of the new ones -/
def sprF (us sp : List Int) (r : Int) : Int := sp.getD (us.idxOf r) 0
def sprM (ms : List (Str × Int)) (us sp : List Int) : List (Str × Int) := ms.map fun m => (m.1, sprF us sp m.2)
theorem sprM_len (us sp : List Int) : (sprM ms us sp).length = ms.length := by simp [sprM]
theorem sprM_rk (us sp : List Int) {j : Nat} (hj : j < ms.length) : rkM (sprM ms us sp) j = sprF us sp (rkM ms j) := by
  simp [rkM, sprM, hj]
theorem sprM_nm (us sp : List Int) {j : Nat} (hj : j < ms.length) : ((sprM ms us sp).getD j gMb).1 = (ms.getD j gMb).1 := by
  simp [sprM, hj]
theorem spr_lt {us sp : List Int} (pu : us.Pairwise (· < ·)) (ps : sp.Pairwise (· < ·)) (hl : sp.length = us.length) {r r' : Int} (h1 : r ∈ us) (h2 : r' ∈ us) : sprF us sp r > sprF us sp r' ↔ r > r' := by
  have a1 := List.idxOf_lt_length_of_mem h1
  have a2 := List.idxOf_lt_length_of_mem h2
  have e1 : us.getD (us.idxOf r) 0 = r := by simp [a1]
  have e2 : us.getD (us.idxOf r') 0 = r' := by simp [a2]
  have x := incr_lt pu a2 a1
  have y := incr_lt ps (a := us.idxOf r') (b := us.idxOf r) (by omega) (by omega)
  rw [e1, e2] at x
  unfold sprF
  omega
theorem spread_ok (hs : Bag ns h i c) (hc : c + 2000 < 2 ^ 60) (w : WfM ms) {P : D → OH → Prop} (q : ∀ (ms' : List (Str × Int)) h', Bag ns h' i (c + 10) → Chg i h h' → ms'.length = ms.length → (∀ j, j < ms.length → (ms'.getD j gMb).1 = (ms.getD j gMb).1) → OrdR (rkM ms) (rkM ms') ms.length (fun j => j) → WfM ms' → P (.lst (ms'.map dMb)) h') : (Sh.l_spread [.ref i, .lst (ms.map dMb)] h).W P := by
  have hn := w.len
  have sp := fun (h : OH) (c : Nat) (hs : Bag ns h i c) (hc : c + 2000 < 2 ^ 60) (P : D → OH → Prop) (q : ∀ (ys : List D) h', Bag ns h' i (c + 10) → Chg i h h' → ys.Perm (T10.map D.int) → P (.lst ys) h') => shuffled_perm hs (xs := T10.map D.int) (by decide) (by omega) (P := P) q
  have er : (List.range (11 - (1 : Int)).toNat).map (fun (k : Nat) => D.int (1 + (k : Int))) = T10.map D.int := by rfl
  have pu := sortU_lt (ms.map (·.2))
  have mu := fun k => sortU_mem k (ms.map (·.2))
  have lu := sortU_ln (ms.map (·.2))
  rw [List.length_map] at lu
  unfold Sh.l_spread; rw [W_fn]; unfold Sh.l_spread_b
  generalize Sh.l_shuffled = SF at sp ⊢
  refine SW_seqK fun K hK => ?_
  simp only [SW_set, W_sSortSet]
  simp [wipeD]
  refine W_lcMap1 ms dMb (fun m => D.int m.2) _ (by simp [big]; omega) (fun x hx => ⟨_, rfl, by simp [dMb]⟩) ?_
  have e1 : ms.map (fun m => D.int m.2) = (ms.map (·.2)).map D.int := by simp
  rw [e1]
  simp only [lsqAt, seqAt, Option.bind_some, intsOf_map]
  refine ⟨by simp; omega, ?_⟩
  generalize sortU (ms.map (·.2)) = us at pu mu lu ⊢
  refine hK _ _ ?_
  clear hK K e1
  refine SW_seqK fun K hK => ?_
  simp
  rw [show (List.range 10).map (fun (k : Nat) => D.int (1 + (k : Int))) = T10.map D.int from rfl]
  refine sp _ _ hs hc _ fun ys h2 s2 c2 pm => ?_
  obtain ⟨nl, rfl, pn⟩ : ∃ nl : List Int, ys = nl.map D.int ∧ nl.Perm T10 := by
    let un : D → Int := fun d => match d with
      | .int x => x
      | _ => 0
    refine ⟨ys.map un, ?_, ?_⟩
    · rw [List.map_map]
      symm
      refine (List.map_congr_left fun y hy => ?_).trans (List.map_id _)
      obtain ⟨x, hx, rfl⟩ := List.mem_map.mp (pm.mem_iff.mp hy)
      rfl
    · have := pm.map un
      rw [List.map_map] at this
      exact this.trans (List.Perm.of_eq (List.map_id _))
  have ll : nl.length = 10 := pn.length_eq
  have nd : nl.Nodup := pn.symm.nodup (by decide)
  simp only [W_cutL, Bool.false_eq_true, if_false]
  rw [cutD_take _ _ (show (0 : Int) ≤ us.length by omega), Int.toNat_natCast, ← List.map_take]
  have ps := sortI_incr (List.Pairwise.sublist (List.take_sublist us.length nl) nd)
  have msp : ∀ x ∈ sortI (nl.take us.length), 1 ≤ x ∧ x ≤ 10 := fun x hx => by
    have : x ∈ T10 := pn.mem_iff.mp (List.mem_of_mem_take ((sortI_perm _).mem_iff.mp hx))
    simp [T10] at this
    omega
  have lsp : (sortI (nl.take us.length)).length = us.length := by
    rw [(sortI_perm _).length_eq, List.length_take]; omega
  refine hK _ _ ?_
  clear hK K
  refine SW_seqK fun K hK => ?_
  simp [lsqAt, seqAt]
  rw [← List.map_take, intsOf_map]
  dsimp only
  generalize sortI (nl.take us.length) = sq at ps msp lsp ⊢
  have ez : (List.zip (us.map D.int) (sq.map D.int)).map (fun p => D.tup [p.1, p.2]) = (us.zip sq).map fun p => D.tup [D.int p.1, D.int p.2] := by
    rw [List.zip_map, List.map_map]
    rfl
  have kd := fun (h : OH) => (show (lsqAt h (.lst ((us.zip sq).map fun p => D.tup [D.int p.1, D.int p.2]))).bind pairsK = some ((us.zip sq).map fun p => (Sum.inl p.1, D.int p.2)) by
    simp only [lsqAt, seqAt]
    exact pairsK_map (fun p : Int × Int => D.int p.1) (fun p => D.int p.2) (fun p => Sum.inl p.1) _ fun j hj => rfl)
  have knd : (((us.zip sq).map fun p => ((Sum.inl p.1 : Key), D.int p.2)).map (·.1)).Nodup := by
    have e : ((us.zip sq).map fun p => ((Sum.inl p.1 : Key), D.int p.2)).map (·.1) = us.map (Sum.inl : Int → Key) := by
      rw [List.map_map]
      have := congrArg (List.map (Sum.inl : Int → Key)) (List.map_fst_zip (l₁ := us) (l₂ := sq) (by omega))
      rw [List.map_map] at this
      exact this
    rw [e]
    refine List.Pairwise.map _ (fun a b hab he => ?_) pu
    have := Sum.inl.inj he
    omega
  have gk : ∀ r, r ∈ us → getK ((us.zip sq).map fun p => ((Sum.inl p.1 : Key), D.int p.2)) (Sum.inl r) = some (.int (sprF us sq r)) := fun r hr => by
    have a1 := List.idxOf_lt_length_of_mem hr
    refine getK_nd knd (List.mem_map.mpr ⟨(r, sprF us sq r), ?_, rfl⟩)
    have : (us.zip sq)[us.idxOf r]? = some (r, sprF us sq r) := by
      rw [List.getElem?_zip_eq_some]
      refine ⟨?_, ?_⟩
      · rw [List.getElem?_eq_getElem a1]
        simp
      · unfold sprF
        have : us.idxOf r < sq.length := by omega
        simp [this]
    exact List.mem_of_getElem? this
  rw [ez, W_dictP (kd _) knd]
  generalize ((us.zip sq).map fun p => ((Sum.inl p.1 : Key), D.int p.2)) = KS at gk ⊢
  refine hK _ _ ?_
  clear hK K kd knd ez
  have hm : ∀ m ∈ ms, m.2 ∈ us := fun m hm => (mu _).mpr (List.mem_map_of_mem hm)
  simp [wipeD]
  refine W_lcMap1 ms dMb (fun m => dMb (m.1, sprF us sq m.2)) _ (by simp [big]; omega) (fun m hx => ⟨_, rfl, ?_⟩) ?_
  · have ix := fun (h : OH) (PD : D → OH → Prop) => W_ixK (b := .int m.2) rfl (gk m.2 (hm m hx)) (h := h) (PD := PD)
    generalize sprF us sq m.2 = z at ix ⊢
    simp [dMb, ix]
  have e2 : ms.map (fun m => dMb (m.1, sprF us sq m.2)) = (sprM ms us sq).map dMb := by simp [sprM]
  rw [e2]
  have hr : ∀ j, j < ms.length → rkM ms j ∈ us := fun j hj => hm _ (List.mem_of_getElem? (mb_at hj))
  refine q _ h2 s2 c2 (sprM_len _ _) (fun j hj => sprM_nm _ _ hj) ⟨fun i j hi hj => ?_, fun _ _ _ _ => Iff.rfl⟩ ⟨by rw [sprM_len]; exact hn, fun m hx => ?_, fun m hx => ?_, ?_⟩
  · rw [sprM_rk _ _ hi, sprM_rk _ _ hj]
    exact spr_lt pu ps lsp (hr i hi) (hr j hj)
  · obtain ⟨m0, h0, rfl⟩ := List.mem_map.mp hx
    have a1 := List.idxOf_lt_length_of_mem (hm m0 h0)
    have a2 : us.idxOf m0.2 < sq.length := by omega
    refine msp _ ?_
    simp [sprF, a2]
  · obtain ⟨m0, h0, rfl⟩ := List.mem_map.mp hx
    exact w.nm m0 h0
  · have : (sprM ms us sq).map (·.1) = ms.map (·.1) := by simp [sprM]
    rw [this]
    exact w.nd
end
end HR
set_option Elab.async false
set_option linter.all false
set_option maxRecDepth 20000
set_option exponentiation.threshold 5000
namespace HR
open PySem L2
/-! ### a value equals itself -/
def EqOk (k : Nat) (d : D) : Prop := ∃ p : PyData, (∀ get, pyG get d = some p) ∧ p.canLay0 = true ∧ p.depth ≤ k
def EqOks (k : Nat) (ds : List D) : Prop := ∃ ps : List PyData, (∀ get, pyGL get ds = some ps) ∧ PyData.canLayAll0 ps = true ∧ PyData.depthAll ps ≤ k
theorem EqOk.mono {k m : Nat} {d : D} (e : EqOk k d) (h : k ≤ m) : EqOk m d := by
  obtain ⟨p, a, b, c⟩ := e
  exact ⟨p, a, b, by omega⟩
theorem eqOk_int (i : Int) : EqOk 0 (.int i) := ⟨.int i, fun _ => rfl, rfl, Nat.le_refl _⟩
theorem eqOk_bl (b : Bool) : EqOk 0 (.bl b) := ⟨.bool b, fun _ => rfl, rfl, Nat.le_refl _⟩
theorem eqOk_non : EqOk 0 .non := ⟨.none, fun _ => rfl, rfl, Nat.le_refl _⟩
theorem eqOk_str {x : Str} (h : PyData.strOk x = true) : EqOk 0 (.str x) := ⟨.str x, fun _ => rfl, h, Nat.le_refl _⟩
theorem eqOks_nil (k : Nat) : EqOks k [] := ⟨[], fun _ => rfl, rfl, Nat.zero_le _⟩
theorem eqOks_cons {k : Nat} {d : D} {ds : List D} (a : EqOk k d) (b : EqOks k ds) : EqOks k (d :: ds) := by
  obtain ⟨p, a1, a2, a3⟩ := a
  obtain ⟨ps, b1, b2, b3⟩ := b
  exact ⟨p :: ps, fun get => by simp [pyGL, a1, b1], by simp [PyData.canLayAll0, a2, b2], by simp only [PyData.depthAll]; omega⟩
theorem eqOks_all {k : Nat} : ∀ {ds : List D}, (∀ d ∈ ds, EqOk k d) → EqOks k ds
  | [], _ => eqOks_nil k
  | d :: ds, h => eqOks_cons (h d List.mem_cons_self) (eqOks_all fun x hx => h x (List.mem_cons_of_mem _ hx))
theorem eqOk_lst {k : Nat} {ds : List D} (e : EqOks k ds) : EqOk (k + 1) (.lst ds) := by
  obtain ⟨ps, b1, b2, b3⟩ := e
  exact ⟨.list ps, fun get => by simp [pyG, b1], b2, by simp only [PyData.depth]; omega⟩
theorem eqOk_tup {k : Nat} {ds : List D} (e : EqOks k ds) : EqOk (k + 1) (.tup ds) := by
  obtain ⟨ps, b1, b2, b3⟩ := e
  exact ⟨.tuple ps, fun get => by simp [pyG, b1], b2, by simp only [PyData.depth]; omega⟩
theorem W_eqRf {k : Nat} {d : D} (e : EqOk k d) (hk : k ≤ 64) (neg : Bool) (h : OH) {PD : D → OH → Prop} : (opEq neg d d h).W PD = PD (.bl (!neg)) h := by
  obtain ⟨p, g, l, dp⟩ := e
  have sh : SeqAt.shaped p = true := by simp [SeqAt.shaped, l]; omega
  have e := SeqAt.eqv_refl _ l
  simp only [opEq, pyAt, g, sh, e, Bool.and_self, if_true]
  cases neg <;> rfl
end HR
set_option Elab.async false
set_option linter.all false
set_option maxRecDepth 20000
set_option exponentiation.threshold 5000
namespace HR
open PySem L2
section
variable {ms : List (Str × Int)} {xs : List (Option Nat)} {h : OH} {i c : Nat} {ns : List Int}
theorem isFlt (o : Option (Nat × Bool)) (h : OH) {PD : D → OH → Prop} : (opIs true (dFlt o) .non h).W PD = PD (.bl o.isSome) h := by
  cases o <;> rfl
theorem addRef {l : List D} {j : Nat} {h : OH} (g : h[j]? = some (.lst l)) (hl : l.length < 1000000) (x : D) {PD : D → OH → Prop} : (opAdd (.ref j) (.lst [x]) h).W PD = PD (.lst (l ++ [x])) h := by
  have e : lstAt h (.ref j) = some l := by simp [lstAt, g]
  have z : l.length + ([x] : List D).length ≤ big := by simp [big]; omega
  have : opAdd (.ref j) (.lst [x]) h = .ok (.lst (l ++ [x])) h := by
    show (match lstAt h (.ref j), lstAt h (.lst [x]) with
    | some xs, some ys => if xs.length + ys.length ≤ big then Res.ok (D.lst (xs ++ ys)) h else .bad
    | _, _ => .bad) = _
    rw [e, show lstAt h (.lst [x]) = some [x] from rfl]
    dsimp only
    rw [if_pos z]
  rw [this]; rfl
end
end HR
set_option Elab.async false
set_option linter.all false
set_option maxRecDepth 20000
set_option exponentiation.threshold 5000
namespace HR
open PySem L2
/-! ### law k45: what a prefix tells stays right -/
section
variable {rk : Nat → Int}
/-- the talks L go on from those of o -/
def ExtO (o : Ob) (L : List (Int × Int)) : Prop := ∃ rest, match o.cur with
  | none => L = o.done ++ rest
  | some p => ∃ p' : Int × Int, p'.1 = p.1 ∧ p.2 ≤ p'.2 ∧ L = o.done ++ [p'] ++ rest
def PfO (o o2 : Ob) : Prop := (∃ p p' : Int × Int, o.cur = some p ∧ o2.cur = some p' ∧ o2.done = o.done ∧ p'.1 = p.1 ∧ p.2 ≤ p'.2) ∨ ExtO o o2.done
theorem ExtO.app {o : Ob} {L M : List (Int × Int)} (e : ExtO o L) : ExtO o (L ++ M) := by
  obtain ⟨rest, e⟩ := e
  refine ⟨rest ++ M, ?_⟩
  cases h : o.cur with
  | none => rw [h] at e; dsimp only at e ⊢; rw [e, List.append_assoc]
  | some p =>
    rw [h] at e
    obtain ⟨p', a, b, c⟩ := e
    exact ⟨p', a, b, by rw [c]; simp⟩
theorem PfO.ext {o o2 : Ob} (f : PfO o o2) : ExtO o o2.tk := by
  rcases f with ⟨p, p', a, b, c, d, e⟩ | f
  · refine ⟨[], ?_⟩
    rw [a]
    exact ⟨p', d, e, by simp [Ob.tk, b, c]⟩
  · exact f.app
theorem PfO.refl (o : Ob) : PfO o o := by
  cases h : o.cur with
  | none =>
    right
    refine ⟨[], ?_⟩
    rw [h]
    simp
  | some p => left; exact ⟨p, p, h, h, rfl, rfl, Int.le_refl _⟩
theorem PfO.pass {o o2 : Ob} (f : PfO o o2) (rs : Option Int) (r : Int) : PfO o (passO rs r o2) := by
  unfold passO
  cases c : isC rs r with
  | true =>
    right
    simpa using f.ext
  | false =>
    rcases f with ⟨p, p', a, b, c, d, e⟩ | f
    · left; exact ⟨p, p', a, by simpa using b, by simpa using c, d, e⟩
    · right; simpa using f
theorem PfO.speak {o o2 : Ob} (f : PfO o o2) : PfO o (speakO o2) := by
  rcases f with ⟨p, p', a, b, c, d, e⟩ | f
  · left
    refine ⟨p, (p'.1, p'.2 + 1), a, ?_, ?_, d, by dsimp only; omega⟩
    · unfold speakO; rw [b]
    · unfold speakO; rw [b]; exact c
  · right
    unfold speakO
    split <;> exact f
theorem PfO.step {o : Ob} {S : RdS} {j : Nat} (f : PfO o (S.obs j)) (x : Option Nat) : PfO o ((stepRd rk x S).obs j) := by
  cases x with
  | none => exact f.pass _ _
  | some k =>
    by_cases e : j = k
    · simp only [stepRd, if_pos e]; exact f.speak
    · simp only [stepRd, if_neg e]; exact f.pass _ _
theorem PfO.run {o : Ob} {j : Nat} : ∀ (ys : List (Option Nat)) {S : RdS}, PfO o (S.obs j) → PfO o ((runRd rk ys S).obs j)
  | [], _, f => f
  | y :: ys, _, f => PfO.run ys (f.step y)
end
end HR
set_option Elab.async false
set_option linter.all false
set_option maxRecDepth 20000
set_option exponentiation.threshold 5000
namespace HR
open PySem L2
/-! ### the members of higher ranks, if the lowest rank is silent -/
section
variable {ms : List (Str × Int)} {xs : List (Option Nat)}
theorem eqOk_dT (p : Int × Int) : EqOk 1 (dT p) := eqOk_tup (eqOks_cons (eqOk_int _) (eqOks_cons (eqOk_int _) (eqOks_nil _)))
theorem eqOk_dSd (o : Ob) : EqOk 3 (dSd o) := eqOk_tup (eqOks_cons (eqOk_lst (eqOks_all fun d hd => by
  obtain ⟨p, hp, rfl⟩ := List.mem_map.mp hd
  exact eqOk_dT p)) (eqOks_cons ((eqOk_bl _).mono (by decide)) (eqOks_cons ((eqOk_int _).mono (by decide)) (eqOks_nil _))))
theorem eqOk_obs (l : List Nat) (S : RdS) : EqOk 4 (.lst (l.map fun j => dSd (S.obs j))) := eqOk_lst (eqOks_all fun d hd => by
  obtain ⟨j, hj, rfl⟩ := List.mem_map.mp hd
  exact eqOk_dSd _)
theorem fmax46 (l : List Int) (a : Int) : a ≤ l.foldl max a ∧ ∀ x ∈ l, x ≤ l.foldl max a := by
  induction l generalizing a with
  | nil => exact ⟨Int.le_refl _, fun _ h => nomatch h⟩
  | cons y l ih =>
    obtain ⟨h1, h2⟩ := ih (max a y)
    refine ⟨by simp only [List.foldl_cons]; omega, fun x hx => ?_⟩
    rcases List.mem_cons.mp hx with rfl | hx
    · simp only [List.foldl_cons]; omega
    · exact h2 x hx
theorem listMax_ge {l : List Int} (ne : l ≠ []) : ∃ m, listMax l = some m ∧ ∀ x ∈ l, x ≤ m := by
  cases l with
  | nil => exact absurd rfl ne
  | cons y l =>
    refine ⟨_, rfl, fun x hx => ?_⟩
    obtain ⟨h1, h2⟩ := fmax46 l y
    rcases List.mem_cons.mp hx with rfl | hx
    · exact h1
    · exact h2 x hx
@[simp] theorem W_maxL46 (ns : List Int) (h : OH) {PD : D → OH → Prop} : (opMaxL (.lst (ns.map D.int)) h).W PD = lkS (listMax ns) fun m => PD (.int m) h := by
  unfold opMaxL
  simp only [lsqAt, seqAt, Option.bind_some, intsOf_map]
  cases listMax ns <;> rfl
/-- the places of the higher ranks -/
def hiP (ms : List (Str × Int)) (lo : Int) : List Nat := (List.range ms.length).filter fun j => decide (rkM ms j < lo)
def hiM (ms : List (Str × Int)) (lo : Int) : List (Str × Int) := (hiP ms lo).map fun j => ms.getD j gMb
def hiX (ms : List (Str × Int)) (lo : Int) (x : Option Nat) : Option Nat := x.bind fun k => if rkM ms k < lo then some ((hiP ms lo).idxOf k) else none
theorem hiM_eq (lo : Int) : ms.filter (fun m => decide (m.2 < lo)) = hiM ms lo := by
  have e := map_getD ms
  have : ms.filter (fun m => decide (m.2 < lo)) = ((List.range ms.length).map fun j => ms.getD j gMb).filter (fun m => decide (m.2 < lo)) := by rw [e]
  rw [this, List.filter_map]
  rfl
theorem hiP_mem (lo : Int) (j : Nat) : j ∈ hiP ms lo ↔ j < ms.length ∧ rkM ms j < lo := by simp [hiP]
theorem hiP_inc (lo : Int) : (hiP ms lo).Pairwise (· < ·) := List.Pairwise.sublist List.filter_sublist List.pairwise_lt_range
theorem hi_getD {lo : Int} {i : Nat} (hi : i < (hiP ms lo).length) : (hiP ms lo).getD i 0 ∈ hiP ms lo := by
  simp [hi]
theorem hiP_idx {lo : Int} {k : Nat} (hk : k ∈ hiP ms lo) : (hiP ms lo).idxOf k < (hiP ms lo).length ∧ (hiP ms lo).getD ((hiP ms lo).idxOf k) 0 = k := by
  have a1 := List.idxOf_lt_length_of_mem hk
  exact ⟨a1, by simp [a1]⟩
theorem hiM_len (lo : Int) : (hiM ms lo).length = (hiP ms lo).length := by simp [hiM]
theorem hiM_at {lo : Int} {i : Nat} (hi : i < (hiP ms lo).length) : (hiM ms lo).getD i gMb = ms.getD ((hiP ms lo).getD i 0) gMb := by
  simp [hiM, hi]
theorem hi_ord (lo : Int) : OrdR (rkM ms) (rkM (hiM ms lo)) (hiM ms lo).length fun i => (hiP ms lo).getD i 0 := by
  rw [hiM_len]
  refine ⟨fun i j hi hj => ?_, fun i j hi hj => ?_⟩
  · unfold rkM
    rw [hiM_at hi, hiM_at hj]
  · have p := hiP_inc (ms := ms) lo
    rw [List.pairwise_iff_getElem] at p
    have ea : (hiP ms lo).getD i 0 = (hiP ms lo)[i] := by simp [hi]
    have eb : (hiP ms lo).getD j 0 = (hiP ms lo)[j] := by simp [hj]
    simp only [ea, eb]
    constructor
    · exact fun h => p i j hi hj h
    · intro h
      by_cases c : i < j
      · exact c
      · by_cases d : i = j
        · subst d; omega
        · have := p j i hj hi (by omega)
          omega
theorem hi_wf (w : WfM ms) (lo : Int) : WfM (hiM ms lo) where
  len := by
    rw [← hiM_eq]
    exact Nat.le_trans (List.length_filter_le _ _) w.len
  rk := fun m hm => by
    rw [← hiM_eq] at hm
    exact w.rk m (List.mem_filter.mp hm).1
  nm := fun m hm => by
    rw [← hiM_eq] at hm
    exact w.nm m (List.mem_filter.mp hm).1
  nd := by
    rw [← hiM_eq]
    exact List.Pairwise.sublist (List.Sublist.map _ List.filter_sublist) w.nd
theorem hi_rc (r : Rc ms xs) (lo : Int) : Rc (hiM ms lo) (xs.map (hiX ms lo)) := by
  have hx : ∀ x ∈ xs.map (hiX ms lo), ∀ k, x = some k → k < (hiM ms lo).length := fun x hx k e => by
    obtain ⟨y, hy, rfl⟩ := List.mem_map.mp hx
    cases y with
    | none => cases e
    | some j =>
      simp only [hiX, Option.bind_some] at e
      by_cases c : rkM ms j < lo
      · rw [if_pos c] at e
        cases e
        rw [hiM_len]
        exact (hiP_idx ((hiP_mem lo j).mpr ⟨r.hx _ hy j rfl, c⟩)).1
      · rw [if_neg c] at e
        cases e
  exact ⟨hi_wf r.w lo, hx, by simpa using r.hl⟩
theorem hi_nm {lo : Int} {x : Option Nat} (hx : ∀ k, x = some k → k < ms.length) : nmM (hiM ms lo) (hiX ms lo x) = match x with
  | none => none
  | some k => if rkM ms k < lo then some (ms.getD k gMb).1 else none := by
  cases x with
  | none => rfl
  | some k =>
    simp only [hiX, Option.bind_some]
    by_cases c : rkM ms k < lo
    · rw [if_pos c, if_pos c]
      obtain ⟨a, b⟩ := hiP_idx ((hiP_mem lo k).mpr ⟨hx k rfl, c⟩)
      simp only [nmM, Option.map_some]
      rw [hiM_at a, b]
    · rw [if_neg c, if_neg c]
      rfl
theorem hi_told (r : Rc ms xs) {lo : Int} (hlo : ∀ j, j < ms.length → rkM ms j ≤ lo) (e : (endRd (rkM ms) xs 0 S0).1 = none) : (endRd (rkM (hiM ms lo)) (xs.map (hiX ms lo)) 0 S0).1 = none ∧ schD (hiM ms lo) (endRd (rkM (hiM ms lo)) (xs.map (hiX ms lo)) 0 S0).2 = .lst ((hiP ms lo).map fun j => dSd ((endRd (rkM ms) xs 0 S0).2.obs j)) := by
  have rel : ∀ (ys : List (Option Nat)), (∀ x ∈ ys, ∀ k, x = some k → k < ms.length) → RelXs (rkM ms) (hiM ms lo).length (fun i => (hiP ms lo).getD i 0) ys (ys.map (hiX ms lo)) := fun ys => by
    induction ys with
    | nil => exact fun _ => trivial
    | cons y ys ih =>
      intro h
      refine ⟨?_, ih fun x hx => h x (List.mem_cons_of_mem _ hx)⟩
      cases y with
      | none => trivial
      | some k =>
        have hk := h _ List.mem_cons_self k rfl
        simp only [hiX, Option.bind_some]
        by_cases c : rkM ms k < lo
        · rw [if_pos c]
          obtain ⟨a, b⟩ := hiP_idx ((hiP_mem lo k).mpr ⟨hk, c⟩)
          rw [← hiM_len] at a
          exact ⟨a, b.symm⟩
        · rw [if_neg c]
          intro j hj
          rw [hiM_len] at hj
          have := ((hiP_mem lo _).mp (hi_getD hj)).2
          have := hlo k hk
          show rkM ms k > rkM ms ((hiP ms lo).getD j 0)
          omega
  obtain ⟨a, b⟩ := end_sim (hi_ord (ms := ms) lo) xs (xs.map (hiX ms lo)) 0 S0 S0 sim_S0 (rel xs r.hx) (.inr e)
  refine ⟨a.trans e, ?_⟩
  unfold schD
  congr 1
  refine List.ext_getElem? fun i => ?_
  rw [List.getElem?_map, List.getElem?_map]
  by_cases c : i < (hiM ms lo).length
  · rw [List.getElem?_range c]
    have hc := c
    rw [hiM_len] at hc
    have ob := b.ob i c
    rw [List.getElem?_eq_getElem hc]
    simp only [Option.map_some, ob]
    simp [hc]
  · have hc := c
    rw [hiM_len] at hc
    rw [List.getElem?_eq_none (by simp; omega), List.getElem?_eq_none (by omega)]
    rfl
theorem zw_map46 (c : D → D → D) (f g : Nat → D) : ∀ l : List Nat, List.zipWith c (l.map f) (l.map g) = l.map fun j => c (f j) (g j)
  | [] => rfl
  | x :: l => by simp only [List.map_cons, List.zipWith_cons_cons, zw_map46 c f g l]
theorem highRight (r : Rc ms xs) (ne : ms ≠ []) (h : OH) : pureF Sh.l_high_right [.lst (ms.map dMb), recD ms xs] h = .ok (.bl true) h := by
  have hn := r.w.len
  have hl := r.hl
  refine pure_eq h (by simp) rfl ?_
  obtain ⟨lo, e0, hlo⟩ := listMax_ge (l := ms.map (·.2)) (by simpa using ne)
  have hlo2 : ∀ j, j < ms.length → rkM ms j ≤ lo := fun j hj => hlo _ (List.mem_map_of_mem (List.mem_of_getElem? (mb_at hj)))
  have fo : ∀ h, pureF Sh.fault_of [.lst (ms.map dMb), recD ms xs] h = .ok (dFlt (endRd (rkM ms) xs 0 S0).1) h := fun h => faultOf r h
  have so := fun (e : (endRd (rkM ms) xs 0 S0).1 = none) h => schedulesOf2 r e h
  have rh := hi_rc r lo
  have ht := hi_told r hlo2
  have sh := fun (e : (endRd (rkM ms) xs 0 S0).1 = none) h => schedulesOf2 rh (ht e).1 h
  have hs2 := fun (e : (endRd (rkM ms) xs 0 S0).1 = none) => (ht e).2
  have isf := isFlt (endRd (rkM ms) xs 0 S0).1
  obtain ⟨rc, hrc⟩ : ∃ rc, rc = recD ms xs := ⟨_, rfl⟩
  unfold Sh.l_high_right; rw [W_fn]; unfold Sh.l_high_right_b
  generalize pureF Sh.fault_of = FO at fo ⊢
  generalize pureF Sh.schedules_of_2 = SO at so sh ⊢
  rw [← hrc] at fo so ⊢
  refine SW_seqK fun K hK => ?_
  simp [wipeD]
  refine W_lcMap1 ms dMb (fun m => D.int m.2) _ (by simp [big]; omega) (fun x hx => ⟨_, rfl, by simp [dMb]⟩) ?_
  have e1 : ms.map (fun m => D.int m.2) = (ms.map (·.2)).map D.int := by simp
  rw [e1, W_maxL46, e0]
  simp only [lkS_some]
  refine hK _ _ ?_
  clear hK K e1
  refine SW_seqK fun K hK => ?_
  simp [wipeD]
  refine W_lcMap ms dMb (fun m => m.2 == lo) (fun m => D.str m.1) _ (by simp [big]; omega) (fun x hx => ⟨_, rfl, by simp [dMb]⟩) ?_
  have e1 : (ms.filter fun m => m.2 == lo).map (fun m => D.str m.1) = ((ms.filter fun m => m.2 == lo).map (·.1)).map D.str := by simp
  rw [e1]
  clear e1
  have hlow : ∀ k, k < ms.length → ((ms.getD k gMb).1 ∈ (ms.filter fun m => m.2 == lo).map (·.1) ↔ rkM ms k = lo) := fun k hk => by
    constructor
    · intro h
      obtain ⟨m, hm, e⟩ := List.mem_map.mp h
      obtain ⟨hm, e2⟩ := List.mem_filter.mp hm
      obtain ⟨j, hj, rfl⟩ := List.mem_iff_getElem.mp hm
      have ej : ms.getD j gMb = ms[j] := by simp [hj]
      have nd := List.pairwise_iff_getElem.mp r.w.nd
      have jk : j = k := by
        have ek : ms.getD k gMb = ms[k] := by simp [hk]
        rw [ek] at e
        rcases Nat.lt_trichotomy j k with c | c | c
        · exact absurd (by rw [List.getElem_map, List.getElem_map]; exact e) (nd j k (by simpa using hj) (by simpa using hk) c)
        · exact c
        · exact absurd (by rw [List.getElem_map, List.getElem_map]; exact e.symm) (nd k j (by simpa using hk) (by simpa using hj) c)
      subst jk
      unfold rkM
      rw [ej]
      exact eq_of_beq e2
    · intro h
      refine List.mem_map.mpr ⟨ms.getD k gMb, List.mem_filter.mpr ⟨List.mem_of_getElem? (mb_at hk), ?_⟩, rfl⟩
      exact beq_iff_eq.mpr h
  generalize (ms.filter fun m => m.2 == lo).map (·.1) = LW at hlow ⊢
  refine hK _ _ ?_
  clear hK K
  refine SW_seqK fun K hK => ?_
  simp [wipeD]
  refine W_lcMap ms dMb (fun m => decide (m.2 < lo)) dMb _ (by simp [big]; omega) (fun x hx => ⟨_, rfl, by simp [dMb]⟩) ?_
  rw [hiM_eq]
  refine hK _ _ ?_
  clear hK K
  refine SW_seqK fun K hK => ?_
  simp [fo, isf, noXF]
  cases ef : (endRd (rkM ms) xs 0 S0).1 with
  | some p => simp
  | none =>
    have so := so ef
    have sh := sh ef
    have hs2 := hs2 ef
    simp
    refine hK _ _ ?_
    clear hK K
    refine SW_seqK fun K hK => ?_
    have er : rc = .lst (xs.map fun x => dN (nmM ms x)) := by rw [hrc, recD, List.map_map]; rfl
    rw [er]
    have iN := fun (o : Option Str) (h : OH) (PD : D → OH → Prop) => W_inN o LW h (PD := PD)
    simp [wipeD]
    refine W_lcMap1 xs (fun x => dN (nmM ms x)) (fun x => dN (nmM (hiM ms lo) (hiX ms lo x))) _ (by simp [big]; omega) (fun x hx => ⟨_, rfl, ?_⟩) ?_
    · rw [hi_nm (fun k e => r.hx x hx k e)]
      cases x with
      | none => simp [iN, nmM]
      | some k =>
        have hk := r.hx _ hx k rfl
        have a := hlow k hk
        have b := hlo2 k hk
        simp only [nmM, Option.map_some]
        generalize (ms.getD k gMb).1 = nm at a ⊢
        simp [iN]
        by_cases c : rkM ms k < lo
        · have : ¬ nm ∈ LW := fun z => by have := a.mp z; omega
          rw [if_pos c]
          simp [this]
        · have : nm ∈ LW := a.mpr (by omega)
          rw [if_neg c]
          simp [this, dN]
    rw [← er]
    have e2 : D.lst (xs.map fun x => dN (nmM (hiM ms lo) (hiX ms lo x))) = recD (hiM ms lo) (xs.map (hiX ms lo)) := by rw [recD, List.map_map, List.map_map]; rfl
    rw [e2]
    refine hK _ _ ?_
    clear hK K er e2
    generalize recD (hiM ms lo) (xs.map (hiX ms lo)) = rq at sh ⊢
    generalize (endRd (rkM ms) xs 0 S0).2 = S at so hs2
    rw [hs2] at sh
    refine SW_seqK fun K hK => ?_
    have em : ms.map dMb = (List.range ms.length).map fun j => dMb (ms.getD j gMb) := by
      have := congrArg (List.map dMb) (map_getD ms)
      rw [List.map_map] at this
      exact this.symm
    have ez : zipAt (.lst (ms.map dMb)) (schD ms S) = some ((List.range ms.length).map fun j => D.tup [dMb (ms.getD j gMb), dSd (S.obs j)]) := by
      rw [em]
      simp only [zipAt, schD, frzAt, zipD, Option.some.injEq]
      exact zw_map46 _ _ _ _
    generalize schD ms S = sd at so ez
    simp [so, noXF, ez, wipeD]
    refine W_lcMap (List.range ms.length) (fun j => D.tup [dMb (ms.getD j gMb), dSd (S.obs j)]) (fun j => decide (rkM ms j < lo)) (fun j => dSd (S.obs j)) _ (by simp [big]; omega) (fun j hj => ⟨_, rfl, ?_⟩) ?_
    · unfold rkM
      generalize ms.getD j gMb = m
      generalize dSd (S.obs j) = sj
      simp [dMb]
    refine hK _ _ ?_
    clear hK K
    have eq := fun (h : OH) (PD : D → OH → Prop) => W_eqRf (eqOk_obs (hiP ms lo) S) (by decide) false h (PD := PD)
    have e4 : ((List.range ms.length).filter fun j => decide (rkM ms j < lo)) = hiP ms lo := rfl
    rw [e4]
    generalize (hiP ms lo).map (fun j => dSd (S.obs j)) = ob at sh eq ⊢
    simp [sh, noXF, eq]
end
end HR
set_option Elab.async false
set_option linter.all false
set_option maxRecDepth 20000
set_option exponentiation.threshold 5000
namespace HR
open PySem L2
/-! ### law k46 -/
section
variable {ms ms' : List (Str × Int)} {xs : List (Option Nat)}
theorem eqOk_flt (o : Option (Nat × Bool)) : EqOk 1 (dFlt o) := by
  have s1 : PyData.strOk "silence" = true := by decide +kernel
  have s2 : PyData.strOk "order" = true := by decide +kernel
  cases o with
  | none => exact eqOk_non.mono (by decide)
  | some p =>
    obtain ⟨t, b⟩ := p
    cases b
    · exact eqOk_tup (eqOks_cons (eqOk_int _) (eqOks_cons (eqOk_str s2) (eqOks_nil _)))
    · exact eqOk_tup (eqOks_cons (eqOk_int _) (eqOks_cons (eqOk_str s1) (eqOks_nil _)))
theorem eqOk_told (ms : List (Str × Int)) (xs : List (Option Nat)) : EqOk 5 (toldD ms xs) := by
  have s1 : PyData.strOk "fault" = true := by decide +kernel
  have s2 : PyData.strOk "fine" = true := by decide +kernel
  unfold toldD
  cases (endRd (rkM ms) xs 0 S0).1 with
  | none => exact eqOk_lst (eqOks_cons ((eqOk_str s2).mono (by decide)) (eqOks_cons (eqOk_obs _ _) (eqOks_nil _)))
  | some p => exact eqOk_lst (eqOks_cons ((eqOk_str s1).mono (by decide)) (eqOks_cons ((eqOk_flt _).mono (by decide)) (eqOks_nil _)))
theorem recD_congr (e : ∀ j, j < ms.length → (ms'.getD j gMb).1 = (ms.getD j gMb).1) (hx : ∀ x ∈ xs, ∀ k, x = some k → k < ms.length) : recD ms' xs = recD ms xs := by
  unfold recD
  congr 2
  refine List.map_congr_left fun x hm => ?_
  cases x with
  | none => rfl
  | some k => simp only [nmM, Option.map_some]; rw [e k (hx _ hm k rfl)]
theorem never_wf : WfN "never" := by unfold WfN; decide +kernel
theorem more_wf (w : WfM ms) (hN : ∀ m ∈ ms, m.1 ∈ NAMES) (hl : ms.length ≤ 6) {r : Int} (r1 : 1 ≤ r) (r2 : r ≤ 10) : WfM (ms ++ [(("never" : Str), r)]) where
  len := by simp; omega
  rk := fun m hm => by
    rcases List.mem_append.mp hm with hm | hm
    · exact w.rk m hm
    · rw [List.mem_singleton.mp hm]; exact ⟨r1, r2⟩
  nm := fun m hm => by
    rcases List.mem_append.mp hm with hm | hm
    · exact w.nm m hm
    · rw [List.mem_singleton.mp hm]; exact never_wf
  nd := by
    have n1 : ("never" : Str) ∉ NAMES := by decide +kernel
    rw [List.map_append]
    refine List.nodup_append.mpr ⟨w.nd, by simp, ?_⟩
    intro a ha b hb
    obtain ⟨m, hm, rfl⟩ := List.mem_map.mp ha
    have hm := hN m hm
    have hb : b = "never" := by simpa using hb
    subst hb
    exact fun e => n1 (e ▸ hm)
theorem cut_last (x : D) (l : List D) : cutD (l ++ [x]) none (some (-1)) = l := by
  have e : ((-1 : Int) < 0) := by decide
  simp only [cutD, HT.sIx, e, if_true, List.drop_zero, Nat.sub_zero]
  have : (-1 + ((l.length : Int) + 1)).toNat = l.length := by omega
  simp [this]
/-- what is told with one more -/
theorem told_more2 (m : Str × Int) (hx : ∀ x ∈ xs, ∀ k, x = some k → k < ms.length) : (∃ p, toldD ms xs = .lst [.str "fault", dFlt (some p)] ∧ toldD (ms ++ [m]) xs = .lst [.str "fault", dFlt (some p)]) ∨
    ∃ (S : RdS) (x : D), toldD ms xs = .lst [.str "fine", .lst ((List.range ms.length).map fun j => dSd (S.obs j))] ∧ toldD (ms ++ [m]) xs = .lst [.str "fine", .lst (((List.range ms.length).map fun j => dSd (S.obs j)) ++ [x])] := by
  obtain ⟨a, b⟩ := told_more (ms := ms) (xs := xs) m hx
  unfold toldD
  cases e : (endRd (rkM ms) xs 0 S0).1 with
  | some p =>
    rw [e] at a
    exact .inl ⟨p, rfl, by rw [a]⟩
  | none =>
    rw [e] at a
    refine .inr ⟨(endRd (rkM ms) xs 0 S0).2, dSd ((endRd (rkM (ms ++ [m])) xs 0 S0).2.obs ms.length), rfl, ?_⟩
    rw [a]
    dsimp only
    unfold schD
    rw [List.length_append, List.length_singleton, List.range_succ, List.map_append, b]
    rfl
end
theorem law46 (ns : List Int) (hl : ns.length ≤ 63) : ∃ h', Sh.law_k46 [.scr (ns.map D.int)] [] = .ok (.bl true) h' := by
  have fin : (Sh.law_k46 [.scr (ns.map D.int)] []).W (fun d _ => d = .bl true) := by
    have fo : ∀ {ms : List (Str × Int)} {xs : List (Option Nat)}, Rc ms xs → ∀ h, pureF Sh.fault_of [.lst (ms.map dMb), recD ms xs] h = .ok (dFlt (endRd (rkM ms) xs 0 S0).1) h := fun r h => faultOf r h
    have to : ∀ {ms : List (Str × Int)} {xs : List (Option Nat)}, Rc ms xs → ∀ h, pureF Sh.l_told [.lst (ms.map dMb), recD ms xs] h = .ok (toldD ms xs) h := fun r h => toldOf r h
    have hr : ∀ {ms : List (Str × Int)} {xs : List (Option Nat)}, Rc ms xs → ms ≠ [] → ∀ h, pureF Sh.l_high_right [.lst (ms.map dMb), recD ms xs] h = .ok (.bl true) h := fun r ne h => highRight r ne h
    have ren : ∀ {ms : List (Str × Int)} {xs : List (Option Nat)} {h : OH} {c : Nat}, Rc ms xs → Bag ns h 0 c → c + 2000 < 2 ^ 60 → ∀ {P : D → OH → Prop}, (∀ (ms' : List (Str × Int)) h', Bag ns h' 0 (c + 10) → Chg 0 h h' → ms'.length = ms.length → (∀ j, j < ms.length → rkM ms' j = rkM ms j) → WfM ms' → P (.tup [.lst (ms'.map dMb), recD ms' xs]) h') → (Sh.l_renamed [.ref 0, .lst (ms.map dMb), recD ms xs] h).W P := fun r s hc P q => renamed_ok s hc r q
    have spr : ∀ {ms : List (Str × Int)} {h : OH} {c : Nat}, WfM ms → Bag ns h 0 c → c + 2000 < 2 ^ 60 → ∀ {P : D → OH → Prop}, (∀ (ms' : List (Str × Int)) h', Bag ns h' 0 (c + 10) → Chg 0 h h' → ms'.length = ms.length → (∀ j, j < ms.length → (ms'.getD j gMb).1 = (ms.getD j gMb).1) → OrdR (rkM ms) (rkM ms') ms.length (fun j => j) → WfM ms' → P (.lst (ms'.map dMb)) h') → (Sh.l_spread [.ref 0, .lst (ms.map dMb)] h).W P := fun w s hc P q => spread_ok s hc w q
    unfold Sh.law_k46; rw [W_fn]; unfold Sh.law_k46_b
    generalize pureF Sh.fault_of = FO at fo ⊢
    generalize pureF Sh.l_told = TO at to ⊢
    generalize pureF Sh.l_high_right = HI at hr ⊢
    generalize Sh.l_renamed = REN at ren ⊢
    generalize Sh.l_spread = SPR at spr ⊢
    refine SW_seqK fun K hK => ?_
    simp
    refine bag_ok ns [] hl fun o s0 => ?_
    refine hK _ _ ?_
    clear hK K
    refine SW_seqK fun K hK => ?_
    have mn : (if (ns.length : Int) < 5 then (ns.length : Int) else 5) ≤ 5 := by split <;> omega
    have mn0 : 0 ≤ (if (ns.length : Int) < 5 then (ns.length : Int) else 5) := by split <;> omega
    simp
    generalize (if (ns.length : Int) < 5 then (ns.length : Int) else 5) = c at mn mn0 ⊢
    have r : rngOk (3 + c) = true := by simp [rngOk]; omega
    refine ⟨r, ?_⟩
    simp only [List.length_nil, List.nil_append] at s0 ⊢
    refine W_forL (fun k e h' => Bag ns h' 0 (300 * k) ∧ ∃ a2 a3 a4 a5 a6 a7 a8 a9 a10 a11 a12 a13 : Option D, e = [some (.scr (ns.map D.int)), some (.ref 0), a2, a3, a4, a5, a6, a7, a8, a9, a10, a11, a12, a13]) _ _ _ ⟨s0, _, _, _, _, _, _, _, _, _, _, _, _, rfl⟩ (fun k d hd e h' hI => ?_) (fun e h' hI => ?_)
    · obtain ⟨s, a2, a3, a4, a5, a6, a7, a8, a9, a10, a11, a12, a13, rfl⟩ := hI
      obtain ⟨hk2, rfl⟩ := rngD_at hd
      have hk3 : k < 8 := by omega
      have b60 : (2 : Nat) ^ 60 = 4 * 2 ^ 58 := by decide
      have b59 : (2 : Nat) ^ 59 = 2 * 2 ^ 58 := by decide
      have b58 : 100000 ≤ (2 : Nat) ^ 58 := by decide
      refine ⟨_, rfl, ?_⟩
      generalize hK0 : K = K2 at hK ⊢
      clear hK0 K
      refine SW_seqK fun K hK => ?_
      simp
      refine members_ok s (by omega) (by decide) (by decide) fun ms h2 s2 c2 lm w mN => ?_
      refine hK _ _ ?_
      clear hK K
      have lm2 : ms.length ≤ 6 := by omega
      refine SW_seqK fun K hK => ?_
      simp [wipeD]
      refine W_lcMap1 ms dMb (fun m => .str m.1) _ (by simp [big]; omega) (fun x hx => ⟨_, rfl, by simp [dMb]⟩) ?_
      simp
      refine ⟨by omega, ?_⟩
      refine hK _ _ ?_
      clear hK K
      refine SW_seqK fun K hK => ?_
      simp
      refine hK _ _ ?_
      clear hK K
      refine SW_seqK fun K hK => ?_
      simp
      have hi0 := s2.lt
      refine bdraw_ok (s2.app _) (by omega) (by decide) (small_64 (by decide)) fun v h3 v0 v1 s3 c3 => ?_
      have g3 : h3[h2.length]? = some (.lst []) := c3.get (by simp) (by omega)
      have rv : rngOk v = true := by simp [rngOk]; omega
      simp [rv]
      refine W_forL (fun t e h' => (Bag ns h' 0 (300 * k + 31 + 2 * t) ∧ ∃ xs : List (Option Nat), h'[h2.length]? = some (.lst ((xs.map (nmM ms)).map dN)) ∧ Rc ms xs ∧ xs.length = t) ∧ ∃ a5 a7 a8 a9 a10 a11 a12 a13 : Option D, e = [some (.scr (ns.map D.int)), some (.ref 0), some (.int k), some (.lst (ms.map dMb)), some (.lst (D.non :: D.non :: ms.map fun m => D.str m.1)), a5, some (.ref h2.length), a7, a8, a9, a10, a11, a12, a13]) _ _ _ ⟨⟨s3, [], g3, ⟨w, by simp, by simp⟩, rfl⟩, _, _, _, _, _, _, _, _, rfl⟩ (fun t d hd e h' hI => ?_) (fun e h' hI => ?_)
      · obtain ⟨⟨s4, xs, g4, rc, lx⟩, a5, a7, a8, a9, a10, a11, a12, a13, rfl⟩ := hI
        obtain ⟨ht2, rfl⟩ := rngD_at hd
        refine ⟨_, rfl, ?_⟩
        refine SW_seqK fun K3 hK3 => ?_
        simp
        refine bdraw_ok (n := (ms.length : Int) + 1 + 1) s4 (by omega) (by omega) (small_64 (by omega)) fun u h5 u0 u1 s5 c5 => ?_
        obtain ⟨u, rfl⟩ : ∃ k : Nat, u = k := ⟨u.toNat, by omega⟩
        have g5 := c5.get g4 (by omega)
        obtain ⟨y, hy, ey⟩ : ∃ y : Option Nat, (∀ k, y = some k → k < ms.length) ∧ atI (D.non :: D.non :: ms.map fun m => D.str m.1) (u : Int) = some (dN (nmM ms y)) := by
          rw [atI_z (by omega) (by simp; omega), Int.toNat_natCast]
          match u, u1 with
          | 0, _ => exact ⟨none, (fun k z => nomatch z), rfl⟩
          | 1, _ => exact ⟨none, (fun k z => nomatch z), rfl⟩
          | u + 2, u1 =>
            have hu : u < ms.length := by omega
            refine ⟨some u, fun k z => by cases z; exact hu, ?_⟩
            rw [List.getElem?_cons_succ, List.getElem?_cons_succ, List.getElem?_map, mb_at hu]
            rfl
        simp [ey]
        refine hK3 _ _ ?_
        clear hK3 K3
        have rcz : ∀ z : Option Nat, (∀ k, z = some k → k < ms.length) → Rc ms (xs ++ [z]) := fun z hz => ⟨w, fun x hx => by
          rcases List.mem_append.mp hx with hx | hx
          · exact rc.hx x hx
          · rw [List.mem_singleton.mp hx]; exact hz, by simp; omega⟩
        have el : ∀ z : Option Nat, D.lst ((xs.map (nmM ms)).map dN ++ [dN (nmM ms z)]) = recD ms (xs ++ [z]) := fun z => by simp [recD]
        have fy := fo (rcz y hy)
        rw [← el] at fy
        have is1 := isFlt (endRd (rkM ms) (xs ++ [y]) 0 S0).1
        generalize (endRd (rkM ms) (xs ++ [y]) 0 S0).1 = fl at fy is1
        have ar := fun (x : D) (PD : D → OH → Prop) => addRef (l := (xs.map (nmM ms)).map dN) (j := h2.length) (h := h5) g5 (by simp; omega) x (PD := PD)
        refine SW_seqK fun K3 hK3 => ?_
        simp [ar, -List.map_map, fy, is1, noXF]
        refine hK3 _ _ ?_
        clear hK3 K3
        obtain ⟨XL, hXL⟩ : ∃ XL, XL = (xs.map (nmM ms)).map dN := ⟨_, rfl⟩
        have ll : XL.length < 1000000 := by rw [hXL]; simp; omega
        have done_ : ∀ (z : Option Nat) (h6 : OH), (∀ k, z = some k → k < ms.length) → Bag ns h6 0 (300 * k + 31 + 2 * (t + 1)) → h6[h2.length]? = some (.lst XL) →
            (Bag ns (h6.set h2.length (.lst (XL ++ [dN (nmM ms z)]))) 0 (300 * k + 31 + 2 * (t + 1)) ∧ ∃ xs : List (Option Nat), (h6.set h2.length (.lst (XL ++ [dN (nmM ms z)])))[h2.length]? = some (.lst ((xs.map (nmM ms)).map dN)) ∧ Rc ms xs ∧ xs.length = t + 1) := fun z h6 hz s6 g6 => by
          have lt6 := (List.getElem?_eq_some_iff.mp g6).1
          refine ⟨s6.set (by omega) _, xs ++ [z], ?_, rcz z hz, by simp [lx]⟩
          rw [List.getElem?_set_self lt6, hXL]
          simp only [List.map_append, List.map_cons, List.map_nil]
        rw [← hXL] at g5
        have eN : D.non = dN (nmM ms none) := rfl
        cases b : fl.isSome with
        | false =>
          simp [g5, lstAt, -List.map_map]
          refine ⟨ll, ?_⟩
          exact done_ y h5 hy (s5.mono (by omega)) g5
        | true =>
          simp [g5, -List.map_map]
          refine bdraw_ok (n := 20) s5 (by omega) (by decide) (small_64 (by decide)) fun q h6 q0 q1 s6 c6 => ?_
          have g6 := c6.get g5 (by omega)
          by_cases c : 0 < q
          · simp [c, g6, lstAt, -List.map_map]
            refine ⟨ll, ?_⟩
            rw [eN]
            exact done_ none h6 (fun k z => nomatch z) (s6.mono (by omega)) g6
          · simp [c, g6, lstAt, -List.map_map]
            refine ⟨ll, ?_⟩
            exact done_ y h6 hy (s6.mono (by omega)) g6
      · obtain ⟨⟨s4, xs, g4, rc, lx⟩, a5, a7, a8, a9, a10, a11, a12, a13, rfl⟩ := hI
        refine hK _ _ ?_
        clear hK K
        have rl : (rngD 0 v.toNat).length ≤ 50 := by rw [rngD_len]; omega
        generalize (rngD 0 v.toNat).length = T at s4 lx rl
        rw [SW_frz (xs := (xs.map (nmM ms)).map dN) rfl g4]
        have s5 := s4.set (j := h2.length) (by omega) .dead
        generalize h'.set h2.length .dead = h5 at s5 ⊢
        have e6 : D.lst ((xs.map (nmM ms)).map dN) = recD ms xs := rfl
        simp only [e6, List.set_cons_succ, List.set_cons_zero]
        clear e6 g4 g3 c3 s3
        have t1 := to rc
        have hx := rc.hx
        have tm := fun (m : Str × Int) => told_more2 (ms := ms) (xs := xs) m hx
        have hh := hr rc
        have tq := eqOk_told ms xs
        have rn := fun {h : OH} {c : Nat} (hs : Bag ns h 0 c) (hc : c + 2000 < 2 ^ 60) {P : D → OH → Prop} => ren rc hs hc (P := P)
        have t2 : ∀ (ms' : List (Str × Int)), ms'.length = ms.length → (∀ j, j < ms.length → rkM ms' j = rkM ms j) → WfM ms' → ∀ h, TO [.lst (ms'.map dMb), recD ms' xs] h = .ok (toldD ms xs) h := fun ms' l1 l2 w' h => by
          have rc' : Rc ms' xs := ⟨w', fun x hxx k e => by rw [l1]; exact hx x hxx k e, rc.hl⟩
          rw [to rc' h]
          rw [told_ord l1 hx ⟨fun i j hi hj => by rw [l2 i hi, l2 j hj], fun _ _ _ _ => Iff.rfl⟩]
        have t3 : ∀ (ms' : List (Str × Int)), ms'.length = ms.length → (∀ j, j < ms.length → (ms'.getD j gMb).1 = (ms.getD j gMb).1) → OrdR (rkM ms) (rkM ms') ms.length (fun j => j) → WfM ms' → ∀ h, TO [.lst (ms'.map dMb), recD ms xs] h = .ok (toldD ms xs) h := fun ms' l1 l2 o w' h => by
          have rc' : Rc ms' xs := ⟨w', fun x hxx k e => by rw [l1]; exact hx x hxx k e, rc.hl⟩
          rw [← recD_congr l2 hx, to rc' h, told_ord l1 hx o]
        have t4 : ∀ (r : Int), 1 ≤ r → r ≤ 10 → ∀ h, TO [.lst ((ms ++ [((("never" : Str)), r)]).map dMb), recD ms xs] h = .ok (toldD (ms ++ [((("never" : Str)), r)]) xs) h := fun r r1 r2 h => by
          have rc' : Rc (ms ++ [((("never" : Str)), r)]) xs := ⟨more_wf w mN lm2 r1 r2, fun x hxx k e => by have := hx x hxx k e; simp; omega, rc.hl⟩
          rw [← to rc' h]
          rw [recD_congr (ms := ms) (ms' := ms ++ [((("never" : Str)), r)]) (fun j hj => by rw [List.getD_eq_getElem?_getD, List.getElem?_append_left hj, ← List.getD_eq_getElem?_getD]) hx]
        generalize recD ms xs = rcd at t1 t3 t4 hh rn ⊢
        refine SW_seqK fun K hK => ?_
        simp [t1]
        refine hK _ _ ?_
        clear hK K
        refine SW_seqK fun K hK => ?_
        simp
        refine rn s5 (by omega) fun ms1 h6 s6 c6 l1 l2 w1 => ?_
        have t2 := t2 ms1 l1 l2 w1
        generalize recD ms1 xs = rc1 at t2 ⊢
        try simp
        refine hK _ _ ?_
        clear hK K
        refine SW_seqK fun K hK => ?_
        have q1 := fun (h : OH) (PD : D → OH → Prop) => W_eqRf tq (by decide) true h (PD := PD)
        simp [t2, q1]
        refine spr w s6 (by omega) fun ms2 h7 s7 c7 l3 l4 o w2 => ?_
        have t3 := t3 ms2 l3 l4 o w2
        simp [t3, q1]
        refine hK _ _ ?_
        clear hK K
        refine SW_seqK fun K hK => ?_
        simp
        refine bdraw_ok s7 (by omega) (by decide) (small_64 (by decide)) fun y h8 y0 y1 s8 c8 => ?_
        have t4 := t4 (1 + y) (by omega) (by omega)
        have tm := tm (((("never" : Str)), 1 + y))
        simp only [List.map_append, List.map_cons, List.map_nil, dMb] at t4
        simp [lsqAt, seqAt, t4]
        refine ⟨by omega, ?_⟩
        have s9 := s8.mono (c' := 300 * (k + 1)) (by omega)
        have z1 : PyData.strOk "fault" = true := by decide +kernel
        have z2 : PyData.strOk "fine" = true := by decide +kernel
        have fin : ∀ (d10 d11 d12 d13 : Option D), ((sIfS (sAnd (sTest (sBin (opNil true) (sVar 3) (sLst sNil))) (sNot (sTest (sCall (withD [] HI) (sCons (sVar 3) (sCons (sVar 6) sNil)))))) (sRet (sC (.bl false))) sNext) [some (.scr (ns.map D.int)), some (.ref 0), some (.int k), some (.lst (ms.map dMb)), some (.lst (D.non :: D.non :: ms.map fun m => D.str m.1)), a5, some rcd, a7, a8, a9, d10, d11, d12, d13] h8).W
            (fun e h' => Bag ns h' 0 (300 * (k + 1)) ∧ ∃ a2 a3 a4 a5 a6 a7 a8 a9 a10 a11 a12 a13 : Option D, e = [some (.scr (ns.map D.int)), some (.ref 0), a2, a3, a4, a5, a6, a7, a8, a9, a10, a11, a12, a13]) (fun e h' => Bag ns h' 0 (300 * (k + 1)) ∧ ∃ a2 a3 a4 a5 a6 a7 a8 a9 a10 a11 a12 a13 : Option D, e = [some (.scr (ns.map D.int)), some (.ref 0), a2, a3, a4, a5, a6, a7, a8, a9, a10, a11, a12, a13]) K2 fun d _ => d = .bl true := fun d10 d11 d12 d13 => by
          cases ms with
          | nil => simp; exact s9
          | cons m ms =>
            have hh := hh (by simp)
            simp only [List.map_cons] at hh ⊢
            simp [hh]
            exact s9
        rcases tm with ⟨p, e1, e2⟩ | ⟨S, x, e1, e2⟩
        · rw [e1, e2]
          refine hK _ _ ?_
          clear hK K
          have q2 := fun (h : OH) (PD : D → OH → Prop) => W_eqRf (eqOk_flt (some p)) (by decide) true h (PD := PD)
          have n1 : ((Str.ofString "fault") == (Str.ofString "fine")) = false := by decide +kernel
          refine SW_seqK fun K hK => ?_
          simp [W_eqS _ _ _ _ z1 z1, W_eqS _ _ _ _ z1 z2, n1, q2]
          refine hK _ _ ?_
          clear hK K
          exact fin _ _ _ _
        · rw [e1, e2]
          refine hK _ _ ?_
          clear hK K
          have q2 := fun (h : OH) (PD : D → OH → Prop) => W_eqRf (eqOk_obs (List.range ms.length) S) (by decide) true h (PD := PD)
          generalize (List.range ms.length).map (fun j => dSd (S.obs j)) = ob at q2 ⊢
          have cl := cut_last x ob
          refine SW_seqK fun K hK => ?_
          simp [W_eqS _ _ _ _ z2 z2, q2, cl]
          refine hK _ _ ?_
          clear hK K
          exact fin _ _ _ _
    · obtain ⟨s, a2, a3, a4, a5, a6, a7, a8, a9, a10, a11, a12, a13, rfl⟩ := hI
      refine hK _ _ ?_
      clear hK K
      simp
  obtain ⟨d, h', e, rfl⟩ := fin.out
  exact ⟨h', e⟩
end HR
set_option Elab.async false
set_option linter.all false
set_option maxRecDepth 100000
set_option maxHeartbeats 4000000
/-! the text of law_k46_whole_renamed_and_ranked_records: facts of its head, the derivations -/
namespace HR
open PySem L2
open PyProof.Rows (envOfC)
namespace Tk46
def top (i : Nat) : Stmt := PySem.Challenge.pw_hushranks_k46_whole_renamed_and_ranked_r.main.body.getD i (.Pass ⟨0, 0, 0, 0⟩)
def d_is_integer : He.DefD := ⟨("is_integer", none), "is_integer", "is_integer", defArgs (top 10), defBody (top 10), defScope (top 10), [.non], []⟩
def d_is_sequence : He.DefD := ⟨("is_sequence", none), "is_sequence", "is_sequence", defArgs (top 11), defBody (top 11), defScope (top 11), [], []⟩
def d_is_name : He.DefD := ⟨("is_name", none), "is_name", "is_name", defArgs (top 12), defBody (top 12), defScope (top 12), [], []⟩
def d_is_member : He.DefD := ⟨("is_member", none), "is_member", "is_member", defArgs (top 17), defBody (top 17), defScope (top 17), [], []⟩
def d_check_members : He.DefD := ⟨("check_members", none), "check_members", "check_members", defArgs (top 18), defBody (top 18), defScope (top 18), [], []⟩
def d_is_item : He.DefD := ⟨("is_item", none), "is_item", "is_item", defArgs (top 19), defBody (top 19), defScope (top 19), [], []⟩
def d_check_record : He.DefD := ⟨("check_record", none), "check_record", "check_record", defArgs (top 20), defBody (top 20), defScope (top 20), [], []⟩
def d_Observed_init : He.DefD := ⟨("Observed", some "__init__"), "__init__", "Observed.__init__", defArgs (inClass (top 21) 0), defBody (inClass (top 21) 0), defScope (inClass (top 21) 0), [], []⟩
def d_Observed_pass_tick : He.DefD := ⟨("Observed", some "pass_tick"), "pass_tick", "Observed.pass_tick", defArgs (inClass (top 21) 1), defBody (inClass (top 21) 1), defScope (inClass (top 21) 1), [], []⟩
def d_Observed_speak_on : He.DefD := ⟨("Observed", some "speak_on"), "speak_on", "Observed.speak_on", defArgs (inClass (top 21) 2), defBody (inClass (top 21) 2), defScope (inClass (top 21) 2), [], []⟩
def d_Reading_init : He.DefD := ⟨("Reading", some "__init__"), "__init__", "Reading.__init__", defArgs (inClass (top 22) 0), defBody (inClass (top 22) 0), defScope (inClass (top 22) 0), [], []⟩
def d_Reading_kind_of_fault : He.DefD := ⟨("Reading", some "kind_of_fault"), "kind_of_fault", "Reading.kind_of_fault", defArgs (inClass (top 22) 1), defBody (inClass (top 22) 1), defScope (inClass (top 22) 1), [], []⟩
def d_Reading_read_tick : He.DefD := ⟨("Reading", some "read_tick"), "read_tick", "Reading.read_tick", defArgs (inClass (top 22) 2), defBody (inClass (top 22) 2), defScope (inClass (top 22) 2), [], []⟩
def d_checked_reading : He.DefD := ⟨("checked_reading", none), "checked_reading", "checked_reading", defArgs (top 23), defBody (top 23), defScope (top 23), [], []⟩
def d_fault_of : He.DefD := ⟨("fault_of", none), "fault_of", "fault_of", defArgs (top 24), defBody (top 24), defScope (top 24), [], []⟩
def d_schedules_of_2 : He.DefD := ⟨("schedules_of", none), "schedules_of", "schedules_of", defArgs (top 25), defBody (top 25), defScope (top 25), [], []⟩
def d_l_bag : He.DefD := ⟨("_law_bag", none), "_law_bag", "_law_bag", defArgs (top 27), defBody (top 27), defScope (top 27), [], []⟩
def d_l_stir : He.DefD := ⟨("_law_stir", none), "_law_stir", "_law_stir", defArgs (top 28), defBody (top 28), defScope (top 28), [], []⟩
def d_l_draw_2 : He.DefD := ⟨("_law_draw", none), "_law_draw", "_law_draw", defArgs (top 29), defBody (top 29), defScope (top 29), [], []⟩
def d_l_shuffled : He.DefD := ⟨("_law_shuffled", none), "_law_shuffled", "_law_shuffled", defArgs (top 30), defBody (top 30), defScope (top 30), [], []⟩
def d_l_members : He.DefD := ⟨("_law_members", none), "_law_members", "_law_members", defArgs (top 31), defBody (top 31), defScope (top 31), [], []⟩
def d_l_told : He.DefD := ⟨("_law_told", none), "_law_told", "_law_told", defArgs (top 32), defBody (top 32), defScope (top 32), [], []⟩
def d_l_renamed : He.DefD := ⟨("_law_renamed", none), "_law_renamed", "_law_renamed", defArgs (top 33), defBody (top 33), defScope (top 33), [], []⟩
def d_l_spread : He.DefD := ⟨("_law_spread", none), "_law_spread", "_law_spread", defArgs (top 34), defBody (top 34), defScope (top 34), [], []⟩
def d_l_high_right : He.DefD := ⟨("_law_high_right", none), "_law_high_right", "_law_high_right", defArgs (top 35), defBody (top 35), defScope (top 35), [], []⟩
def d_law_k46 : He.DefD := ⟨("law", none), "law", "law", defArgs (top 36), defBody (top 36), defScope (top 36), [], []⟩
def fn : List He.DefD := [d_is_integer, d_is_sequence, d_is_name, d_is_member, d_check_members, d_is_item, d_check_record, d_Observed_init, d_Observed_pass_tick, d_Observed_speak_on, d_Reading_init, d_Reading_kind_of_fault, d_Reading_read_tick, d_checked_reading, d_fault_of, d_schedules_of_2, d_l_bag, d_l_stir, d_l_draw_2, d_l_shuffled, d_l_members, d_l_told, d_l_renamed, d_l_spread, d_l_high_right, d_law_k46]
def fa0 : List He.Fa := [.glo "HushError", .exc "HushError", .glo "Inconsistent", .glo "InvalidMembers", .exc "InvalidMembers", .glo "InvalidRecord", .exc "InvalidRecord", .str "LETTERS" "abcdefghijklmnopqrstuvwxyz", .int "MAX_NAME" (8), .int "MAX_RANK" (10), .int "MAX_TALKERS" (10), .glo "is_integer", .glo "is_sequence", .glo "is_name", .int "MAX_RECORD" (400), .str "SILENCE" "silence", .str "ORDER" "order", .glo "is_member", .glo "check_members", .glo "is_item", .glo "check_record", .glo "Observed", .cls "Observed", .mkr "Observed", .noat "Observed" "position", .noat "Observed" "name", .noat "Observed" "rank", .noat "Observed" "found_talks", .noat "Observed" "quiet_ticks", .noat "Observed" "is_open"]
def fa1 : List He.Fa := [.meth "Observed" "pass_tick", .meth "Observed" "speak_on", .glo "Reading", .cls "Reading", .mkr "Reading", .noat "Reading" "observed", .noat "Reading" "last_position", .noat "Reading" "fault", .meth "Reading" "kind_of_fault", .meth "Reading" "read_tick", .glo "checked_reading", .glo "fault_of", .glo "schedules_of", .glo "_law_bag", .glo "_law_stir", .glo "_law_draw", .glo "_law_shuffled", .glo "_law_members", .glo "_law_told", .glo "_law_renamed", .glo "_law_spread", .glo "_law_high_right", .glo "law", .free "ValueError", .free "all", .free "bool", .free "dict", .free "enumerate", .free "int", .free "isinstance"]
def fa2 : List He.Fa := [.free "len", .free "list", .free "max", .free "min", .free "range", .free "set", .free "sorted", .free "str", .free "tuple", .free "zip"]
def fa : List He.Fa := fa0 ++ fa1 ++ fa2
def xsL : List String := []
def ysL : List String := []
def esL : List String := ["Observed"]
theorem hu_ {A : Around} {k : Nat} (hr : Room k A) : A.units + 64 < cLine := hr.units
section
variable {P : Program} {w : World} {K : PySem.W.Frag} {mg : Str → Option Value} {base h : Heap}
theorem sc_l_bag : FnScope ["_law_script", "_law_total", "_law_cell"] ["_law_script"] (defScope (top 27)) := ⟨rfl, rfl, rfl, by decide +kernel, rfl, by decide +kernel, by decide +kernel⟩
theorem okb_l_bag (c : SaysE fa fn xsL ysL esL K) (X0 : K.In h) (G : h.Ns mainGlobals mg) {fd : FuncData} (F : FunD K d_l_bag.name d_l_bag.qual d_l_bag.params d_l_bag.body d_l_bag.scope (d_l_bag.dvs K) (d_l_bag.kws K) (He.ga K "_law_bag") fd) : FnOk P w K mg base CX0 1 (He.ga K "_law_bag") fd ["_law_script"] (spN K 1 Sh.l_bag) := by
  have sc := sc_l_bag
  refine fn_ok F sc (by decide) (fun cdv A outer s H E hr => ?_)
  exact (ds_cons (ds_set 1 sc.nd de_int) (ds_cons (ds_for (vs := [2]) (passes_of rfl) rfl (di_any (de_var 0)) (dg_name 2 sc.nd) (ds_one (ds_set 1 sc.nd (de_mod (de_add (de_add (de_mul (de_var 1) de_int) (de_mod (de_var 2) de_int)) de_int) de_int)))) (ds_one (ds_ret (de_lstO (da_cons (de_list false (by rfl) (He.free_ok X0 G (c.fact 61 (f := .free "list") (by rfl))) (de_var 0)) (da_cons de_int (da_cons de_int (da_cons de_int (da_cons (de_var 1) da_nil))))))))))
theorem ok_l_bag (c : SaysE fa fn xsL ysL esL K) (X0 : K.In h) (G : h.Ns mainGlobals mg) : Def P w K mg base CX0 1 (He.ga K "_law_bag") ["_law_script"] [] Sh.l_bag := by
  obtain ⟨fd, F⟩ := c.def_ 16 (d := d_l_bag) rfl
  exact ⟨⟨fd, [], okb_l_bag c X0 G F, F.bindsN fun _ _ _ _ _ _ us hl => match us, hl with | [_], _ => rfl, .nil⟩, F.kp⟩
theorem sc_l_stir : FnScope ["_law_number", "_law_place", "_law_one", "_law_two"] ["_law_number", "_law_place"] (defScope (top 28)) := ⟨rfl, rfl, rfl, by decide +kernel, rfl, by decide +kernel, by decide +kernel⟩
theorem okb_l_stir (c : SaysE fa fn xsL ysL esL K) (X0 : K.In h) (G : h.Ns mainGlobals mg) {fd : FuncData} (F : FunD K d_l_stir.name d_l_stir.qual d_l_stir.params d_l_stir.body d_l_stir.scope (d_l_stir.dvs K) (d_l_stir.kws K) (He.ga K "_law_stir") fd) : FnOk P w K mg base CX0 1 (He.ga K "_law_stir") fd ["_law_number", "_law_place"] (spN K 2 Sh.l_stir) := by
  have sc := sc_l_stir
  refine fn_ok F sc (by decide) (fun cdv A outer s H E hr => ?_)
  exact (ds_cons (ds_set 2 sc.nd (de_mod (de_add (de_add (de_mul (de_var 0) de_int) (de_mul (de_var 1) de_int)) de_int) de_int)) (ds_cons (ds_set 3 sc.nd (de_mod (de_mul (de_var 2) (de_var 2)) de_int)) (ds_one (ds_ret (de_div (de_mod (de_add (de_add (de_mul (de_var 3) de_int) (de_mul (de_mul (de_var 1) (de_var 1)) de_int)) (de_div (de_var 2) de_int)) de_int) de_int)))))
theorem ok_l_stir (c : SaysE fa fn xsL ysL esL K) (X0 : K.In h) (G : h.Ns mainGlobals mg) : Def P w K mg base CX0 1 (He.ga K "_law_stir") ["_law_number", "_law_place"] [] Sh.l_stir := by
  obtain ⟨fd, F⟩ := c.def_ 17 (d := d_l_stir) rfl
  exact ⟨⟨fd, [], okb_l_stir c X0 G F, F.bindsN fun _ _ _ _ _ _ us hl => match us, hl with | [_, _], _ => rfl, .nil⟩, F.kp⟩
theorem sc_l_draw_2 : FnScope ["_law_bag_here", "_law_bound", "_law_cell", "_law_found"] ["_law_bag_here", "_law_bound"] (defScope (top 29)) := ⟨rfl, rfl, rfl, by decide +kernel, rfl, by decide +kernel, by decide +kernel⟩
theorem okb_l_draw_2 (c : SaysE fa fn xsL ysL esL K) (X0 : K.In h) (G : h.Ns mainGlobals mg) {fd : FuncData} (F : FunD K d_l_draw_2.name d_l_draw_2.qual d_l_draw_2.params d_l_draw_2.body d_l_draw_2.scope (d_l_draw_2.dvs K) (d_l_draw_2.kws K) (He.ga K "_law_draw") fd) : FnOk P w K mg base CX0 2 (He.ga K "_law_draw") fd ["_law_bag_here", "_law_bound"] (spN K 2 Sh.l_draw_2) := by
  have H_l_stir := ok_l_stir (P := P) (w := w) (base := base) c X0 G
  have sc := sc_l_draw_2
  refine fn_ok F sc (by decide) (fun cdv A outer s H E hr => ?_)
  exact (ds_cons (ds_if (dt_eq (hu_ hr) (de_var 1) de_int) (ds_one (ds_ret de_int)) ds_nil) (ds_cons (ds_ix (de_var 0) de_int (de_add (de_ix (de_var 0) de_int) de_int) (pg_sub (de_var 0) de_int set_list)) (ds_cons (ds_if (DW.dt (dw_and (dt_lt (de_ix (de_var 0) de_int) de_int) (dw_and1 (dt_eq (hu_ hr) (de_ix (de_var 0) de_int) (de_len (by rfl) (He.free_ok X0 G (c.fact 60 (f := .free "len") (by rfl))) (de_ix (de_var 0) de_int)))))) (ds_one (ds_ret (de_mod (de_callF [] ((H_l_stir.up (by decide)).pure) hr (He.glo_ok X0 G (c.fact 44 (f := .glo "_law_stir") (by rfl))) (fun _ _ => .nil) (fun _ => passAt0) (da_cons (de_ix (de_var 0) de_int) (da_cons (de_ix (de_var 0) de_int) da_nil)) (sCons_len (sCons_len sNil_len))) (de_var 1)))) ds_nil) (ds_cons (ds_if (dt_lt (de_ix (de_var 0) de_int) de_int) (ds_cons (ds_set 2 sc.nd (de_ix (de_ix (de_var 0) de_int) (de_ix (de_var 0) de_int))) (ds_cons (ds_ix (de_var 0) de_int (de_add (de_ix (de_var 0) de_int) de_int) (pg_sub (de_var 0) de_int set_list)) (ds_cons (ds_if (dt_lt (de_var 2) (de_pow de_int de_int)) (ds_one (ds_ret (de_mod (de_callF [] ((H_l_stir.up (by decide)).pure) hr (He.glo_ok X0 G (c.fact 44 (f := .glo "_law_stir") (by rfl))) (fun _ _ => .nil) (fun _ => passAt0) (da_cons (de_mod (de_var 2) de_int) (da_cons (de_ix (de_var 0) de_int) da_nil)) (sCons_len (sCons_len sNil_len))) (de_var 1)))) ds_nil) (ds_one (ds_ix (de_var 0) de_int (de_sub (de_var 2) (de_pow de_int de_int)) (pg_sub (de_var 0) de_int set_list)))))) ds_nil) (ds_cons (ds_set 3 sc.nd (de_mod (de_ix (de_var 0) de_int) (de_var 1))) (ds_cons (ds_ix (de_var 0) de_int (de_div (de_ix (de_var 0) de_int) (de_var 1)) (pg_sub (de_var 0) de_int set_list)) (ds_one (ds_ret (de_var 3)))))))))
theorem ok_l_draw_2 (c : SaysE fa fn xsL ysL esL K) (X0 : K.In h) (G : h.Ns mainGlobals mg) : Def P w K mg base CX0 2 (He.ga K "_law_draw") ["_law_bag_here", "_law_bound"] [] Sh.l_draw_2 := by
  obtain ⟨fd, F⟩ := c.def_ 18 (d := d_l_draw_2) rfl
  exact ⟨⟨fd, [], okb_l_draw_2 c X0 G F, F.bindsN fun _ _ _ _ _ _ us hl => match us, hl with | [_, _], _ => rfl, .nil⟩, F.kp⟩
theorem sc_l_members : FnScope ["_law_bag_here", "_law_most", "_law_names", "_law_ranks", "_law_count", "_law_step"] ["_law_bag_here", "_law_most"] (defScope (top 31)) := ⟨rfl, rfl, rfl, by decide +kernel, rfl, by decide +kernel, by decide +kernel⟩
theorem okb_l_members (c : SaysE fa fn xsL ysL esL K) (X0 : K.In h) (G : h.Ns mainGlobals mg) {fd : FuncData} (F : FunD K d_l_members.name d_l_members.qual d_l_members.params d_l_members.body d_l_members.scope (d_l_members.dvs K) (d_l_members.kws K) (He.ga K "_law_members") fd) : FnOk P w K mg base CX0 3 (He.ga K "_law_members") fd ["_law_bag_here", "_law_most"] (spN K 2 Sh.l_members) := by
  have H_l_draw_2 := ok_l_draw_2 (P := P) (w := w) (base := base) c X0 G
  have sc := sc_l_members
  refine fn_ok F sc (by decide) (fun cdv A outer s H E hr => ?_)
  exact (ds_cons (ds_set 2 sc.nd (de_lstO (da_cons de_str (da_cons de_str (da_cons de_str (da_cons de_str (da_cons de_str (da_cons de_str (da_cons de_str (da_cons de_str (da_cons de_str (da_cons de_str da_nil)))))))))))) (ds_cons (ds_set 3 sc.nd (de_ix (de_lst (da_cons de_int (da_cons de_int (da_cons de_int (da_cons de_int da_nil))))) (de_callF [] (H_l_draw_2.up (by decide)) hr (He.glo_ok X0 G (c.fact 45 (f := .glo "_law_draw") (by rfl))) (fun _ _ => .nil) (fun _ => passAt0) (da_cons (de_var 0) (da_cons de_int da_nil)) (sCons_len (sCons_len sNil_len))))) (ds_cons (ds_set 4 sc.nd (de_callF [] (H_l_draw_2.up (by decide)) hr (He.glo_ok X0 G (c.fact 45 (f := .glo "_law_draw") (by rfl))) (fun _ _ => .nil) (fun _ => passAt0) (da_cons (de_var 0) (da_cons (de_add (de_var 1) de_int) da_nil)) (sCons_len (sCons_len sNil_len)))) (ds_one (ds_ret (de_lc false [("_law_step", 5)] rfl sc.nd (di_rng1 (by rfl) (He.free_ok X0 G (c.fact 64 (f := .free "range") (by rfl))) (de_var 4)) (blkOk_by (by kernel_rfl)) (fun _ _ _ _ _ => (dg_name 5 sc.nd)) (fun _ _ _ _ _ => dts_nil) (fun _ _ _ _ _ => (de_tup (da_cons (de_popAt (de_var 2) (de_callF [] (H_l_draw_2.up (by decide)) hr (He.glo_ok X0 G (c.fact 45 (f := .glo "_law_draw") (by rfl))) (fun _ _ => .nil) (fun _ => passAt0) (da_cons (de_var 0) (da_cons (de_len (by rfl) (He.free_ok X0 G (c.fact 60 (f := .free "len") (by rfl))) (de_var 2)) da_nil)) (sCons_len (sCons_len sNil_len)))) (da_cons (de_add de_int (de_callF [] (H_l_draw_2.up (by decide)) hr (He.glo_ok X0 G (c.fact 45 (f := .glo "_law_draw") (by rfl))) (fun _ _ => .nil) (fun _ => passAt0) (da_cons (de_var 0) (da_cons (de_var 3) da_nil)) (sCons_len (sCons_len sNil_len)))) da_nil))))))))))
theorem ok_l_members (c : SaysE fa fn xsL ysL esL K) (X0 : K.In h) (G : h.Ns mainGlobals mg) : Def P w K mg base CX0 3 (He.ga K "_law_members") ["_law_bag_here", "_law_most"] [] Sh.l_members := by
  obtain ⟨fd, F⟩ := c.def_ 20 (d := d_l_members) rfl
  exact ⟨⟨fd, [], okb_l_members c X0 G F, F.bindsN fun _ _ _ _ _ _ us hl => match us, hl with | [_, _], _ => rfl, .nil⟩, F.kp⟩
theorem sc_is_sequence : FnScope ["value"] ["value"] (defScope (top 11)) := ⟨rfl, rfl, rfl, by decide +kernel, rfl, by decide +kernel, by decide +kernel⟩
theorem okb_is_sequence (c : SaysE fa fn xsL ysL esL K) (X0 : K.In h) (G : h.Ns mainGlobals mg) {fd : FuncData} (F : FunD K d_is_sequence.name d_is_sequence.qual d_is_sequence.params d_is_sequence.body d_is_sequence.scope (d_is_sequence.dvs K) (d_is_sequence.kws K) (He.ga K "is_sequence") fd) : FnOk P w K mg base CX0 1 (He.ga K "is_sequence") fd ["value"] (spN K 1 Sh.is_sequence) := by
  have sc := sc_is_sequence
  refine fn_ok F sc (by decide) (fun cdv A outer s H E hr => ?_)
  exact (ds_one (ds_ret (de_isi2 (T1 := "list") (T2 := "tuple") (by simp) (by simp) (by rfl) (He.free_ok X0 G (c.fact 59 (f := .free "isinstance") (by rfl))) (by rfl) (He.free_ok X0 G (c.fact 61 (f := .free "list") (by rfl))) (by decide +kernel) (by rfl) (He.free_ok X0 G (c.fact 68 (f := .free "tuple") (by rfl))) (by decide +kernel) (de_var 0))))
theorem ok_is_sequence (c : SaysE fa fn xsL ysL esL K) (X0 : K.In h) (G : h.Ns mainGlobals mg) : Def P w K mg base CX0 1 (He.ga K "is_sequence") ["value"] [] Sh.is_sequence := by
  obtain ⟨fd, F⟩ := c.def_ 1 (d := d_is_sequence) rfl
  exact ⟨⟨fd, [], okb_is_sequence c X0 G F, F.bindsN fun _ _ _ _ _ _ us hl => match us, hl with | [_], _ => rfl, .nil⟩, F.kp⟩
theorem sc_is_name : FnScope ["value", "sign"] ["value"] (defScope (top 12)) := ⟨rfl, rfl, rfl, by decide +kernel, rfl, by decide +kernel, by decide +kernel⟩
theorem okb_is_name (c : SaysE fa fn xsL ysL esL K) (X0 : K.In h) (G : h.Ns mainGlobals mg) {fd : FuncData} (F : FunD K d_is_name.name d_is_name.qual d_is_name.params d_is_name.body d_is_name.scope (d_is_name.dvs K) (d_is_name.kws K) (He.ga K "is_name") fd) : FnOk P w K mg base CX0 1 (He.ga K "is_name") fd ["value"] (spN K 1 Sh.is_name) := by
  have sc := sc_is_name
  refine fn_ok F sc (by decide) (fun cdv A outer s H E hr => ?_)
  exact (ds_one (ds_ret (de_and (de_isi (T := "str") (by simp) (by rfl) (He.free_ok X0 G (c.fact 59 (f := .free "isinstance") (by rfl))) (by rfl) (He.free_ok X0 G (c.fact 67 (f := .free "str") (by rfl))) (by decide +kernel) (de_var 0)) (de_and (de_lele de_int (de_len (by rfl) (He.free_ok X0 G (c.fact 60 (f := .free "len") (by rfl))) (de_var 0)) (de_globI (by rfl) (He.int_ok X0 G (c.fact 8 (f := .int "MAX_NAME" (8)) (by rfl))))) (de_one (de_all rfl (by rfl) (He.free_ok X0 G (c.fact 54 (f := .free "all") (by rfl))) (de_lc false [("sign", 1)] rfl sc.nd (di_any (de_var 0)) (blkOk_by (by kernel_rfl)) (fun _ _ _ _ _ => (dg_name 1 sc.nd)) (fun _ _ _ _ _ => dts_nil) (fun _ _ _ _ _ => (de_inS (de_var 1) (de_globS (by rfl) (He.str_ok X0 G (c.fact 7 (f := .str "LETTERS" "abcdefghijklmnopqrstuvwxyz") (by rfl)))))))))))))
theorem ok_is_name (c : SaysE fa fn xsL ysL esL K) (X0 : K.In h) (G : h.Ns mainGlobals mg) : Def P w K mg base CX0 1 (He.ga K "is_name") ["value"] [] Sh.is_name := by
  obtain ⟨fd, F⟩ := c.def_ 2 (d := d_is_name) rfl
  exact ⟨⟨fd, [], okb_is_name c X0 G F, F.bindsN fun _ _ _ _ _ _ us hl => match us, hl with | [_], _ => rfl, .nil⟩, F.kp⟩
theorem sc_is_integer : FnScope ["value", "low", "high"] ["value", "low", "high"] (defScope (top 10)) := ⟨rfl, rfl, rfl, by decide +kernel, rfl, by decide +kernel, by decide +kernel⟩
theorem okb_is_integer (c : SaysE fa fn xsL ysL esL K) (X0 : K.In h) (G : h.Ns mainGlobals mg) {fd : FuncData} (F : FunD K d_is_integer.name d_is_integer.qual d_is_integer.params d_is_integer.body d_is_integer.scope (d_is_integer.dvs K) (d_is_integer.kws K) (He.ga K "is_integer") fd) : FnOk P w K mg base CX0 1 (He.ga K "is_integer") fd ["value", "low", "high"] (spN K 3 Sh.is_integer) := by
  have sc := sc_is_integer
  refine fn_ok F sc (by decide) (fun cdv A outer s H E hr => ?_)
  exact (ds_cons (ds_if (DW.dt (dw_or (dt_not (dt_val (de_isi (T := "int") (by simp) (by rfl) (He.free_ok X0 G (c.fact 59 (f := .free "isinstance") (by rfl))) (by rfl) (He.free_ok X0 G (c.fact 58 (f := .free "int") (by rfl))) (by decide +kernel) (de_var 0)))) (dw_or1 (dt_val (de_isi (T := "bool") (by simp) (by rfl) (He.free_ok X0 G (c.fact 59 (f := .free "isinstance") (by rfl))) (by rfl) (He.free_ok X0 G (c.fact 55 (f := .free "bool") (by rfl))) (by decide +kernel) (de_var 0)))))) (ds_one (ds_ret de_bl)) ds_nil) (ds_one (ds_ret (de_and (de_ge (de_var 0) (de_var 1)) (de_one (de_or (de_is (de_var 2) de_non) (de_one (de_le (de_var 0) (de_var 2)))))))))
theorem ok_is_integer (c : SaysE fa fn xsL ysL esL K) (X0 : K.In h) (G : h.Ns mainGlobals mg) : Def P w K mg base CX0 1 (He.ga K "is_integer") ["value", "low", "high"] [.non] Sh.is_integer := by
  obtain ⟨fd, F⟩ := c.def_ 0 (d := d_is_integer) rfl
  obtain ⟨dus, hd, hb⟩ := F.binds1 (ps := ["value", "low", "high"]) 2 0 (by simp [He.DefD.dvs, d_is_integer]) (by rfl) (fun T kV doc pm an cdv ct us its l1 l2 => match us, its, l1, l2 with | [_, _], [_], _, _ => ⟨_, rfl, rfl⟩)
  exact ⟨⟨fd, dus, okb_is_integer c X0 G F, hb, hd⟩, F.kp⟩
theorem ok_is_integer_all (c : SaysE fa fn xsL ysL esL K) (X0 : K.In h) (G : h.Ns mainGlobals mg) : Def P w K mg base CX0 1 (He.ga K "is_integer") ["value", "low", "high"] [] Sh.is_integer := by
  obtain ⟨fd, F⟩ := c.def_ 0 (d := d_is_integer) rfl
  obtain ⟨dus, hd, hb⟩ := F.binds1 (ps := ["value", "low", "high"]) 3 1 (by simp [He.DefD.dvs, d_is_integer]) (by rfl) (fun T kV doc pm an cdv ct us its l1 l2 => match us, its, l1, l2 with | [_, _, _], [_], _, _ => ⟨_, rfl, rfl⟩)
  exact ⟨⟨fd, dus, okb_is_integer c X0 G F, hb, hd⟩, F.kp⟩
theorem sc_is_member : FnScope ["value"] ["value"] (defScope (top 17)) := ⟨rfl, rfl, rfl, by decide +kernel, rfl, by decide +kernel, by decide +kernel⟩
theorem okb_is_member (c : SaysE fa fn xsL ysL esL K) (X0 : K.In h) (G : h.Ns mainGlobals mg) {fd : FuncData} (F : FunD K d_is_member.name d_is_member.qual d_is_member.params d_is_member.body d_is_member.scope (d_is_member.dvs K) (d_is_member.kws K) (He.ga K "is_member") fd) : FnOk P w K mg base CX0 2 (He.ga K "is_member") fd ["value"] (spN K 1 Sh.is_member) := by
  have H_is_integer := ok_is_integer (P := P) (w := w) (base := base) c X0 G
  have H_is_integer_all := ok_is_integer_all (P := P) (w := w) (base := base) c X0 G
  have H_is_name := ok_is_name (P := P) (w := w) (base := base) c X0 G
  have H_is_sequence := ok_is_sequence (P := P) (w := w) (base := base) c X0 G
  have sc := sc_is_member
  refine fn_ok F sc (by decide) (fun cdv A outer s H E hr => ?_)
  exact (ds_one (ds_ret (de_and (de_callF [] ((H_is_sequence.up (by decide)).pure) hr (He.glo_ok X0 G (c.fact 12 (f := .glo "is_sequence") (by rfl))) (fun _ _ => .nil) (fun _ => passAt0) (da_cons (de_var 0) da_nil) (sCons_len sNil_len)) (de_and (de_eq (hu_ hr) (de_len (by rfl) (He.free_ok X0 G (c.fact 60 (f := .free "len") (by rfl))) (de_var 0)) de_int) (de_and (de_callF [] ((H_is_name.up (by decide)).pure) hr (He.glo_ok X0 G (c.fact 13 (f := .glo "is_name") (by rfl))) (fun _ _ => .nil) (fun _ => passAt0) (da_cons (de_ix (de_var 0) de_int) da_nil) (sCons_len sNil_len)) (de_one (de_callF [] ((H_is_integer_all.up (by decide)).pure) hr (He.glo_ok X0 G (c.fact 11 (f := .glo "is_integer") (by rfl))) (fun _ _ => .nil) (fun _ => passAt0) (da_cons (de_ix (de_var 0) de_int) (da_cons de_int (da_cons (de_globI (by rfl) (He.int_ok X0 G (c.fact 9 (f := .int "MAX_RANK" (10)) (by rfl)))) da_nil))) (sCons_len (sCons_len (sCons_len sNil_len))))))))))
theorem ok_is_member (c : SaysE fa fn xsL ysL esL K) (X0 : K.In h) (G : h.Ns mainGlobals mg) : Def P w K mg base CX0 2 (He.ga K "is_member") ["value"] [] Sh.is_member := by
  obtain ⟨fd, F⟩ := c.def_ 3 (d := d_is_member) rfl
  exact ⟨⟨fd, [], okb_is_member c X0 G F, F.bindsN fun _ _ _ _ _ _ us hl => match us, hl with | [_], _ => rfl, .nil⟩, F.kp⟩
theorem sc_check_members : FnScope ["members", "one"] ["members"] (defScope (top 18)) := ⟨rfl, rfl, rfl, by decide +kernel, rfl, by decide +kernel, by decide +kernel⟩
theorem okb_check_members (c : SaysE fa fn xsL ysL esL K) (X0 : K.In h) (G : h.Ns mainGlobals mg) {fd : FuncData} (F : FunD K d_check_members.name d_check_members.qual d_check_members.params d_check_members.body d_check_members.scope (d_check_members.dvs K) (d_check_members.kws K) (He.ga K "check_members") fd) : FnOk P w K mg base (L2.CX P w) 3 (He.ga K "check_members") fd ["members"] (spN K 1 Sh.check_members) := by
  have H_is_member := ok_is_member (P := P) (w := w) (base := base) c X0 G
  have H_is_sequence := ok_is_sequence (P := P) (w := w) (base := base) c X0 G
  have sc := sc_check_members
  refine fn_ok F sc (by decide) (fun cdv A outer s H E hr => ?_)
  exact (ds_cons (ds_if (DW.dt (dw_or (dt_not (dt_val (de_callF [] ((H_is_sequence.up (by decide)).pure) hr (He.glo_ok X0 G (c.fact 12 (f := .glo "is_sequence") (by rfl))) (fun _ _ => .nil) (fun _ => passAt0) (da_cons (de_var 0) da_nil) (sCons_len sNil_len)))) (dw_or (dt_gt (de_len (by rfl) (He.free_ok X0 G (c.fact 60 (f := .free "len") (by rfl))) (de_var 0)) (de_globI (by rfl) (He.int_ok X0 G (c.fact 10 (f := .int "MAX_TALKERS" (10)) (by rfl))))) (dw_or1 (dt_not (dt_val (de_all rfl (by rfl) (He.free_ok X0 G (c.fact 54 (f := .free "all") (by rfl))) (de_lc false [("one", 1)] rfl sc.nd (di_any (de_var 0)) (blkOk_by (by kernel_rfl)) (fun _ _ _ _ _ => (dg_name 1 sc.nd)) (fun _ _ _ _ _ => dts_nil) (fun _ _ _ _ _ => (de_callF [] ((H_is_member.up (by decide)).pure) hr (He.glo_ok X0 G (c.fact 17 (f := .glo "is_member") (by rfl))) (fun _ _ => .nil) (fun _ => passAt0) (da_cons (de_var 1) da_nil) (sCons_len sNil_len))))))))))) (ds_one (ds_raise (C := "InvalidMembers") (takes_of rfl rfl rfl rfl) rfl (He.exc_ok (c.fact 4 (f := .exc "InvalidMembers") (by rfl))).1 (He.exc_ok (c.fact 4 (f := .exc "InvalidMembers") (by rfl))).2.1 (He.exc_ok (c.fact 4 (f := .exc "InvalidMembers") (by rfl))).2.2.1 (He.exc_ok (c.fact 4 (f := .exc "InvalidMembers") (by rfl))).2.2.2 (He.glo_ok X0 G (c.fact 3 (f := .glo "InvalidMembers") (by rfl))) (by rfl))) ds_nil) (ds_one (ds_if (dt_lt (de_lenset rfl (by rfl) (He.free_ok X0 G (c.fact 60 (f := .free "len") (by rfl))) (by rfl) (He.free_ok X0 G (c.fact 65 (f := .free "set") (by rfl))) (de_lc false [("one", 1)] rfl sc.nd (di_any (de_var 0)) (blkOk_by (by kernel_rfl)) (fun _ _ _ _ _ => (dg_name 1 sc.nd)) (fun _ _ _ _ _ => dts_nil) (fun _ _ _ _ _ => (de_ix (de_var 1) de_int)))) (de_len (by rfl) (He.free_ok X0 G (c.fact 60 (f := .free "len") (by rfl))) (de_var 0))) (ds_one (ds_raise (C := "InvalidMembers") (takes_of rfl rfl rfl rfl) rfl (He.exc_ok (c.fact 4 (f := .exc "InvalidMembers") (by rfl))).1 (He.exc_ok (c.fact 4 (f := .exc "InvalidMembers") (by rfl))).2.1 (He.exc_ok (c.fact 4 (f := .exc "InvalidMembers") (by rfl))).2.2.1 (He.exc_ok (c.fact 4 (f := .exc "InvalidMembers") (by rfl))).2.2.2 (He.glo_ok X0 G (c.fact 3 (f := .glo "InvalidMembers") (by rfl))) (by rfl))) ds_nil)))
theorem ok_check_members (c : SaysE fa fn xsL ysL esL K) (X0 : K.In h) (G : h.Ns mainGlobals mg) : Def P w K mg base (L2.CX P w) 3 (He.ga K "check_members") ["members"] [] Sh.check_members := by
  obtain ⟨fd, F⟩ := c.def_ 4 (d := d_check_members) rfl
  exact ⟨⟨fd, [], okb_check_members c X0 G F, F.bindsN fun _ _ _ _ _ _ us hl => match us, hl with | [_], _ => rfl, .nil⟩, F.kp⟩
theorem sc_is_item : FnScope ["value", "names"] ["value", "names"] (defScope (top 19)) := ⟨rfl, rfl, rfl, by decide +kernel, rfl, by decide +kernel, by decide +kernel⟩
theorem okb_is_item (c : SaysE fa fn xsL ysL esL K) (X0 : K.In h) (G : h.Ns mainGlobals mg) {fd : FuncData} (F : FunD K d_is_item.name d_is_item.qual d_is_item.params d_is_item.body d_is_item.scope (d_is_item.dvs K) (d_is_item.kws K) (He.ga K "is_item") fd) : FnOk P w K mg base CX0 1 (He.ga K "is_item") fd ["value", "names"] (spN K 2 Sh.is_item) := by
  have sc := sc_is_item
  refine fn_ok F sc (by decide) (fun cdv A outer s H E hr => ?_)
  exact (ds_one (ds_ret (de_or (de_is (de_var 0) de_non) (de_one (de_and (de_isi (T := "str") (by simp) (by rfl) (He.free_ok X0 G (c.fact 59 (f := .free "isinstance") (by rfl))) (by rfl) (He.free_ok X0 G (c.fact 67 (f := .free "str") (by rfl))) (by decide +kernel) (de_var 0)) (de_one (de_inL (de_var 0) (de_var 1))))))))
theorem ok_is_item (c : SaysE fa fn xsL ysL esL K) (X0 : K.In h) (G : h.Ns mainGlobals mg) : Def P w K mg base CX0 1 (He.ga K "is_item") ["value", "names"] [] Sh.is_item := by
  obtain ⟨fd, F⟩ := c.def_ 5 (d := d_is_item) rfl
  exact ⟨⟨fd, [], okb_is_item c X0 G F, F.bindsN fun _ _ _ _ _ _ us hl => match us, hl with | [_, _], _ => rfl, .nil⟩, F.kp⟩
theorem sc_check_record : FnScope ["record", "names", "value"] ["record", "names"] (defScope (top 20)) := ⟨rfl, rfl, rfl, by decide +kernel, rfl, by decide +kernel, by decide +kernel⟩
theorem okb_check_record (c : SaysE fa fn xsL ysL esL K) (X0 : K.In h) (G : h.Ns mainGlobals mg) {fd : FuncData} (F : FunD K d_check_record.name d_check_record.qual d_check_record.params d_check_record.body d_check_record.scope (d_check_record.dvs K) (d_check_record.kws K) (He.ga K "check_record") fd) : FnOk P w K mg base (L2.CX P w) 2 (He.ga K "check_record") fd ["record", "names"] (spN K 2 Sh.check_record) := by
  have H_is_sequence := ok_is_sequence (P := P) (w := w) (base := base) c X0 G
  have H_is_item := ok_is_item (P := P) (w := w) (base := base) c X0 G
  have sc := sc_check_record
  refine fn_ok F sc (by decide) (fun cdv A outer s H E hr => ?_)
  exact (ds_cons (ds_if (DW.dt (dw_or (dt_not (dt_val (de_callF [] ((H_is_sequence.up (by decide)).pure) hr (He.glo_ok X0 G (c.fact 12 (f := .glo "is_sequence") (by rfl))) (fun _ _ => .nil) (fun _ => passAt0) (da_cons (de_var 0) da_nil) (sCons_len sNil_len)))) (dw_or1 (dt_gt (de_len (by rfl) (He.free_ok X0 G (c.fact 60 (f := .free "len") (by rfl))) (de_var 0)) (de_globI (by rfl) (He.int_ok X0 G (c.fact 14 (f := .int "MAX_RECORD" (400)) (by rfl)))))))) (ds_one (ds_raise (C := "InvalidRecord") (takes_of rfl rfl rfl rfl) rfl (He.exc_ok (c.fact 6 (f := .exc "InvalidRecord") (by rfl))).1 (He.exc_ok (c.fact 6 (f := .exc "InvalidRecord") (by rfl))).2.1 (He.exc_ok (c.fact 6 (f := .exc "InvalidRecord") (by rfl))).2.2.1 (He.exc_ok (c.fact 6 (f := .exc "InvalidRecord") (by rfl))).2.2.2 (He.glo_ok X0 G (c.fact 5 (f := .glo "InvalidRecord") (by rfl))) (by rfl))) ds_nil) (ds_one (ds_if (dt_not (dt_val (de_all rfl (by rfl) (He.free_ok X0 G (c.fact 54 (f := .free "all") (by rfl))) (de_lc false [("value", 2)] rfl sc.nd (di_any (de_var 0)) (blkOk_by (by kernel_rfl)) (fun _ _ _ _ _ => (dg_name 2 sc.nd)) (fun _ _ _ _ _ => dts_nil) (fun _ _ _ _ _ => (de_callF [] ((H_is_item.up (by decide)).pure) hr (He.glo_ok X0 G (c.fact 19 (f := .glo "is_item") (by rfl))) (fun _ _ => .nil) (fun _ => passAt0) (da_cons (de_var 2) (da_cons (de_var 1) da_nil)) (sCons_len (sCons_len sNil_len)))))))) (ds_one (ds_raise (C := "InvalidRecord") (takes_of rfl rfl rfl rfl) rfl (He.exc_ok (c.fact 6 (f := .exc "InvalidRecord") (by rfl))).1 (He.exc_ok (c.fact 6 (f := .exc "InvalidRecord") (by rfl))).2.1 (He.exc_ok (c.fact 6 (f := .exc "InvalidRecord") (by rfl))).2.2.1 (He.exc_ok (c.fact 6 (f := .exc "InvalidRecord") (by rfl))).2.2.2 (He.glo_ok X0 G (c.fact 5 (f := .glo "InvalidRecord") (by rfl))) (by rfl))) ds_nil)))
theorem ok_check_record (c : SaysE fa fn xsL ysL esL K) (X0 : K.In h) (G : h.Ns mainGlobals mg) : Def P w K mg base (L2.CX P w) 2 (He.ga K "check_record") ["record", "names"] [] Sh.check_record := by
  obtain ⟨fd, F⟩ := c.def_ 6 (d := d_check_record) rfl
  exact ⟨⟨fd, [], okb_check_record c X0 G F, F.bindsN fun _ _ _ _ _ _ us hl => match us, hl with | [_, _], _ => rfl, .nil⟩, F.kp⟩
theorem sc_Observed_init : FnScope ["self", "position", "name", "rank"] ["self", "position", "name", "rank"] (defScope (inClass (top 21) 0)) := ⟨rfl, rfl, rfl, by decide +kernel, rfl, by decide +kernel, by decide +kernel⟩
theorem okb_Observed_init (c : SaysE fa fn xsL ysL esL K) (X0 : K.In h) (G : h.Ns mainGlobals mg) {fd : FuncData} (F : FunD K d_Observed_init.name d_Observed_init.qual d_Observed_init.params d_Observed_init.body d_Observed_init.scope (d_Observed_init.dvs K) (d_Observed_init.kws K) (He.ma K (He.ga K "Observed") "__init__") fd) : FnOk P w K mg base CX0 1 (He.ma K (He.ga K "Observed") "__init__") fd ["self", "position", "name", "rank"] (spN K 4 Sh.Observed_init) := by
  have sc := sc_Observed_init
  refine fn_ok F sc (by decide) (fun cdv A outer s H E hr => ?_)
  exact (ds_cons (ds_fld (C := "Observed") (f := "position") (He.noat_ok (c.fact 24 (f := .noat "Observed" "position") (by rfl))) (de_var 0) (de_var 1)) (ds_cons (ds_fld (C := "Observed") (f := "name") (He.noat_ok (c.fact 25 (f := .noat "Observed" "name") (by rfl))) (de_var 0) (de_var 2)) (ds_cons (ds_fld (C := "Observed") (f := "rank") (He.noat_ok (c.fact 26 (f := .noat "Observed" "rank") (by rfl))) (de_var 0) (de_var 3)) (ds_cons (ds_fld (C := "Observed") (f := "found_talks") (He.noat_ok (c.fact 27 (f := .noat "Observed" "found_talks") (by rfl))) (de_var 0) (de_lstO da_nil)) (ds_cons (ds_fld (C := "Observed") (f := "quiet_ticks") (He.noat_ok (c.fact 28 (f := .noat "Observed" "quiet_ticks") (by rfl))) (de_var 0) de_int) (ds_one (ds_fld (C := "Observed") (f := "is_open") (He.noat_ok (c.fact 29 (f := .noat "Observed" "is_open") (by rfl))) (de_var 0) de_bl)))))))
theorem ok_Observed_init (c : SaysE fa fn xsL ysL esL K) (X0 : K.In h) (G : h.Ns mainGlobals mg) : Def P w K mg base CX0 1 (He.ma K (He.ga K "Observed") "__init__") ["self", "position", "name", "rank"] [] Sh.Observed_init := by
  obtain ⟨fd, F⟩ := c.def_ 7 (d := d_Observed_init) rfl
  exact ⟨⟨fd, [], okb_Observed_init c X0 G F, F.bindsN fun _ _ _ _ _ _ us hl => match us, hl with | [_, _, _, _], _ => rfl, .nil⟩, F.kp⟩
theorem sc_Observed_speak_on : FnScope ["self", "silence", "length"] ["self"] (defScope (inClass (top 21) 2)) := ⟨rfl, rfl, rfl, by decide +kernel, rfl, by decide +kernel, by decide +kernel⟩
theorem okb_Observed_speak_on (c : SaysE fa fn xsL ysL esL K) (X0 : K.In h) (G : h.Ns mainGlobals mg) {fd : FuncData} (F : FunD K d_Observed_speak_on.name d_Observed_speak_on.qual d_Observed_speak_on.params d_Observed_speak_on.body d_Observed_speak_on.scope (d_Observed_speak_on.dvs K) (d_Observed_speak_on.kws K) (He.ma K (He.ga K "Observed") "speak_on") fd) : FnOk P w K mg base CX0 1 (He.ma K (He.ga K "Observed") "speak_on") fd ["self"] (spN K 1 Sh.Observed_speak_on) := by
  have sc := sc_Observed_speak_on
  refine fn_ok F sc (by decide) (fun cdv A outer s H E hr => ?_)
  exact (ds_cons (ds_if (dt_val (de_fld (f := "is_open") (de_var 0))) (ds_cons (ds_asg (vs := [1, 2]) (de_ix (de_fld (f := "found_talks") (de_var 0)) (de_neg de_int)) (dg_tup (n := 2) rfl (dg_cons (dg_name 1 sc.nd) (dg_cons (dg_name 2 sc.nd) dg_nil)) rfl (pg_tup rfl (dg_cons (dg_name 1 sc.nd) (dg_cons (dg_name 2 sc.nd) dg_nil))) (pg_lst rfl (dg_cons (dg_name 1 sc.nd) (dg_cons (dg_name 2 sc.nd) dg_nil))))) (ds_one (ds_ix (de_fld (f := "found_talks") (de_var 0)) (de_neg de_int) (de_tup (da_cons (de_var 1) (da_cons (de_add (de_var 2) de_int) da_nil))) (pg_sub (de_fld (f := "found_talks") (de_var 0)) (de_neg de_int) set_list)))) (ds_one (ds_expr (de_append (de_fld (f := "found_talks") (de_var 0)) (de_tup (da_cons (de_fld (f := "quiet_ticks") (de_var 0)) (da_cons de_int da_nil))))))) (ds_cons (ds_fld (C := "Observed") (f := "quiet_ticks") (He.noat_ok (c.fact 28 (f := .noat "Observed" "quiet_ticks") (by rfl))) (de_var 0) de_int) (ds_one (ds_fld (C := "Observed") (f := "is_open") (He.noat_ok (c.fact 29 (f := .noat "Observed" "is_open") (by rfl))) (de_var 0) de_bl))))
theorem ok_Observed_speak_on (c : SaysE fa fn xsL ysL esL K) (X0 : K.In h) (G : h.Ns mainGlobals mg) : Def P w K mg base CX0 1 (He.ma K (He.ga K "Observed") "speak_on") ["self"] [] Sh.Observed_speak_on := by
  obtain ⟨fd, F⟩ := c.def_ 9 (d := d_Observed_speak_on) rfl
  exact ⟨⟨fd, [], okb_Observed_speak_on c X0 G F, F.bindsN fun _ _ _ _ _ _ us hl => match us, hl with | [_], _ => rfl, .nil⟩, F.kp⟩
theorem sc_Observed_pass_tick : FnScope ["self", "speaker"] ["self", "speaker"] (defScope (inClass (top 21) 1)) := ⟨rfl, rfl, rfl, by decide +kernel, rfl, by decide +kernel, by decide +kernel⟩
theorem okb_Observed_pass_tick (c : SaysE fa fn xsL ysL esL K) (X0 : K.In h) (G : h.Ns mainGlobals mg) {fd : FuncData} (F : FunD K d_Observed_pass_tick.name d_Observed_pass_tick.qual d_Observed_pass_tick.params d_Observed_pass_tick.body d_Observed_pass_tick.scope (d_Observed_pass_tick.dvs K) (d_Observed_pass_tick.kws K) (He.ma K (He.ga K "Observed") "pass_tick") fd) : FnOk P w K mg base CX0 1 (He.ma K (He.ga K "Observed") "pass_tick") fd ["self", "speaker"] (spN K 2 Sh.Observed_pass_tick) := by
  have sc := sc_Observed_pass_tick
  refine fn_ok F sc (by decide) (fun cdv A outer s H E hr => ?_)
  exact (ds_cons (ds_if (DW.dt (dw_or (dt_is (de_var 1) de_non) (dw_or1 (dt_gt (de_fld (f := "rank") (de_var 1)) (de_fld (f := "rank") (de_var 0)))))) (ds_one (ds_fldA (C := "Observed") (f := "quiet_ticks") (He.noat_ok (c.fact 28 (f := .noat "Observed" "quiet_ticks") (by rfl))) (de_var 0) de_int)) ds_nil) (ds_one (ds_if (DW.dt (dw_or (dt_is (de_var 1) de_non) (dw_or1 (dt_ge (de_fld (f := "rank") (de_var 1)) (de_fld (f := "rank") (de_var 0)))))) (ds_one (ds_fld (C := "Observed") (f := "is_open") (He.noat_ok (c.fact 29 (f := .noat "Observed" "is_open") (by rfl))) (de_var 0) de_bl)) ds_nil)))
theorem ok_Observed_pass_tick (c : SaysE fa fn xsL ysL esL K) (X0 : K.In h) (G : h.Ns mainGlobals mg) : Def P w K mg base CX0 1 (He.ma K (He.ga K "Observed") "pass_tick") ["self", "speaker"] [] Sh.Observed_pass_tick := by
  obtain ⟨fd, F⟩ := c.def_ 8 (d := d_Observed_pass_tick) rfl
  exact ⟨⟨fd, [], okb_Observed_pass_tick c X0 G F, F.bindsN fun _ _ _ _ _ _ us hl => match us, hl with | [_, _], _ => rfl, .nil⟩, F.kp⟩
theorem sc_Reading_read_tick : FnScope ["self", "speaker", "one", "rank"] ["self", "speaker"] (defScope (inClass (top 22) 2)) := ⟨rfl, rfl, rfl, by decide +kernel, rfl, by decide +kernel, by decide +kernel⟩
theorem okb_Reading_read_tick (c : SaysE fa fn xsL ysL esL K) (X0 : K.In h) (G : h.Ns mainGlobals mg) {fd : FuncData} (F : FunD K d_Reading_read_tick.name d_Reading_read_tick.qual d_Reading_read_tick.params d_Reading_read_tick.body d_Reading_read_tick.scope (d_Reading_read_tick.dvs K) (d_Reading_read_tick.kws K) (He.ma K (He.ga K "Reading") "read_tick") fd) : FnOk P w K mg base CX0 2 (He.ma K (He.ga K "Reading") "read_tick") fd ["self", "speaker"] (spN K 2 Sh.Reading_read_tick) := by
  have H_Observed_speak_on := ok_Observed_speak_on (P := P) (w := w) (base := base) c X0 G
  have H_Observed_pass_tick := ok_Observed_pass_tick (P := P) (w := w) (base := base) c X0 G
  have sc := sc_Reading_read_tick
  refine fn_ok F sc (by decide) (fun cdv A outer s H E hr => ?_)
  exact (ds_cons (ds_for (vs := [2]) (passes_of rfl) rfl (di_any (de_fld (f := "observed") (de_var 0))) (dg_name 2 sc.nd) (ds_one (ds_if (dt_eqI (hu_ hr) c.eq (de_var 2) (de_var 1)) (ds_one (ds_expr (de_methF0 (C := "Observed") (mt := "speak_on") _ (He.cls_ok (c.fact 22 (f := .cls "Observed") (by rfl))) (He.meth_ok (c.fact 31 (f := .meth "Observed" "speak_on") (by rfl))) (H_Observed_speak_on.up (by decide)) hr (de_var 2)))) (ds_one (ds_expr (de_methF (C := "Observed") (mt := "pass_tick") _ (He.cls_ok (c.fact 22 (f := .cls "Observed") (by rfl))) (He.meth_ok (c.fact 30 (f := .meth "Observed" "pass_tick") (by rfl))) (H_Observed_pass_tick.up (by decide)) hr (de_var 2) (da_cons (de_var 1) da_nil) (sCons_len sNil_len))))))) (ds_cons (ds_for (vs := [3]) (passes_of rfl) rfl (di_rng2 (by rfl) (He.free_ok X0 G (c.fact 64 (f := .free "range") (by rfl))) de_int (de_add (de_globI (by rfl) (He.int_ok X0 G (c.fact 9 (f := .int "MAX_RANK" (10)) (by rfl)))) de_int)) (dg_name 3 sc.nd) (ds_one (ds_if (DW.dt (dw_or (dt_is (de_var 1) de_non) (dw_or1 (dt_gt (de_fld (f := "rank") (de_var 1)) (de_var 3))))) (ds_one (ds_ixK (hu_ hr) (de_fld (f := "last_position") (de_var 0)) (de_var 3) (de_neg de_int))) ds_nil))) (ds_one (ds_if (dt_isnot (de_var 1) de_non) (ds_one (ds_ixK (hu_ hr) (de_fld (f := "last_position") (de_var 0)) (de_fld (f := "rank") (de_var 1)) (de_max2 rfl (by rfl) (He.free_ok X0 G (c.fact 62 (f := .free "max") (by rfl))) (de_ixD (hu_ hr) (de_fld (f := "last_position") (de_var 0)) (de_fld (f := "rank") (de_var 1))) (de_fld (f := "position") (de_var 1))))) ds_nil))))
theorem ok_Reading_read_tick (c : SaysE fa fn xsL ysL esL K) (X0 : K.In h) (G : h.Ns mainGlobals mg) : Def P w K mg base CX0 2 (He.ma K (He.ga K "Reading") "read_tick") ["self", "speaker"] [] Sh.Reading_read_tick := by
  obtain ⟨fd, F⟩ := c.def_ 12 (d := d_Reading_read_tick) rfl
  exact ⟨⟨fd, [], okb_Reading_read_tick c X0 G F, F.bindsN fun _ _ _ _ _ _ us hl => match us, hl with | [_, _], _ => rfl, .nil⟩, F.kp⟩
theorem sc_Reading_kind_of_fault : FnScope ["self", "speaker"] ["self", "speaker"] (defScope (inClass (top 22) 1)) := ⟨rfl, rfl, rfl, by decide +kernel, rfl, by decide +kernel, by decide +kernel⟩
theorem okb_Reading_kind_of_fault (c : SaysE fa fn xsL ysL esL K) (X0 : K.In h) (G : h.Ns mainGlobals mg) {fd : FuncData} (F : FunD K d_Reading_kind_of_fault.name d_Reading_kind_of_fault.qual d_Reading_kind_of_fault.params d_Reading_kind_of_fault.body d_Reading_kind_of_fault.scope (d_Reading_kind_of_fault.dvs K) (d_Reading_kind_of_fault.kws K) (He.ma K (He.ga K "Reading") "kind_of_fault") fd) : FnOk P w K mg base CX0 1 (He.ma K (He.ga K "Reading") "kind_of_fault") fd ["self", "speaker"] (spN K 2 Sh.Reading_kind_of_fault) := by
  have sc := sc_Reading_kind_of_fault
  refine fn_ok F sc (by decide) (fun cdv A outer s H E hr => ?_)
  exact (ds_cons (ds_if (dt_val (de_fld (f := "is_open") (de_var 1))) (ds_one (ds_ret de_non)) ds_nil) (ds_cons (ds_if (dt_eq (hu_ hr) (de_fld (f := "quiet_ticks") (de_var 1)) de_int) (ds_one (ds_ret (de_globS (by rfl) (He.str_ok X0 G (c.fact 15 (f := .str "SILENCE" "silence") (by rfl)))))) ds_nil) (ds_one (ds_ret (de_if (dt_gt (de_ixD (hu_ hr) (de_fld (f := "last_position") (de_var 0)) (de_fld (f := "rank") (de_var 1))) (de_fld (f := "position") (de_var 1))) (de_globS (by rfl) (He.str_ok X0 G (c.fact 16 (f := .str "ORDER" "order") (by rfl)))) de_non)))))
theorem ok_Reading_kind_of_fault (c : SaysE fa fn xsL ysL esL K) (X0 : K.In h) (G : h.Ns mainGlobals mg) : Def P w K mg base CX0 1 (He.ma K (He.ga K "Reading") "kind_of_fault") ["self", "speaker"] [] Sh.Reading_kind_of_fault := by
  obtain ⟨fd, F⟩ := c.def_ 11 (d := d_Reading_kind_of_fault) rfl
  exact ⟨⟨fd, [], okb_Reading_kind_of_fault c X0 G F, F.bindsN fun _ _ _ _ _ _ us hl => match us, hl with | [_, _], _ => rfl, .nil⟩, F.kp⟩
theorem sc_Reading_init : FnScope ["self", "members", "record", "position", "one", "rank", "tick", "name", "speaker", "kind"] ["self", "members", "record"] (defScope (inClass (top 22) 0)) := ⟨rfl, rfl, rfl, by decide +kernel, rfl, by decide +kernel, by decide +kernel⟩
theorem okb_Reading_init (c : SaysE fa fn xsL ysL esL K) (X0 : K.In h) (G : h.Ns mainGlobals mg) {fd : FuncData} (F : FunD K d_Reading_init.name d_Reading_init.qual d_Reading_init.params d_Reading_init.body d_Reading_init.scope (d_Reading_init.dvs K) (d_Reading_init.kws K) (He.ma K (He.ga K "Reading") "__init__") fd) : FnOk P w K mg base CX0 3 (He.ma K (He.ga K "Reading") "__init__") fd ["self", "members", "record"] (spN K 3 Sh.Reading_init) := by
  have H_Observed_init := ok_Observed_init (P := P) (w := w) (base := base) c X0 G
  have H_Reading_kind_of_fault := ok_Reading_kind_of_fault (P := P) (w := w) (base := base) c X0 G
  have H_Reading_read_tick := ok_Reading_read_tick (P := P) (w := w) (base := base) c X0 G
  have sc := sc_Reading_init
  refine fn_ok F sc (by decide) (fun cdv A outer s H E hr => ?_)
  exact (ds_cons (ds_fld (C := "Reading") (f := "observed") (He.noat_ok (c.fact 35 (f := .noat "Reading" "observed") (by rfl))) (de_var 0) (de_lc false [("position", 3), ("one", 4)] rfl sc.nd (di_enumX (by rfl) (He.free_ok X0 G (c.fact 57 (f := .free "enumerate") (by rfl))) (de_var 1)) (blkOk_by (by kernel_rfl)) (fun _ _ _ _ _ => (dg_tup (n := 2) rfl (dg_cons (dg_name 3 sc.nd) (dg_cons (dg_name 4 sc.nd) dg_nil)) rfl (pg_tup rfl (dg_cons (dg_name 3 sc.nd) (dg_cons (dg_name 4 sc.nd) dg_nil))) (pg_lst rfl (dg_cons (dg_name 3 sc.nd) (dg_cons (dg_name 4 sc.nd) dg_nil))))) (fun _ _ _ _ _ => dts_nil) (fun _ _ _ _ _ => (de_makeO (C := "Observed") (He.mkr_ok (c.fact 23 (f := .mkr "Observed") (by rfl))) (He.cls_ok (c.fact 22 (f := .cls "Observed") (by rfl))) H_Observed_init (hr.mono (by decide)) (He.glo_ok X0 G (c.fact 21 (f := .glo "Observed") (by rfl))) (da_cons (de_var 3) (da_cons (de_ix (de_var 4) de_int) (da_cons (de_ix (de_var 4) de_int) da_nil))) (sCons_len (sCons_len (sCons_len sNil_len))))))) (ds_cons (ds_fld (C := "Reading") (f := "last_position") (He.noat_ok (c.fact 36 (f := .noat "Reading" "last_position") (by rfl))) (de_var 0) (de_dcO [("rank", 5)] rfl sc.nd (di_rng2 (by rfl) (He.free_ok X0 G (c.fact 64 (f := .free "range") (by rfl))) de_int (de_add (de_globI (by rfl) (He.int_ok X0 G (c.fact 9 (f := .int "MAX_RANK" (10)) (by rfl)))) de_int)) (blkOk_by (by kernel_rfl)) (fun _ _ _ _ _ => (dg_name 5 sc.nd)) (fun _ _ _ _ _ => dts_nil) (fun _ _ _ _ _ => (de_var 5)) (fun _ _ _ _ _ => (de_neg de_int)))) (ds_cons (ds_fld (C := "Reading") (f := "fault") (He.noat_ok (c.fact 37 (f := .noat "Reading" "fault") (by rfl))) (de_var 0) de_non) (ds_one (ds_for (vs := [6, 7]) (passes_of rfl) rfl (di_enumX (by rfl) (He.free_ok X0 G (c.fact 57 (f := .free "enumerate") (by rfl))) (de_var 2)) (dg_tup (n := 2) rfl (dg_cons (dg_name 6 sc.nd) (dg_cons (dg_name 7 sc.nd) dg_nil)) rfl (pg_tup rfl (dg_cons (dg_name 6 sc.nd) (dg_cons (dg_name 7 sc.nd) dg_nil))) (pg_lst rfl (dg_cons (dg_name 6 sc.nd) (dg_cons (dg_name 7 sc.nd) dg_nil)))) (ds_cons (ds_set 8 sc.nd (de_if (dt_is (de_var 7) de_non) de_non (de_ix (de_lc false [("one", 4)] rfl sc.nd (di_any (de_fld (f := "observed") (de_var 0))) (blkOk_by (by kernel_rfl)) (fun _ _ _ _ _ => (dg_name 4 sc.nd)) (fun _ _ _ _ _ => (dts_one (dt_eq (hu_ hr) (de_fld (f := "name") (de_var 4)) (de_var 7)))) (fun _ _ _ _ _ => (de_var 4))) de_int))) (ds_cons (ds_set 9 sc.nd (de_if (dt_is (de_var 8) de_non) de_non (de_methF (C := "Reading") (mt := "kind_of_fault") _ (He.cls_ok (c.fact 33 (f := .cls "Reading") (by rfl))) (He.meth_ok (c.fact 38 (f := .meth "Reading" "kind_of_fault") (by rfl))) (H_Reading_kind_of_fault.up (by decide)) hr (de_var 0) (da_cons (de_var 8) da_nil) (sCons_len sNil_len)))) (ds_cons (ds_if (dt_isnot (de_var 9) de_non) (ds_cons (ds_fld (C := "Reading") (f := "fault") (He.noat_ok (c.fact 37 (f := .noat "Reading" "fault") (by rfl))) (de_var 0) (de_tup (da_cons (de_var 6) (da_cons (de_var 9) da_nil)))) (ds_one ds_break)) ds_nil) (ds_one (ds_expr (de_methF (C := "Reading") (mt := "read_tick") _ (He.cls_ok (c.fact 33 (f := .cls "Reading") (by rfl))) (He.meth_ok (c.fact 39 (f := .meth "Reading" "read_tick") (by rfl))) (H_Reading_read_tick.up (by decide)) hr (de_var 0) (da_cons (de_var 8) da_nil) (sCons_len sNil_len))))))))))))
theorem ok_Reading_init (c : SaysE fa fn xsL ysL esL K) (X0 : K.In h) (G : h.Ns mainGlobals mg) : Def P w K mg base CX0 3 (He.ma K (He.ga K "Reading") "__init__") ["self", "members", "record"] [] Sh.Reading_init := by
  obtain ⟨fd, F⟩ := c.def_ 10 (d := d_Reading_init) rfl
  exact ⟨⟨fd, [], okb_Reading_init c X0 G F, F.bindsN fun _ _ _ _ _ _ us hl => match us, hl with | [_, _, _], _ => rfl, .nil⟩, F.kp⟩
theorem sc_checked_reading : FnScope ["members", "record", "one"] ["members", "record"] (defScope (top 23)) := ⟨rfl, rfl, rfl, by decide +kernel, rfl, by decide +kernel, by decide +kernel⟩
theorem okb_checked_reading (c : SaysE fa fn xsL ysL esL K) (X0 : K.In h) (G : h.Ns mainGlobals mg) {fd : FuncData} (F : FunD K d_checked_reading.name d_checked_reading.qual d_checked_reading.params d_checked_reading.body d_checked_reading.scope (d_checked_reading.dvs K) (d_checked_reading.kws K) (He.ga K "checked_reading") fd) : FnOk P w K mg base (L2.CX P w) 5 (He.ga K "checked_reading") fd ["members", "record"] (spN K 2 Sh.checked_reading) := by
  have H_check_members := ok_check_members (P := P) (w := w) (base := base) c X0 G
  have H_check_record := ok_check_record (P := P) (w := w) (base := base) c X0 G
  have H_Reading_init := ok_Reading_init (P := P) (w := w) (base := base) c X0 G
  have sc := sc_checked_reading
  refine fn_ok F sc (by decide) (fun cdv A outer s H E hr => ?_)
  exact (ds_cons (ds_expr (de_callF [] ((H_check_members.up (by decide)).pure) hr (He.glo_ok X0 G (c.fact 18 (f := .glo "check_members") (by rfl))) (fun _ _ => .nil) (fun s_ => passAt (takes_of rfl rfl rfl rfl) s_) (da_cons (de_var 0) da_nil) (sCons_len sNil_len))) (ds_cons (ds_expr (de_callF [] ((H_check_record.up (by decide)).pure) hr (He.glo_ok X0 G (c.fact 20 (f := .glo "check_record") (by rfl))) (fun _ _ => .nil) (fun s_ => passAt (takes_of rfl rfl rfl rfl) s_) (da_cons (de_var 1) (da_cons (de_lc false [("one", 2)] rfl sc.nd (di_any (de_var 0)) (blkOk_by (by kernel_rfl)) (fun _ _ _ _ _ => (dg_name 2 sc.nd)) (fun _ _ _ _ _ => dts_nil) (fun _ _ _ _ _ => (de_ix (de_var 2) de_int))) da_nil)) (sCons_len (sCons_len sNil_len)))) (ds_one (ds_ret (de_makeO (C := "Reading") (He.mkr_ok (c.fact 34 (f := .mkr "Reading") (by rfl))) (He.cls_ok (c.fact 33 (f := .cls "Reading") (by rfl))) H_Reading_init (hr.mono (by decide)) (He.glo_ok X0 G (c.fact 32 (f := .glo "Reading") (by rfl))) (da_cons (de_var 0) (da_cons (de_var 1) da_nil)) (sCons_len (sCons_len sNil_len)))))))
theorem ok_checked_reading (c : SaysE fa fn xsL ysL esL K) (X0 : K.In h) (G : h.Ns mainGlobals mg) : Def P w K mg base (L2.CX P w) 5 (He.ga K "checked_reading") ["members", "record"] [] Sh.checked_reading := by
  obtain ⟨fd, F⟩ := c.def_ 13 (d := d_checked_reading) rfl
  exact ⟨⟨fd, [], okb_checked_reading c X0 G F, F.bindsN fun _ _ _ _ _ _ us hl => match us, hl with | [_, _], _ => rfl, .nil⟩, F.kp⟩
theorem sc_fault_of : FnScope ["members", "record"] ["members", "record"] (defScope (top 24)) := ⟨rfl, rfl, rfl, by decide +kernel, rfl, by decide +kernel, by decide +kernel⟩
theorem okb_fault_of (c : SaysE fa fn xsL ysL esL K) (X0 : K.In h) (G : h.Ns mainGlobals mg) {fd : FuncData} (F : FunD K d_fault_of.name d_fault_of.qual d_fault_of.params d_fault_of.body d_fault_of.scope (d_fault_of.dvs K) (d_fault_of.kws K) (He.ga K "fault_of") fd) : FnOk P w K mg base (L2.CX P w) 6 (He.ga K "fault_of") fd ["members", "record"] (spN K 2 Sh.fault_of) := by
  have H_checked_reading := ok_checked_reading (P := P) (w := w) (base := base) c X0 G
  have sc := sc_fault_of
  refine fn_ok F sc (by decide) (fun cdv A outer s H E hr => ?_)
  exact (ds_one (ds_ret (de_fld (f := "fault") (de_callF [] (H_checked_reading.up (by decide)) hr (He.glo_ok X0 G (c.fact 40 (f := .glo "checked_reading") (by rfl))) (fun _ _ => .nil) (fun s_ => passAt (takes_of rfl rfl rfl rfl) s_) (da_cons (de_var 0) (da_cons (de_var 1) da_nil)) (sCons_len (sCons_len sNil_len))))))
theorem ok_fault_of (c : SaysE fa fn xsL ysL esL K) (X0 : K.In h) (G : h.Ns mainGlobals mg) : Def P w K mg base (L2.CX P w) 6 (He.ga K "fault_of") ["members", "record"] [] Sh.fault_of := by
  obtain ⟨fd, F⟩ := c.def_ 14 (d := d_fault_of) rfl
  exact ⟨⟨fd, [], okb_fault_of c X0 G F, F.bindsN fun _ _ _ _ _ _ us hl => match us, hl with | [_, _], _ => rfl, .nil⟩, F.kp⟩
theorem sc_schedules_of_2 : FnScope ["members", "record", "found", "one"] ["members", "record"] (defScope (top 25)) := ⟨rfl, rfl, rfl, by decide +kernel, rfl, by decide +kernel, by decide +kernel⟩
theorem okb_schedules_of_2 (c : SaysE fa fn xsL ysL esL K) (X0 : K.In h) (G : h.Ns mainGlobals mg) {fd : FuncData} (F : FunD K d_schedules_of_2.name d_schedules_of_2.qual d_schedules_of_2.params d_schedules_of_2.body d_schedules_of_2.scope (d_schedules_of_2.dvs K) (d_schedules_of_2.kws K) (He.ga K "schedules_of") fd) : FnOk P w K mg base (L2.CX P w) 6 (He.ga K "schedules_of") fd ["members", "record"] (spN K 2 Sh.schedules_of_2) := by
  have H_checked_reading := ok_checked_reading (P := P) (w := w) (base := base) c X0 G
  have sc := sc_schedules_of_2
  refine fn_ok F sc (by decide) (fun cdv A outer s H E hr => ?_)
  exact (ds_cons (ds_set 2 sc.nd (de_callF [] (H_checked_reading.up (by decide)) hr (He.glo_ok X0 G (c.fact 40 (f := .glo "checked_reading") (by rfl))) (fun _ _ => .nil) (fun s_ => passAt (takes_of rfl rfl rfl rfl) s_) (da_cons (de_var 0) (da_cons (de_var 1) da_nil)) (sCons_len (sCons_len sNil_len)))) (ds_cons (ds_if (dt_isnot (de_fld (f := "fault") (de_var 2)) de_non) (ds_one ds_never) ds_nil) (ds_one (ds_ret (de_lc false [("one", 3)] rfl sc.nd (di_any (de_fld (f := "observed") (de_var 2))) (blkOk_by (by kernel_rfl)) (fun _ _ _ _ _ => (dg_name 3 sc.nd)) (fun _ _ _ _ _ => dts_nil) (fun _ _ _ _ _ => (de_tup (da_cons (de_list false (by rfl) (He.free_ok X0 G (c.fact 61 (f := .free "list") (by rfl))) (de_fld (f := "found_talks") (de_var 3))) (da_cons (de_fld (f := "is_open") (de_var 3)) (da_cons (de_fld (f := "quiet_ticks") (de_var 3)) da_nil))))))))))
theorem ok_schedules_of_2 (c : SaysE fa fn xsL ysL esL K) (X0 : K.In h) (G : h.Ns mainGlobals mg) : Def P w K mg base (L2.CX P w) 6 (He.ga K "schedules_of") ["members", "record"] [] Sh.schedules_of_2 := by
  obtain ⟨fd, F⟩ := c.def_ 15 (d := d_schedules_of_2) rfl
  exact ⟨⟨fd, [], okb_schedules_of_2 c X0 G F, F.bindsN fun _ _ _ _ _ _ us hl => match us, hl with | [_, _], _ => rfl, .nil⟩, F.kp⟩
theorem sc_l_told : FnScope ["_law_members_here", "_law_record", "_law_fault"] ["_law_members_here", "_law_record"] (defScope (top 32)) := ⟨rfl, rfl, rfl, by decide +kernel, rfl, by decide +kernel, by decide +kernel⟩
theorem okb_l_told (c : SaysE fa fn xsL ysL esL K) (X0 : K.In h) (G : h.Ns mainGlobals mg) {fd : FuncData} (F : FunD K d_l_told.name d_l_told.qual d_l_told.params d_l_told.body d_l_told.scope (d_l_told.dvs K) (d_l_told.kws K) (He.ga K "_law_told") fd) : FnOk P w K mg base CX0 7 (He.ga K "_law_told") fd ["_law_members_here", "_law_record"] (spN K 2 Sh.l_told) := by
  have H_fault_of := ok_fault_of (P := P) (w := w) (base := base) c X0 G
  have H_schedules_of_2 := ok_schedules_of_2 (P := P) (w := w) (base := base) c X0 G
  have sc := sc_l_told
  refine fn_ok F sc (by decide) (fun cdv A outer s H E hr => ?_)
  exact (ds_cons (ds_set 2 sc.nd (de_callF [] (((H_fault_of.up (by decide)).pure).shut) hr (He.glo_ok X0 G (c.fact 41 (f := .glo "fault_of") (by rfl))) (fun _ _ => .nil) (fun _ => passAt0) (da_cons (de_var 0) (da_cons (de_var 1) da_nil)) (sCons_len (sCons_len sNil_len)))) (ds_one (ds_ret (de_if (dt_isnot (de_var 2) de_non) (de_lst (da_cons de_str (da_cons (de_var 2) da_nil))) (de_lst (da_cons de_str (da_cons (de_callF [] (((H_schedules_of_2.up (by decide)).pure).shut) hr (He.glo_ok X0 G (c.fact 42 (f := .glo "schedules_of") (by rfl))) (fun _ _ => .nil) (fun _ => passAt0) (da_cons (de_var 0) (da_cons (de_var 1) da_nil)) (sCons_len (sCons_len sNil_len))) da_nil)))))))
theorem ok_l_told (c : SaysE fa fn xsL ysL esL K) (X0 : K.In h) (G : h.Ns mainGlobals mg) : Def P w K mg base CX0 7 (He.ga K "_law_told") ["_law_members_here", "_law_record"] [] Sh.l_told := by
  obtain ⟨fd, F⟩ := c.def_ 21 (d := d_l_told) rfl
  exact ⟨⟨fd, [], okb_l_told c X0 G F, F.bindsN fun _ _ _ _ _ _ us hl => match us, hl with | [_, _], _ => rfl, .nil⟩, F.kp⟩
theorem sc_l_shuffled : FnScope ["_law_bag_here", "_law_items", "_law_left", "_law_step"] ["_law_bag_here", "_law_items"] (defScope (top 30)) := ⟨rfl, rfl, rfl, by decide +kernel, rfl, by decide +kernel, by decide +kernel⟩
theorem okb_l_shuffled (c : SaysE fa fn xsL ysL esL K) (X0 : K.In h) (G : h.Ns mainGlobals mg) {fd : FuncData} (F : FunD K d_l_shuffled.name d_l_shuffled.qual d_l_shuffled.params d_l_shuffled.body d_l_shuffled.scope (d_l_shuffled.dvs K) (d_l_shuffled.kws K) (He.ga K "_law_shuffled") fd) : FnOk P w K mg base CX0 3 (He.ga K "_law_shuffled") fd ["_law_bag_here", "_law_items"] (spN K 2 Sh.l_shuffled) := by
  have H_l_draw_2 := ok_l_draw_2 (P := P) (w := w) (base := base) c X0 G
  have sc := sc_l_shuffled
  refine fn_ok F sc (by decide) (fun cdv A outer s H E hr => ?_)
  exact (ds_cons (ds_set 2 sc.nd (de_list true (by rfl) (He.free_ok X0 G (c.fact 61 (f := .free "list") (by rfl))) (de_var 1))) (ds_one (ds_ret (de_lc false [("_law_step", 3)] rfl sc.nd (di_rng1 (by rfl) (He.free_ok X0 G (c.fact 64 (f := .free "range") (by rfl))) (de_len (by rfl) (He.free_ok X0 G (c.fact 60 (f := .free "len") (by rfl))) (de_var 1))) (blkOk_by (by kernel_rfl)) (fun _ _ _ _ _ => (dg_name 3 sc.nd)) (fun _ _ _ _ _ => dts_nil) (fun _ _ _ _ _ => (de_popAt (de_var 2) (de_callF [] (H_l_draw_2.up (by decide)) hr (He.glo_ok X0 G (c.fact 45 (f := .glo "_law_draw") (by rfl))) (fun _ _ => .nil) (fun _ => passAt0) (da_cons (de_var 0) (da_cons (de_len (by rfl) (He.free_ok X0 G (c.fact 60 (f := .free "len") (by rfl))) (de_var 2)) da_nil)) (sCons_len (sCons_len sNil_len)))))))))
theorem ok_l_shuffled (c : SaysE fa fn xsL ysL esL K) (X0 : K.In h) (G : h.Ns mainGlobals mg) : Def P w K mg base CX0 3 (He.ga K "_law_shuffled") ["_law_bag_here", "_law_items"] [] Sh.l_shuffled := by
  obtain ⟨fd, F⟩ := c.def_ 19 (d := d_l_shuffled) rfl
  exact ⟨⟨fd, [], okb_l_shuffled c X0 G F, F.bindsN fun _ _ _ _ _ _ us hl => match us, hl with | [_, _], _ => rfl, .nil⟩, F.kp⟩
theorem sc_l_renamed : FnScope ["_law_bag_here", "_law_members_here", "_law_record", "_law_names", "_law_new", "_law_at", "_law_one", "_law_item"] ["_law_bag_here", "_law_members_here", "_law_record"] (defScope (top 33)) := ⟨rfl, rfl, rfl, by decide +kernel, rfl, by decide +kernel, by decide +kernel⟩
theorem okb_l_renamed (c : SaysE fa fn xsL ysL esL K) (X0 : K.In h) (G : h.Ns mainGlobals mg) {fd : FuncData} (F : FunD K d_l_renamed.name d_l_renamed.qual d_l_renamed.params d_l_renamed.body d_l_renamed.scope (d_l_renamed.dvs K) (d_l_renamed.kws K) (He.ga K "_law_renamed") fd) : FnOk P w K mg base CX0 4 (He.ga K "_law_renamed") fd ["_law_bag_here", "_law_members_here", "_law_record"] (spN K 3 Sh.l_renamed) := by
  have H_l_shuffled := ok_l_shuffled (P := P) (w := w) (base := base) c X0 G
  have sc := sc_l_renamed
  refine fn_ok F sc (by decide) (fun cdv A outer s H E hr => ?_)
  exact (ds_cons (ds_set 3 sc.nd (de_callF [] (H_l_shuffled.up (by decide)) hr (He.glo_ok X0 G (c.fact 46 (f := .glo "_law_shuffled") (by rfl))) (fun _ _ => .nil) (fun _ => passAt0) (da_cons (de_var 0) (da_cons (de_lst (da_cons de_str (da_cons de_str (da_cons de_str (da_cons de_str (da_cons de_str (da_cons de_str (da_cons de_str (da_cons de_str (da_cons de_str (da_cons de_str da_nil))))))))))) da_nil)) (sCons_len (sCons_len sNil_len)))) (ds_cons (ds_set 4 sc.nd (de_dictP rfl (by rfl) (He.free_ok X0 G (c.fact 56 (f := .free "dict") (by rfl))) (de_lc false [("_law_at", 5), ("_law_one", 6)] rfl sc.nd (di_enum (by rfl) (He.free_ok X0 G (c.fact 57 (f := .free "enumerate") (by rfl))) (de_var 1)) (blkOk_by (by kernel_rfl)) (fun _ _ _ _ _ => (dg_tup (n := 2) rfl (dg_cons (dg_name 5 sc.nd) (dg_cons (dg_name 6 sc.nd) dg_nil)) rfl (pg_tup rfl (dg_cons (dg_name 5 sc.nd) (dg_cons (dg_name 6 sc.nd) dg_nil))) (pg_lst rfl (dg_cons (dg_name 5 sc.nd) (dg_cons (dg_name 6 sc.nd) dg_nil))))) (fun _ _ _ _ _ => dts_nil) (fun _ _ _ _ _ => (de_tup (da_cons (de_ix (de_var 6) de_int) (da_cons (de_ix (de_var 3) (de_var 5)) da_nil))))))) (ds_one (ds_ret (de_tup (da_cons (de_lc false [("_law_one", 6)] rfl sc.nd (di_any (de_var 1)) (blkOk_by (by kernel_rfl)) (fun _ _ _ _ _ => (dg_name 6 sc.nd)) (fun _ _ _ _ _ => dts_nil) (fun _ _ _ _ _ => (de_tup (da_cons (de_ixK (hu_ hr) (de_var 4) (de_ix (de_var 6) de_int)) (da_cons (de_ix (de_var 6) de_int) da_nil))))) (da_cons (de_lc false [("_law_item", 7)] rfl sc.nd (di_any (de_var 2)) (blkOk_by (by kernel_rfl)) (fun _ _ _ _ _ => (dg_name 7 sc.nd)) (fun _ _ _ _ _ => dts_nil) (fun _ _ _ _ _ => (de_if (dt_is (de_var 7) de_non) de_non (de_ixK (hu_ hr) (de_var 4) (de_var 7))))) da_nil)))))))
theorem ok_l_renamed (c : SaysE fa fn xsL ysL esL K) (X0 : K.In h) (G : h.Ns mainGlobals mg) : Def P w K mg base CX0 4 (He.ga K "_law_renamed") ["_law_bag_here", "_law_members_here", "_law_record"] [] Sh.l_renamed := by
  obtain ⟨fd, F⟩ := c.def_ 22 (d := d_l_renamed) rfl
  exact ⟨⟨fd, [], okb_l_renamed c X0 G F, F.bindsN fun _ _ _ _ _ _ us hl => match us, hl with | [_, _, _], _ => rfl, .nil⟩, F.kp⟩
theorem sc_l_high_right : FnScope ["_law_members_here", "_law_record", "_law_low", "_law_one", "_law_lowest", "_law_high", "_law_quiet", "_law_item", "_law_due", "_law_found"] ["_law_members_here", "_law_record"] (defScope (top 35)) := ⟨rfl, rfl, rfl, by decide +kernel, rfl, by decide +kernel, by decide +kernel⟩
theorem okb_l_high_right (c : SaysE fa fn xsL ysL esL K) (X0 : K.In h) (G : h.Ns mainGlobals mg) {fd : FuncData} (F : FunD K d_l_high_right.name d_l_high_right.qual d_l_high_right.params d_l_high_right.body d_l_high_right.scope (d_l_high_right.dvs K) (d_l_high_right.kws K) (He.ga K "_law_high_right") fd) : FnOk P w K mg base CX0 7 (He.ga K "_law_high_right") fd ["_law_members_here", "_law_record"] (spN K 2 Sh.l_high_right) := by
  have H_fault_of := ok_fault_of (P := P) (w := w) (base := base) c X0 G
  have H_schedules_of_2 := ok_schedules_of_2 (P := P) (w := w) (base := base) c X0 G
  have sc := sc_l_high_right
  refine fn_ok F sc (by decide) (fun cdv A outer s H E hr => ?_)
  exact (ds_cons (ds_set 2 sc.nd (de_maxL rfl (by rfl) (He.free_ok X0 G (c.fact 62 (f := .free "max") (by rfl))) (de_lc false [("_law_one", 3)] rfl sc.nd (di_any (de_var 0)) (blkOk_by (by kernel_rfl)) (fun _ _ _ _ _ => (dg_name 3 sc.nd)) (fun _ _ _ _ _ => dts_nil) (fun _ _ _ _ _ => (de_ix (de_var 3) de_int))))) (ds_cons (ds_set 4 sc.nd (de_lc false [("_law_one", 3)] rfl sc.nd (di_any (de_var 0)) (blkOk_by (by kernel_rfl)) (fun _ _ _ _ _ => (dg_name 3 sc.nd)) (fun _ _ _ _ _ => (dts_one (dt_eq (hu_ hr) (de_ix (de_var 3) de_int) (de_var 2)))) (fun _ _ _ _ _ => (de_ix (de_var 3) de_int)))) (ds_cons (ds_setLc (X := _) 5 false [("_law_one", 3)] rfl sc.nd (di_any (de_var 0)) (blkOk_by (by kernel_rfl)) (fun _ _ _ _ _ => (dg_name 3 sc.nd)) (fun _ _ _ _ _ => (dts_one (dt_lt (de_ix (de_var 3) de_int) (de_var 2)))) (fun _ _ _ _ _ => (de_var 3)) (sw_true rfl rfl rfl (by decide +kernel))) (ds_cons (ds_if (dt_isnot (de_callF [] (((H_fault_of.up (by decide)).pure).shut) hr (He.glo_ok X0 G (c.fact 41 (f := .glo "fault_of") (by rfl))) (fun _ _ => .nil) (fun _ => passAt0) (da_cons (de_var 0) (da_cons (de_var 1) da_nil)) (sCons_len (sCons_len sNil_len))) de_non) (ds_one (ds_ret de_bl)) ds_nil) (ds_cons (ds_setLc (X := _) 6 false [("_law_item", 7)] rfl sc.nd (di_any (de_var 1)) (blkOk_by (by kernel_rfl)) (fun _ _ _ _ _ => (dg_name 7 sc.nd)) (fun _ _ _ _ _ => dts_nil) (fun _ _ _ _ _ => (de_if (dt_inL (de_var 7) (de_var 4)) de_non (de_var 7))) (sw_true rfl rfl rfl (by decide +kernel))) (ds_cons (ds_setLc (X := _) 8 false [("_law_one", 3), ("_law_found", 9)] rfl sc.nd (di_zip (by rfl) (He.free_ok X0 G (c.fact 69 (f := .free "zip") (by rfl))) (de_var 0) (de_callF [] (((H_schedules_of_2.up (by decide)).pure).shut) hr (He.glo_ok X0 G (c.fact 42 (f := .glo "schedules_of") (by rfl))) (fun _ _ => .nil) (fun _ => passAt0) (da_cons (de_var 0) (da_cons (de_var 1) da_nil)) (sCons_len (sCons_len sNil_len)))) (blkOk_by (by kernel_rfl)) (fun _ _ _ _ _ => (dg_tup (n := 2) rfl (dg_cons (dg_name 3 sc.nd) (dg_cons (dg_name 9 sc.nd) dg_nil)) rfl (pg_tup rfl (dg_cons (dg_name 3 sc.nd) (dg_cons (dg_name 9 sc.nd) dg_nil))) (pg_lst rfl (dg_cons (dg_name 3 sc.nd) (dg_cons (dg_name 9 sc.nd) dg_nil))))) (fun _ _ _ _ _ => (dts_one (dt_lt (de_ix (de_var 3) de_int) (de_var 2)))) (fun _ _ _ _ _ => (de_var 9)) (sw_true rfl rfl rfl (by decide +kernel))) (ds_one (ds_ret (de_eq (hu_ hr) (de_callF [] (((H_schedules_of_2.up (by decide)).pure).shut) hr (He.glo_ok X0 G (c.fact 42 (f := .glo "schedules_of") (by rfl))) (fun _ _ => .nil) (fun _ => passAt0) (da_cons (de_var 5) (da_cons (de_var 6) da_nil)) (sCons_len (sCons_len sNil_len))) (de_var 8))))))))))
theorem ok_l_high_right (c : SaysE fa fn xsL ysL esL K) (X0 : K.In h) (G : h.Ns mainGlobals mg) : Def P w K mg base CX0 7 (He.ga K "_law_high_right") ["_law_members_here", "_law_record"] [] Sh.l_high_right := by
  obtain ⟨fd, F⟩ := c.def_ 24 (d := d_l_high_right) rfl
  exact ⟨⟨fd, [], okb_l_high_right c X0 G F, F.bindsN fun _ _ _ _ _ _ us hl => match us, hl with | [_, _], _ => rfl, .nil⟩, F.kp⟩
theorem sc_l_spread : FnScope ["_law_bag_here", "_law_members_here", "_law_used", "_law_one", "_law_pool", "_law_new"] ["_law_bag_here", "_law_members_here"] (defScope (top 34)) := ⟨rfl, rfl, rfl, by decide +kernel, rfl, by decide +kernel, by decide +kernel⟩
theorem okb_l_spread (c : SaysE fa fn xsL ysL esL K) (X0 : K.In h) (G : h.Ns mainGlobals mg) {fd : FuncData} (F : FunD K d_l_spread.name d_l_spread.qual d_l_spread.params d_l_spread.body d_l_spread.scope (d_l_spread.dvs K) (d_l_spread.kws K) (He.ga K "_law_spread") fd) : FnOk P w K mg base CX0 4 (He.ga K "_law_spread") fd ["_law_bag_here", "_law_members_here"] (spN K 2 Sh.l_spread) := by
  have H_l_shuffled := ok_l_shuffled (P := P) (w := w) (base := base) c X0 G
  have sc := sc_l_spread
  refine fn_ok F sc (by decide) (fun cdv A outer s H E hr => ?_)
  exact (ds_cons (ds_set 2 sc.nd (de_sortset rfl (by rfl) (He.free_ok X0 G (c.fact 66 (f := .free "sorted") (by rfl))) (by rfl) (He.free_ok X0 G (c.fact 65 (f := .free "set") (by rfl))) (de_lc false [("_law_one", 3)] rfl sc.nd (di_any (de_var 1)) (blkOk_by (by kernel_rfl)) (fun _ _ _ _ _ => (dg_name 3 sc.nd)) (fun _ _ _ _ _ => dts_nil) (fun _ _ _ _ _ => (de_ix (de_var 3) de_int))))) (ds_cons (ds_set 4 sc.nd (de_cut false (de_callF [] (H_l_shuffled.up (by decide)) hr (He.glo_ok X0 G (c.fact 46 (f := .glo "_law_shuffled") (by rfl))) (fun _ _ => .nil) (fun _ => passAt0) (da_cons (de_var 0) (da_cons (de_lstRg rfl (by rfl) (He.free_ok X0 G (c.fact 61 (f := .free "list") (by rfl))) (by rfl) (He.free_ok X0 G (c.fact 64 (f := .free "range") (by rfl))) de_int de_int) da_nil)) (sCons_len (sCons_len sNil_len))) do_none (do_some (de_len (by rfl) (He.free_ok X0 G (c.fact 60 (f := .free "len") (by rfl))) (de_var 2))))) (ds_cons (ds_set 5 sc.nd (de_dictP rfl (by rfl) (He.free_ok X0 G (c.fact 56 (f := .free "dict") (by rfl))) (de_lstZip rfl (by rfl) (He.free_ok X0 G (c.fact 61 (f := .free "list") (by rfl))) (by rfl) (He.free_ok X0 G (c.fact 69 (f := .free "zip") (by rfl))) (de_var 2) (de_sortI (by rfl) (He.free_ok X0 G (c.fact 66 (f := .free "sorted") (by rfl))) (de_var 4))))) (ds_one (ds_ret (de_lc false [("_law_one", 3)] rfl sc.nd (di_any (de_var 1)) (blkOk_by (by kernel_rfl)) (fun _ _ _ _ _ => (dg_name 3 sc.nd)) (fun _ _ _ _ _ => dts_nil) (fun _ _ _ _ _ => (de_tup (da_cons (de_ix (de_var 3) de_int) (da_cons (de_ixK (hu_ hr) (de_var 5) (de_ix (de_var 3) de_int)) da_nil))))))))))
theorem ok_l_spread (c : SaysE fa fn xsL ysL esL K) (X0 : K.In h) (G : h.Ns mainGlobals mg) : Def P w K mg base CX0 4 (He.ga K "_law_spread") ["_law_bag_here", "_law_members_here"] [] Sh.l_spread := by
  obtain ⟨fd, F⟩ := c.def_ 23 (d := d_l_spread) rfl
  exact ⟨⟨fd, [], okb_l_spread c X0 G F, F.bindsN fun _ _ _ _ _ _ us hl => match us, hl with | [_, _], _ => rfl, .nil⟩, F.kp⟩
theorem sc_law_k46 : FnScope ["_law_script", "_law_bag_here", "_law_turn", "_law_members_here", "_law_items", "_law_one", "_law_record", "_law_step", "_law_item", "_law_is_bad", "_law_told_here", "_law_mate", "_law_other", "_law_more"] ["_law_script"] (defScope (top 36)) := ⟨rfl, rfl, rfl, by decide +kernel, rfl, by decide +kernel, by decide +kernel⟩
theorem okb_law_k46 (c : SaysE fa fn xsL ysL esL K) (X0 : K.In h) (G : h.Ns mainGlobals mg) {fd : FuncData} (F : FunD K d_law_k46.name d_law_k46.qual d_law_k46.params d_law_k46.body d_law_k46.scope (d_law_k46.dvs K) (d_law_k46.kws K) (He.ga K "law") fd) : FnOk P w K mg base CX0 8 (He.ga K "law") fd ["_law_script"] (spN K 1 Sh.law_k46) := by
  have H_l_bag := ok_l_bag (P := P) (w := w) (base := base) c X0 G
  have H_l_members := ok_l_members (P := P) (w := w) (base := base) c X0 G
  have H_l_draw_2 := ok_l_draw_2 (P := P) (w := w) (base := base) c X0 G
  have H_fault_of := ok_fault_of (P := P) (w := w) (base := base) c X0 G
  have H_l_told := ok_l_told (P := P) (w := w) (base := base) c X0 G
  have H_l_renamed := ok_l_renamed (P := P) (w := w) (base := base) c X0 G
  have H_l_spread := ok_l_spread (P := P) (w := w) (base := base) c X0 G
  have H_l_high_right := ok_l_high_right (P := P) (w := w) (base := base) c X0 G
  have sc := sc_law_k46
  refine fn_ok F sc (by decide) (fun cdv A outer s H E hr => ?_)
  exact (ds_cons (ds_set 1 sc.nd (de_callF [] (H_l_bag.up (by decide)) hr (He.glo_ok X0 G (c.fact 43 (f := .glo "_law_bag") (by rfl))) (fun _ _ => .nil) (fun _ => passAt0) (da_cons (de_var 0) da_nil) (sCons_len sNil_len))) (ds_cons (ds_for (vs := [2]) (passes_of rfl) rfl (di_rng1 (by rfl) (He.free_ok X0 G (c.fact 64 (f := .free "range") (by rfl))) (de_add de_int (de_min2 rfl (by rfl) (He.free_ok X0 G (c.fact 63 (f := .free "min") (by rfl))) de_int (de_len (by rfl) (He.free_ok X0 G (c.fact 60 (f := .free "len") (by rfl))) (de_var 0))))) (dg_name 2 sc.nd) (ds_cons (ds_set 3 sc.nd (de_callF [] (H_l_members.up (by decide)) hr (He.glo_ok X0 G (c.fact 47 (f := .glo "_law_members") (by rfl))) (fun _ _ => .nil) (fun _ => passAt0) (da_cons (de_var 1) (da_cons de_int da_nil)) (sCons_len (sCons_len sNil_len)))) (ds_cons (ds_set 4 sc.nd (de_add (de_lst (da_cons de_non (da_cons de_non da_nil))) (de_lc false [("_law_one", 5)] rfl sc.nd (di_any (de_var 3)) (blkOk_by (by kernel_rfl)) (fun _ _ _ _ _ => (dg_name 5 sc.nd)) (fun _ _ _ _ _ => dts_nil) (fun _ _ _ _ _ => (de_ix (de_var 5) de_int))))) (ds_cons (ds_set 6 sc.nd (de_lstO da_nil)) (ds_cons (ds_for (vs := [7]) (passes_of rfl) rfl (di_rng1 (by rfl) (He.free_ok X0 G (c.fact 64 (f := .free "range") (by rfl))) (de_callF [] (H_l_draw_2.up (by decide)) hr (He.glo_ok X0 G (c.fact 45 (f := .glo "_law_draw") (by rfl))) (fun _ _ => .nil) (fun _ => passAt0) (da_cons (de_var 1) (da_cons de_int da_nil)) (sCons_len (sCons_len sNil_len)))) (dg_name 7 sc.nd) (ds_cons (ds_set 8 sc.nd (de_ix (de_var 4) (de_callF [] (H_l_draw_2.up (by decide)) hr (He.glo_ok X0 G (c.fact 45 (f := .glo "_law_draw") (by rfl))) (fun _ _ => .nil) (fun _ => passAt0) (da_cons (de_var 1) (da_cons (de_len (by rfl) (He.free_ok X0 G (c.fact 60 (f := .free "len") (by rfl))) (de_var 4)) da_nil)) (sCons_len (sCons_len sNil_len))))) (ds_cons (ds_set 9 sc.nd (de_isnot (de_callF [] (((H_fault_of.up (by decide)).pure).shut) hr (He.glo_ok X0 G (c.fact 41 (f := .glo "fault_of") (by rfl))) (fun _ _ => .nil) (fun _ => passAt0) (da_cons (de_var 3) (da_cons (de_add (de_var 6) (de_lst (da_cons (de_var 8) da_nil))) da_nil)) (sCons_len (sCons_len sNil_len))) de_non)) (ds_one (ds_expr (de_append (de_var 6) (de_if (DW.dt (dw_and (dt_val (de_var 9)) (dw_and1 (dt_gt (de_callF [] (H_l_draw_2.up (by decide)) hr (He.glo_ok X0 G (c.fact 45 (f := .glo "_law_draw") (by rfl))) (fun _ _ => .nil) (fun _ => passAt0) (da_cons (de_var 1) (da_cons de_int da_nil)) (sCons_len (sCons_len sNil_len))) de_int)))) de_non (de_var 8)))))))) (dss_frz (i := 6) (ds_cons (ds_set 10 sc.nd (de_callF [] ((H_l_told.up (by decide)).pure) hr (He.glo_ok X0 G (c.fact 48 (f := .glo "_law_told") (by rfl))) (fun _ _ => .nil) (fun _ => passAt0) (da_cons (de_var 3) (da_cons (de_var 6) da_nil)) (sCons_len (sCons_len sNil_len)))) (ds_cons (ds_asg (vs := [11, 12]) (de_callF [] (H_l_renamed.up (by decide)) hr (He.glo_ok X0 G (c.fact 49 (f := .glo "_law_renamed") (by rfl))) (fun _ _ => .nil) (fun _ => passAt0) (da_cons (de_var 1) (da_cons (de_var 3) (da_cons (de_var 6) da_nil))) (sCons_len (sCons_len (sCons_len sNil_len)))) (dg_tup (n := 2) rfl (dg_cons (dg_name 11 sc.nd) (dg_cons (dg_name 12 sc.nd) dg_nil)) rfl (pg_tup rfl (dg_cons (dg_name 11 sc.nd) (dg_cons (dg_name 12 sc.nd) dg_nil))) (pg_lst rfl (dg_cons (dg_name 11 sc.nd) (dg_cons (dg_name 12 sc.nd) dg_nil))))) (ds_cons (ds_if (DW.dt (dw_or (dt_ne (hu_ hr) (de_callF [] ((H_l_told.up (by decide)).pure) hr (He.glo_ok X0 G (c.fact 48 (f := .glo "_law_told") (by rfl))) (fun _ _ => .nil) (fun _ => passAt0) (da_cons (de_var 11) (da_cons (de_var 12) da_nil)) (sCons_len (sCons_len sNil_len))) (de_var 10)) (dw_or1 (dt_ne (hu_ hr) (de_callF [] ((H_l_told.up (by decide)).pure) hr (He.glo_ok X0 G (c.fact 48 (f := .glo "_law_told") (by rfl))) (fun _ _ => .nil) (fun _ => passAt0) (da_cons (de_callF [] (H_l_spread.up (by decide)) hr (He.glo_ok X0 G (c.fact 50 (f := .glo "_law_spread") (by rfl))) (fun _ _ => .nil) (fun _ => passAt0) (da_cons (de_var 1) (da_cons (de_var 3) da_nil)) (sCons_len (sCons_len sNil_len))) (da_cons (de_var 6) da_nil)) (sCons_len (sCons_len sNil_len))) (de_var 10))))) (ds_one (ds_ret de_bl)) ds_nil) (ds_cons (ds_set 13 sc.nd (de_callF [] ((H_l_told.up (by decide)).pure) hr (He.glo_ok X0 G (c.fact 48 (f := .glo "_law_told") (by rfl))) (fun _ _ => .nil) (fun _ => passAt0) (da_cons (de_add (de_var 3) (de_lst (da_cons (de_tup (da_cons de_str (da_cons (de_add de_int (de_callF [] (H_l_draw_2.up (by decide)) hr (He.glo_ok X0 G (c.fact 45 (f := .glo "_law_draw") (by rfl))) (fun _ _ => .nil) (fun _ => passAt0) (da_cons (de_var 1) (da_cons de_int da_nil)) (sCons_len (sCons_len sNil_len)))) da_nil))) da_nil))) (da_cons (de_var 6) da_nil)) (sCons_len (sCons_len sNil_len)))) (ds_cons (ds_if (DW.dt (dw_or (dt_ne (hu_ hr) (de_ix (de_var 13) de_int) (de_ix (de_var 10) de_int)) (dw_or1 (dt_ne (hu_ hr) (de_if (dt_eq (hu_ hr) (de_ix (de_var 13) de_int) de_str) (de_cut false (de_ix (de_var 13) de_int) do_none (do_some (de_neg de_int))) (de_ix (de_var 13) de_int)) (de_ix (de_var 10) de_int))))) (ds_one (ds_ret de_bl)) ds_nil) (ds_one (ds_if (DW.dt (dw_and (dt_neN (hu_ hr) (de_var 3) (de_lst da_nil)) (dw_and1 (dt_not (dt_val (de_callF [] ((H_l_high_right.up (by decide)).pure) hr (He.glo_ok X0 G (c.fact 51 (f := .glo "_law_high_right") (by rfl))) (fun _ _ => .nil) (fun _ => passAt0) (da_cons (de_var 3) (da_cons (de_var 6) da_nil)) (sCons_len (sCons_len sNil_len)))))))) (ds_one (ds_ret de_bl)) ds_nil))))))))))))) (ds_one (ds_ret de_bl))))
end
def nm0 : List Str := ["HushError", "Inconsistent", "InvalidMembers", "InvalidRecord", "LETTERS", "MAX_NAME", "MAX_RANK", "MAX_TALKERS", "is_integer", "is_sequence", "is_name", "MAX_RECORD", "SILENCE", "ORDER", "is_member", "check_members", "is_item", "check_record", "Observed", "Reading", "checked_reading", "fault_of", "schedules_of", "_law_bag", "_law_stir", "_law_draw", "_law_shuffled", "_law_members", "_law_told", "_law_renamed"]
def nm1 : List Str := ["_law_spread", "_law_high_right"]
def nm : List Str := nm0 ++ nm1
abbrev R : PySem.W.OpenRow := PySem.W.OpenLaw.row PySem.Challenge.rw_hushranks_k46_whole_renamed_and_ranked_r
abbrev hk : PySem.W.Hook := hookE 5 fa fn xsL ysL esL
def ob (s : PySem.W.SharedT) : (He.AlD × Bool) × Bool := obsEG 5 fa fn xsL ysL esL (HandSHeadRun.getT s)
theorem ob_eq (s : PySem.W.SharedT) : ob s = hk.obs s.abs := obsEG_eq (HandSHeadRun.getT_eq s)
set_option maxHeartbeats 0 in
theorem run (w : World) : HandSHeadRun.RunEq R (PySem.W.view R.prog [36]) hk ob 9000 nm w := by
  intro os
  kernel_rfl
theorem facts {P : Program} {w : World} {K : PySem.W.Frag} {h : Heap} {mg : Str → Option Value} {f : Addr} (X : K.In h) (G : h.Ns mainGlobals mg) (hfa : mg ("law" : Str) = some (.ref f)) (c : SaysE fa fn xsL ysL esL K) :
    ∃ fd : FuncData, (∀ (s : Shared) (v : Value), BindsTo s fd ⟨[v], []⟩ [("_law_script", v)]) ∧ ∀ base : Heap, K.In base → base.Ns mainGlobals mg → FnOk P w K mg base CX0 8 f fd ["_law_script"] (spN K 1 Sh.law_k46) := by
  obtain ⟨fd, F⟩ := c.def_ 25 (d := d_law_k46) rfl
  have e := hfa.symm.trans (He.glo_ok X G (c.fact 52 (f := .glo "law") (by rfl)))
  cases e
  have b := FunD.bindsA (ps := ["_law_script"]) F (fun _ _ _ _ _ _ us hl => (match us, hl with | [_], _ => rfl))
  exact ⟨fd, (fun s v => b s [v] rfl), fun base KB GB => okb_law_k46 c KB GB F⟩
theorem holds_of (hg : ∀ ns : List Int, ns.length ≤ 63 → ∃ h', Sh.law_k46 [.scr (ns.map D.int)] [] = .ok (.bl true) h') : PySem.Challenge.rw_hushranks_k46_whole_renamed_and_ranked_r.Holds := by
  open PySem PySem.W PySem.Calls PyProof.Rows in
  w_on; o_law
  refine HandSHeadRun.head_any (r := R) (q := PySem.W.view R.prog [36]) (H := hk) (ob := ob) (M := 9000) (loose := nm) (d := HandSHeadRun.topDef R.prog 36) (kwd := []) ob_eq
    (by kernel_rfl) (fun s => by kernel_rfl) run (by kernel_rfl) (by kernel_rfl) (by kernel_rfl) (by rfl) (by first | assumption | decide +kernel) (by decide +kernel) ⟨rfl, rfl, rfl, rfl, rfl, by decide +kernel⟩ ?hw ?hc
  case hw => w_witness2
  case hc =>
    refine L2.walk_ofE (l := PySem.Challenge.rw_hushranks_k46_whole_renamed_and_ranked_r) (n := 63) (k := 8) (x := "_law_script") (CX := CX0) rfl (by decide) (by kernel_rfl) ⟨rfl, by decide, by decide⟩ ?F (fun _ _ _ _ z => z)
    intro w mg fa h Y G hmg0
    obtain ⟨K, KX, c⟩ := Y
    have hmg : mg ("law" : PySem.Str) = some (.ref fa) := by
      have e : (HandSHeadRun.topDef R.prog 36).name = ("law" : PySem.Str) := by kernel_rfl
      rw [← e]
      exact hmg0
    obtain ⟨fd, hb, hF⟩ := facts (P := (PySem.Challenge.rw_hushranks_k46_whole_renamed_and_ranked_r).prog) (w := w) KX G hmg c
    exact ⟨K, fd, spN K 1 Sh.law_k46, KX, hb, (fun H a ns hl hO hS => law_sp hg H a ns hl hO hS), hF⟩
end Tk46
end HR
theorem PySem.Challenge.cw_hushranks_k46_whole_renamed_and_ranked_r_holds : PySem.Challenge.rw_hushranks_k46_whole_renamed_and_ranked_r.Holds := by
  exact HR.Tk46.holds_of HR.law46
