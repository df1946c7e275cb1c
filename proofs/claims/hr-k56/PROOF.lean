import PyProof.Rows.All
import HandS.ForMost
import HandS.Defaults
import HandS.IsInst
import HandS.Wide
import HandS.Zip
import HandS.Flow
import HandS.Exc
import HandS.CallSlots
import HandS.TryOnly
import HandS.ExcOwn
import HandS.WordsExc
import HandS.HeadHook1
import HandS.HeadHook2
import HandS.WideBits
import HandS.HeadEnd
import HandS.Head0
import HandS.Head1
import HandS.Head2
import PyProof.Rows.SetFrom
import PyProof.Rows.SetObj
import HandS.Text
import HandS.Iter
import PyProof.ReprRoads
import HandS.ExcIs
import HandS.ExcInit
import HandS.ExcField
import KE.KExcIs
import HandS.Codes
import HandS.ExcValue
import PyProof.LongRange
import HandS.RaiseMore
import HandS.More
import HandS.SetFor
import HandS.Strs
import KE.DataMinMax
import HandS.SortKw
import HandS.Dict
import HandS.Deep
import HandS.DictComp
import PyProof.InstEq
import HandS.Small
import KE.GoesMore
import HandS.HotCalls
import HandS.ExcCtx
import HandS.SortInts
import HandS.Conv
import KE.KDictZip
import PyProof.ListNew
import KE.KTurns
import HandS.TupSets
import HandS.NoneIn
import KE.KStateDown
import HandS.DictTup
import HandS.MakeKwOnly
import HandS.MakeKw
import HandS.Style
import KE.KEqNest
import KE.KDictOf
import KE.DatumOrd
import PyProof.FitsInt
import PyProof.StrLawsRepr
import KE.KIntText
import PySem.Challenge.RW_hushranks_k56_text_errors
set_option Elab.async false
set_option linter.all false
set_option maxRecDepth 100000
set_option maxHeartbeats 2000000
/-! LayA: plain values, the own heap, results, and how they stand for HandS's values and heap. -/
namespace HR
open PySem L2
/-- plain values; ref: an object of the own heap; scr: a list that is only read (the script); exc: a caught exception without fields; excf: with one field -/
inductive D where
  | non | bl (b : Bool) | int (i : Int) | str (x : Str)
  | lst (xs : List D) | tup (xs : List D) | dct (kvs : List (Key × D)) | obj (C : String) (fs : List (String × D)) | ref (i : Nat) | scr (xs : List D) | exc (C : String) | excf (C f : String) (d : D)
/-- objects of the own heap -/
inductive OO where
  | lst (xs : List D) | ins (C : String) (fs : List (String × D)) | dct (kvs : List (Key × D)) | dead
abbrev OH := List OO
abbrev Env' := List (Option D)
abbrev Pay := Option (String × D)
inductive Res (α : Type) where
  | ok (a : α) (h : OH) | exc (C : String) (p : Pay) (h : OH) | bad
def Res.bind {α β : Type} (r : Res α) (f : α → OH → Res β) : Res β := match r with
  | .ok a h => f a h
  | .exc C p h => .exc C p h
  | .bad => .bad
@[simp] theorem Res.bind_ok {α β : Type} (a : α) (h : OH) (f : α → OH → Res β) : (Res.ok a h).bind f = f a h := rfl
@[simp] theorem Res.bind_exc {α β : Type} (C : String) (p : Pay) (h : OH) (f : α → OH → Res β) : (Res.exc C p h : Res α).bind f = .exc C p h := rfl
@[simp] theorem Res.bind_bad {α β : Type} (f : α → OH → Res β) : (Res.bad : Res α).bind f = .bad := rfl
inductive SRes where
  | nx (σ : Env') (h : OH) | rt (d : D) (h : OH) | bk (σ : Env') (h : OH) | ct (σ : Env') (h : OH) | exc (C : String) (p : Pay) (σ : Env') (h : OH) | bad
abbrev SE := Env' → OH → Res D
abbrev ST := Env' → OH → Res Bool
abbrev SA := Env' → OH → Res (List D)
abbrev SS := Env' → OH → SRes
abbrev FN := List D → OH → Res D
/-- what the class of an object must be, for its fields -/
def ObT (K : PySem.W.Frag) (C : String) (fs : List (String × D)) : Prop :=
  Cls K (He.ga K (Str.ofString C)) ∧ ∀ q ∈ fs, NoAttr K (He.ga K (Str.ofString C)) (Str.ofString q.1)
/-- a caught exception of the class cls, kept at a -/
def HexO (cls : Value) (a : Addr) : HO := .ext fun hp => ∃ (ob : Obj) (ws : Array Value), hp.get? a = some ob ∧ Zc cls none ob ∧ ob.data = .fields ws
/-- an exception of the class cls with a dict at dx, kept at a -/
def HexP (cls : Value) (dx : Addr) (a : Addr) : HO := .ext fun hp => ∃ (ob : Obj) (ws : Array Value), hp.get? a = some ob ∧ Zc cls (some dx) ob ∧ ob.data = .fields ws
theorem Same.sqT {K : PySem.W.Frag} {H H' : Hp} {a : Addr} {xs : List V} (e : Same H H') (h : SqT K H a xs) : SqT K H' a xs := by
  rcases h with (h | ⟨o, h⟩) | h
  · exact .inl (.inl (e _ _ h))
  · exact .inl (.inr ⟨o, e _ _ h⟩)
  · exact .inr h
mutual
/-- v stands for d: F the frozen part of the heap, m the addresses of the own objects -/
inductive Den (K : PySem.W.Frag) (F : Hp) (m : List Addr) : V → D → Prop
  | non : Den K F m .non .non
  | bl (b : Bool) : Den K F m (.bl b) (.bl b)
  | int (i : Int) : Den K F m (.int i) (.int i)
  | str (x : Str) : Den K F m (.str x) (.str x)
  | lst {a : Addr} {vs : List V} {ds : List D} (q : F a = some (.lst vs)) (r : DenL K F m vs ds) : Den K F m (.ref a) (.lst ds)
  | scr {a : Addr} {vs : List V} {ds : List D} (q : SqL K F a vs) (r : DenL K F m vs ds) : Den K F m (.ref a) (.scr ds)
  | tup {a : Addr} {vs : List V} {ds : List D} (q : SqT K F a vs) (r : DenL K F m vs ds) : Den K F m (.ref a) (.tup ds)
  | dct {a : Addr} {kvs : List (Key × V)} {ks : List (Key × D)} (q : F a = some (.dK kvs)) (r : DenK K F m kvs ks) : Den K F m (.ref a) (.dct ks)
  | obj {a dx : Addr} {C : String} {fv : List (Str × V)} {fs : List (String × D)} (q : F a = some (.ins (He.ga K (Str.ofString C)) dx fv)) (t : ObT K C fs) (r : DenF K F m fv fs) : Den K F m (.ref a) (.obj C fs)
  | ref {a : Addr} {i : Nat} (q : m[i]? = some a) : Den K F m (.ref a) (.ref i)
  | exc {a : Addr} {C : String} (q : Rd F a (HexO (.ref (He.ga K (Str.ofString C))) a)) : Den K F m (.ref a) (.exc C)
  | excf {a dx : Addr} {C f : String} {v : V} {d : D} (q : Rd F a (HexP (.ref (He.ga K (Str.ofString C))) dx a)) (q2 : F dx = some (.xd [(Str.ofString f, v)])) (r : Den K F m v d) : Den K F m (.ref a) (.excf C f d)
inductive DenL (K : PySem.W.Frag) (F : Hp) (m : List Addr) : List V → List D → Prop
  | nil : DenL K F m [] []
  | cons {v : V} {d : D} {vs : List V} {ds : List D} (h : Den K F m v d) (t : DenL K F m vs ds) : DenL K F m (v :: vs) (d :: ds)
inductive DenK (K : PySem.W.Frag) (F : Hp) (m : List Addr) : List (Key × V) → List (Key × D) → Prop
  | nil : DenK K F m [] []
  | cons {k : Key} {v : V} {d : D} {vs : List (Key × V)} {ds : List (Key × D)} (h : Den K F m v d) (t : DenK K F m vs ds) : DenK K F m ((k, v) :: vs) ((k, d) :: ds)
inductive DenF (K : PySem.W.Frag) (F : Hp) (m : List Addr) : List (Str × V) → List (String × D) → Prop
  | nil : DenF K F m [] []
  | cons {f : String} {v : V} {d : D} {vs : List (Str × V)} {ds : List (String × D)} (h : Den K F m v d) (t : DenF K F m vs ds) : DenF K F m ((Str.ofString f, v) :: vs) ((f, d) :: ds)
end
section
variable {K : PySem.W.Frag} {F F' : Hp} {m m' : List Addr}
theorem pre_get {i : Nat} {a : Addr} (p : m <+: m') (e : m[i]? = some a) : m'[i]? = some a := by
  obtain ⟨t, rfl⟩ := p
  rw [List.getElem?_append_left (List.getElem?_eq_some_iff.mp e).1]
  exact e
/-- the frozen part grows, the own objects' list grows -/
structure Ext (F : Hp) (m : List Addr) (F' : Hp) (m' : List Addr) : Prop where
  s : Same F F'
  p : m <+: m'
theorem Ext.refl : Ext F m F m := ⟨Same.refl _, List.prefix_rfl⟩
theorem Ext.trans {F2 : Hp} {m2 : List Addr} (a : Ext F m F' m') (b : Ext F' m' F2 m2) : Ext F m F2 m2 := ⟨a.s.trans b.s, a.p.trans b.p⟩
theorem rd_same {G G' : Hp} {a : Addr} {u : HO} (x : Same G G') (q : Rd G a u) : Rd G' a u := q.imp (x _ _) fun ⟨o, z⟩ => ⟨o, x _ _ z⟩
theorem Den.mono {v : V} {d : D} (x : Ext F m F' m') (h : Den K F m v d) : Den K F' m' v d :=
  Den.rec (motive_1 := fun v d _ => Den K F' m' v d) (motive_2 := fun v d _ => DenL K F' m' v d) (motive_3 := fun v d _ => DenK K F' m' v d) (motive_4 := fun v d _ => DenF K F' m' v d)
    .non .bl .int .str (fun q _ r => .lst (x.s _ _ q) r) (fun q _ r => .scr (x.s.seq q) r) (fun q _ r => .tup (Same.sqT x.s q) r) (fun q _ r => .dct (x.s _ _ q) r) (fun q t _ r => .obj (x.s _ _ q) t r) (fun q => .ref (pre_get x.p q)) (fun q => .exc (rd_same x.s q)) (fun q q2 _ r => .excf (rd_same x.s q) (x.s _ _ q2) r)
    .nil (fun _ _ a b => .cons a b) .nil (fun _ _ a b => .cons a b) .nil (fun _ _ a b => .cons a b) h
theorem DenL.mono (x : Ext F m F' m') : ∀ {vs : List V} {ds : List D}, DenL K F m vs ds → DenL K F' m' vs ds
  | _, _, .nil => .nil
  | _, _, .cons h t => .cons (h.mono x) (DenL.mono x t)
theorem DenK.mono (x : Ext F m F' m') : ∀ {vs : List (Key × V)} {ds : List (Key × D)}, DenK K F m vs ds → DenK K F' m' vs ds
  | _, _, .nil => .nil
  | _, _, .cons h t => .cons (h.mono x) (DenK.mono x t)
theorem DenF.mono (x : Ext F m F' m') : ∀ {vs : List (Str × V)} {ds : List (String × D)}, DenF K F m vs ds → DenF K F' m' vs ds
  | _, _, .nil => .nil
  | _, _, .cons h t => .cons (h.mono x) (DenF.mono x t)
theorem DenL.length : ∀ {vs : List V} {ds : List D}, DenL K F m vs ds → vs.length = ds.length
  | _, _, .nil => rfl
  | _, _, .cons _ t => by rw [List.length_cons, List.length_cons, DenL.length t]
theorem DenL.get : ∀ {vs : List V} {ds : List D} {i : Nat} {d : D}, DenL K F m vs ds → ds[i]? = some d → ∃ v, vs[i]? = some v ∧ Den K F m v d
  | _, _, _, _, .nil, e => by simp at e
  | _, _, 0, _, .cons h _, e => by
    simp at e
    subst e
    exact ⟨_, by simp, h⟩
  | _, _, i + 1, d, .cons _ t, e => by
    obtain ⟨v, e1, r⟩ := DenL.get (i := i) (d := d) t (by simpa using e)
    exact ⟨v, by simpa using e1, r⟩
theorem DenL.getV : ∀ {vs : List V} {ds : List D} {i : Nat} {v : V}, DenL K F m vs ds → vs[i]? = some v → ∃ d, ds[i]? = some d ∧ Den K F m v d
  | _, _, _, _, .nil, e => by simp at e
  | _, _, 0, _, .cons h _, e => by
    simp at e
    subst e
    exact ⟨_, by simp, h⟩
  | _, _, i + 1, v, .cons _ t, e => by
    obtain ⟨d, e1, r⟩ := DenL.getV (i := i) (v := v) t (by simpa using e)
    exact ⟨d, by simpa using e1, r⟩
theorem DenL.append : ∀ {vs ws : List V} {ds es : List D}, DenL K F m vs ds → DenL K F m ws es → DenL K F m (vs ++ ws) (ds ++ es)
  | _, _, _, _, .nil, s => s
  | _, _, _, _, .cons h t, s => .cons h (DenL.append t s)
theorem DenL.take : ∀ {vs : List V} {ds : List D} (n : Nat), DenL K F m vs ds → DenL K F m (vs.take n) (ds.take n)
  | _, _, 0, _ => .nil
  | _, _, _ + 1, .nil => .nil
  | _, _, n + 1, .cons h t => .cons h (DenL.take n t)
theorem DenL.drop : ∀ {vs : List V} {ds : List D} (n : Nat), DenL K F m vs ds → DenL K F m (vs.drop n) (ds.drop n)
  | _, _, 0, r => r
  | _, _, _ + 1, .nil => .nil
  | _, _, n + 1, .cons _ t => DenL.drop n t
theorem DenL.set {v : V} {d : D} (r : Den K F m v d) : ∀ {vs : List V} {ds : List D} (i : Nat), DenL K F m vs ds → DenL K F m (vs.set i v) (ds.set i d)
  | _, _, _, .nil => .nil
  | _, _, 0, .cons _ t => .cons r t
  | _, _, i + 1, .cons h t => .cons h (DenL.set r i t)
theorem DenL.eraseIdx : ∀ {vs : List V} {ds : List D} (i : Nat), DenL K F m vs ds → DenL K F m (vs.eraseIdx i) (ds.eraseIdx i)
  | _, _, _, .nil => .nil
  | _, _, 0, .cons _ t => t
  | _, _, i + 1, .cons h t => .cons h (DenL.eraseIdx i t)
theorem DenL.rep {vs : List V} {ds : List D} (h : DenL K F m vs ds) : ∀ k : Nat, DenL K F m (List.replicate k vs).flatten (List.replicate k ds).flatten
  | 0 => .nil
  | k + 1 => by
    rw [List.replicate_succ, List.replicate_succ, List.flatten_cons, List.flatten_cons]
    exact h.append (h.rep k)
theorem DenL.ints : ∀ (ns : List Int), DenL K F m (ns.map V.int) (ns.map D.int)
  | [] => .nil
  | n :: ns => .cons (.int n) (DenL.ints ns)
/-- what stands at an own object's address -/
def OOk (K : PySem.W.Frag) (F : Hp) (m : List Addr) (H : Hp) (a : Addr) : OO → Prop
  | .lst xs => ∃ vs, H a = some (.lst vs) ∧ DenL K F m vs xs ∧ F a = none
  | .ins C fs => ∃ dx fv, H a = some (.ins (He.ga K (Str.ofString C)) dx fv) ∧ ObT K C fs ∧ DenF K F m fv fs ∧ F a = none
  | .dct kvs => ∃ ks, H a = some (.dK ks) ∧ DenK K F m ks kvs ∧ F a = none
  | .dead => True
abbrev Pins := List (Addr × HO)
/-- the own heap h stands in H; P: hidden objects, which stay -/
structure Sim (K : PySem.W.Frag) (P : Pins) (F : Hp) (m : List Addr) (h : OH) (H : Hp) : Prop where
  sub : Same F H
  len : m.length = h.length
  nd : m.Nodup
  live : ∀ a ∈ m, ∃ o, H a = some o
  at_ : ∀ (i : Nat) (a : Addr) (o : OO), m[i]? = some a → h[i]? = some o → OOk K F m H a o
  pin : ∀ p ∈ P, H p.1 = some p.2 ∧ F p.1 = none ∧ p.1 ∉ m
  pnd : (P.map (·.1)).Nodup
theorem OOk.mono {H H' : Hp} {a : Addr} {o : OO} (x : Ext F m F' m') (e : H' a = H a) (f : F a = none → F' a = none) (h : OOk K F m H a o) : OOk K F' m' H' a o := by
  cases o with
  | lst xs =>
    obtain ⟨vs, h1, h2, h3⟩ := h
    exact ⟨vs, e.trans h1, h2.mono x, f h3⟩
  | ins C fs =>
    obtain ⟨dx, fv, h1, h2, h3, h4⟩ := h
    exact ⟨dx, fv, e.trans h1, h2, h3.mono x, f h4⟩
  | dct kvs =>
    obtain ⟨ks, h1, h2, h3⟩ := h
    exact ⟨ks, e.trans h1, h2.mono x, f h3⟩
  | dead => trivial
end
section
variable {K : PySem.W.Frag} {P : Pins} {F : Hp} {m : List Addr} {h : OH} {H : Hp}
theorem nodup_at {i j : Nat} {a : Addr} (hn : m.Nodup) (e1 : m[i]? = some a) (e2 : m[j]? = some a) : i = j := by
  obtain ⟨h1, q1⟩ := List.getElem?_eq_some_iff.mp e1
  obtain ⟨h2, q2⟩ := List.getElem?_eq_some_iff.mp e2
  exact (List.getElem_inj hn).mp (q1.trans q2.symm)
theorem Sim.notMem (S : Sim K P F m h H) {p : Addr} (hp : H p = none) : p ∉ m := fun z => by
  obtain ⟨o, e⟩ := S.live p z
  rw [hp] at e
  cases e
theorem Sim.free (S : Sim K P F m h H) {p : Addr} (hp : H p = none) : F p = none := S.sub.free hp
theorem Sim.notPin (S : Sim K P F m h H) {p : Addr} (hp : H p = none) : ∀ q ∈ P, q.1 ≠ p := fun q hq z => by
  have e := (S.pin q hq).1
  rw [z, hp] at e
  cases e
theorem same_new {p : Addr} {o : HO} (hp : H p = none) : Same H (upd H p o) := fun b u e => by
  rw [upd_ne (ne_of_none e hp)]
  exact e
/-- what is laid and stays out of sight -/
theorem Sim.other (S : Sim K P F m h H) {p : Addr} {o : HO} (hp : H p = none) : Sim K P F m h (upd H p o) where
  sub := S.sub.trans (same_new hp)
  len := S.len
  nd := S.nd
  live := fun a ha => let ⟨u, e⟩ := S.live a ha; ⟨u, same_new hp _ _ e⟩
  at_ := fun i a u e1 e2 => (S.at_ i a u e1 e2).mono .refl (upd_ne fun z => S.notMem hp (z ▸ List.mem_of_getElem? e1)) id
  pin := fun q hq => ⟨same_new hp _ _ (S.pin q hq).1, (S.pin q hq).2⟩
  pnd := S.pnd
/-- a new frozen object -/
theorem Sim.frozen (S : Sim K P F m h H) {p : Addr} {o : HO} (hp : H p = none) : Sim K P (upd F p o) m h (upd H p o) := by
  have x : Ext F m (upd F p o) m := ⟨same_new (S.free hp), List.prefix_rfl⟩
  refine ⟨fun b u e => ?_, S.len, S.nd, (S.other hp).live, fun i a u e1 e2 => ?_, fun q hq => ?_, S.pnd⟩
  · by_cases hb : b = p
    · subst hb
      rw [upd_same] at e ⊢
      exact e
    · rw [upd_ne hb] at e ⊢
      exact S.sub b u e
  · have ne : a ≠ p := fun z => S.notMem hp (z ▸ List.mem_of_getElem? e1)
    exact (S.at_ i a u e1 e2).mono x (upd_ne ne) fun z => (upd_ne ne).trans z
  · have ne : q.1 ≠ p := S.notPin hp q hq
    exact ⟨same_new hp _ _ (S.pin q hq).1, (upd_ne ne).trans (S.pin q hq).2.1, (S.pin q hq).2.2⟩
theorem Sim.extF (S : Sim K P F m h H) {p : Addr} {o : HO} (hp : H p = none) : Ext F m (upd F p o) m := ⟨same_new (S.free hp), List.prefix_rfl⟩
theorem ext_new {a : Addr} : Ext F m F (m ++ [a]) := ⟨Same.refl _, List.prefix_append _ _⟩
/-- a new own object -/
theorem Sim.alloc (S : Sim K P F m h H) {p : Addr} {ho : HO} {o : OO} (hp : H p = none) (ok : OOk K F (m ++ [p]) (upd H p ho) p o) : Sim K P F (m ++ [p]) (h ++ [o]) (upd H p ho) where
  sub := (S.other hp).sub
  len := by simp [S.len]
  nd := List.nodup_append.mpr ⟨S.nd, by simp, fun a ha b hb => by
    rw [List.mem_singleton] at hb
    subst hb
    exact fun z => S.notMem hp (z ▸ ha)⟩
  live := fun a ha => by
    rcases List.mem_append.mp ha with ha | ha
    · exact (S.other hp).live a ha
    · rw [List.mem_singleton] at ha
      subst ha
      exact ⟨_, upd_same⟩
  at_ := fun i a u e1 e2 => by
    by_cases hi : i < m.length
    · rw [List.getElem?_append_left hi] at e1
      rw [List.getElem?_append_left (by rw [← S.len]; exact hi)] at e2
      exact (S.at_ i a u e1 e2).mono ext_new (upd_ne fun z => S.notMem hp (z ▸ List.mem_of_getElem? e1)) id
    · have hi2 : i = m.length := by
        have := (List.getElem?_eq_some_iff.mp e1).1
        simp at this
        omega
      subst hi2
      rw [S.len] at e2
      simp at e1 e2
      subst e1 e2
      exact ok
  pin := fun q hq => by
    obtain ⟨h1, h2, h3⟩ := (S.other (o := ho) hp).pin q hq
    refine ⟨h1, h2, fun z => ?_⟩
    rcases List.mem_append.mp z with z | z
    · exact h3 z
    · rw [List.mem_singleton] at z
      exact S.notPin hp q hq z
  pnd := S.pnd
/-- an own object is written -/
theorem Sim.write (S : Sim K P F m h H) {i : Nat} {a : Addr} {ho : HO} {o o' : OO} (e : m[i]? = some a) (e2 : h[i]? = some o') (nf : F a = none) (ok : OOk K F m (upd H a ho) a o) : Sim K P F m (h.set i o) (upd H a ho) where
  sub := fun b u q => by
    have ne : b ≠ a := fun z => by
      rw [z, nf] at q
      cases q
    rw [upd_ne ne]
    exact S.sub b u q
  len := by simp [S.len]
  nd := S.nd
  live := fun b hb => by
    by_cases hba : b = a
    · subst hba
      exact ⟨_, upd_same⟩
    · obtain ⟨u, q⟩ := S.live b hb
      exact ⟨u, (upd_ne hba).trans q⟩
  at_ := fun j b u q1 q2 => by
    by_cases hji : j = i
    · subst hji
      rw [e] at q1
      cases q1
      rw [List.getElem?_set_self (List.getElem?_eq_some_iff.mp e2).1] at q2
      cases q2
      exact ok
    · rw [List.getElem?_set_ne (Ne.symm hji)] at q2
      exact (S.at_ j b u q1 q2).mono .refl (upd_ne fun z => hji (nodup_at S.nd (z ▸ q1) e)) id
  pin := fun q hq => by
    obtain ⟨h1, h2, h3⟩ := S.pin q hq
    exact ⟨(upd_ne fun z => h3 (by rw [z]; exact List.mem_of_getElem? e)).trans h1, h2, h3⟩
  pnd := S.pnd
/-- an own object is frozen -/
theorem Sim.freeze (S : Sim K P F m h H) {i : Nat} {a : Addr} {ho : HO} (e : m[i]? = some a) (nf : F a = none) (he : H a = some ho) : Sim K P (upd F a ho) m (h.set i .dead) H := by
  have x : Ext F m (upd F a ho) m := ⟨same_new nf, List.prefix_rfl⟩
  refine ⟨fun b u q => ?_, by simp [S.len], S.nd, S.live, fun j b u q1 q2 => ?_, fun q hq => ?_, S.pnd⟩
  · by_cases hb : b = a
    · subst hb
      rw [upd_same] at q
      cases q
      exact he
    · rw [upd_ne hb] at q
      exact S.sub b u q
  · by_cases hji : j = i
    · subst hji
      rw [List.getElem?_set] at q2
      simp at q2
      obtain ⟨_, q2⟩ := q2
      subst q2
      trivial
    · rw [List.getElem?_set_ne (Ne.symm hji)] at q2
      have ne : b ≠ a := fun z => hji (nodup_at S.nd (z ▸ q1) e)
      exact (S.at_ j b u q1 q2).mono x rfl fun z => (upd_ne ne).trans z
  · obtain ⟨h1, h2, h3⟩ := S.pin q hq
    exact ⟨h1, (upd_ne fun z => h3 (by rw [z]; exact List.mem_of_getElem? e)).trans h2, h3⟩
theorem ext_frz {a : Addr} {ho : HO} (nf : F a = none) : Ext F m (upd F a ho) m := ⟨same_new nf, List.prefix_rfl⟩
/-- a new hidden object -/
theorem Sim.hid (S : Sim K P F m h H) {p : Addr} {o : HO} (hp : H p = none) : Sim K ((p, o) :: P) F m h (upd H p o) := by
  have S2 := S.other (o := o) hp
  refine ⟨S2.sub, S2.len, S2.nd, S2.live, S2.at_, fun q hq => ?_, ?_⟩
  · rcases List.mem_cons.mp hq with rfl | hq
    · exact ⟨upd_same, S.free hp, S.notMem hp⟩
    · exact S2.pin q hq
  · rw [List.map_cons, List.nodup_cons]
    refine ⟨fun z => ?_, S.pnd⟩
    obtain ⟨q, hq, e⟩ := List.mem_map.mp z
    exact S.notPin hp q hq e
/-- a hidden object is written -/
theorem Sim.hidSet {p : Addr} {o o' : HO} (S : Sim K ((p, o) :: P) F m h H) : Sim K ((p, o') :: P) F m h (upd H p o') := by
  obtain ⟨h1, h2, h3⟩ := S.pin (p, o) List.mem_cons_self
  have nm : ∀ a, a ∈ m → a ≠ p := fun a ha z => h3 (z ▸ ha)
  have pn := S.pnd
  rw [List.map_cons, List.nodup_cons] at pn
  refine ⟨fun b u q => ?_, S.len, S.nd, fun a ha => ?_, fun i a u e1 e2 => ?_, fun q hq => ?_, by rw [List.map_cons, List.nodup_cons]; exact pn⟩
  · have ne : b ≠ p := fun z => by
      rw [z, h2] at q
      cases q
    rw [upd_ne ne]
    exact S.sub b u q
  · obtain ⟨u, q⟩ := S.live a ha
    exact ⟨u, (upd_ne (nm a ha)).trans q⟩
  · exact (S.at_ i a u e1 e2).mono .refl (upd_ne (nm a (List.mem_of_getElem? e1))) id
  · rcases List.mem_cons.mp hq with rfl | hq
    · exact ⟨upd_same, h2, h3⟩
    · obtain ⟨q1, q2, q3⟩ := S.pin q (List.mem_cons_of_mem _ hq)
      have ne : q.1 ≠ p := fun z => pn.1 (List.mem_map.mpr ⟨q, hq, z⟩)
      exact ⟨(upd_ne ne).trans q1, q2, q3⟩
/-- a hidden object is frozen -/
theorem Sim.hidFrz {p : Addr} {o : HO} (S : Sim K ((p, o) :: P) F m h H) : Sim K P (upd F p o) m h H := by
  obtain ⟨h1, h2, h3⟩ := S.pin (p, o) List.mem_cons_self
  have x : Ext F m (upd F p o) m := ext_frz h2
  have pn := S.pnd
  rw [List.map_cons, List.nodup_cons] at pn
  refine ⟨fun b u q => ?_, S.len, S.nd, S.live, fun i a u e1 e2 => ?_, fun q hq => ?_, pn.2⟩
  · by_cases hb : b = p
    · subst hb
      rw [upd_same] at q
      cases q
      exact h1
    · rw [upd_ne hb] at q
      exact S.sub b u q
  · have ne : a ≠ p := fun z => h3 (z ▸ List.mem_of_getElem? e1)
    exact (S.at_ i a u e1 e2).mono x rfl fun z => (upd_ne ne).trans z
  · obtain ⟨q1, q2, q3⟩ := S.pin q (List.mem_cons_of_mem _ hq)
    have ne : q.1 ≠ p := fun z => pn.1 (List.mem_map.mpr ⟨q, hq, z⟩)
    exact ⟨q1, (upd_ne ne).trans q2, q3⟩
/-- a hidden list becomes an own object -/
theorem Sim.hidOwn {p : Addr} {vs : List V} {xs : List D} (S : Sim K ((p, .lst vs) :: P) F m h H) (r : DenL K F m vs xs) : Sim K P F (m ++ [p]) (h ++ [.lst xs]) H := by
  obtain ⟨h1, h2, h3⟩ := S.pin (p, .lst vs) List.mem_cons_self
  have pn := S.pnd
  rw [List.map_cons, List.nodup_cons] at pn
  refine ⟨S.sub, by simp [S.len], ?_, fun a ha => ?_, fun i a u e1 e2 => ?_, fun q hq => ?_, pn.2⟩
  · refine List.nodup_append.mpr ⟨S.nd, by simp, fun a ha b hb => ?_⟩
    rw [List.mem_singleton] at hb
    subst hb
    exact fun z => h3 (z ▸ ha)
  · rcases List.mem_append.mp ha with ha | ha
    · exact S.live a ha
    · rw [List.mem_singleton] at ha
      subst ha
      exact ⟨_, h1⟩
  · by_cases hi : i < m.length
    · rw [List.getElem?_append_left hi] at e1
      rw [List.getElem?_append_left (by rw [← S.len]; exact hi)] at e2
      exact (S.at_ i a u e1 e2).mono ext_new rfl id
    · have hi2 : i = m.length := by
        have := (List.getElem?_eq_some_iff.mp e1).1
        simp at this
        omega
      subst hi2
      rw [S.len] at e2
      simp at e1 e2
      subst e1 e2
      exact ⟨vs, h1, r.mono ext_new, h2⟩
  · obtain ⟨q1, q2, q3⟩ := S.pin q (List.mem_cons_of_mem _ hq)
    refine ⟨q1, q2, fun z => ?_⟩
    rcases List.mem_append.mp z with z | z
    · exact q3 z
    · rw [List.mem_singleton] at z
      exact pn.1 (List.mem_map.mpr ⟨q, hq, z⟩)
/-- the whole own heap hidden, for a call that sees nothing of it -/
def hidP (F : Hp) (m : List Addr) (H : Hp) : Pins := m.filterMap fun a => if (F a).isNone then (H a).map fun o => (a, o) else none
theorem mem_hidP {q : Addr × HO} : q ∈ hidP F m H ↔ q.1 ∈ m ∧ F q.1 = none ∧ H q.1 = some q.2 := by
  unfold hidP
  rw [List.mem_filterMap]
  constructor
  · rintro ⟨a, ha, e⟩
    split at e
    · rename_i hf
      obtain ⟨o, ho, e2⟩ := Option.map_eq_some_iff.mp e
      subst e2
      exact ⟨ha, by simpa using hf, ho⟩
    · cases e
  · rintro ⟨h1, h2, h3⟩
    exact ⟨q.1, h1, by simp [h2, h3]⟩
theorem hidP_nodup : ∀ {m : List Addr}, m.Nodup → ((hidP F m H).map (·.1)).Nodup
  | [], _ => by simp [hidP]
  | a :: m, hn => by
    rw [List.nodup_cons] at hn
    have ih := hidP_nodup hn.2
    have key : hidP F (a :: m) H = (if (F a).isNone then (H a).map fun o => (a, o) else none).toList ++ hidP F m H := by
      unfold hidP
      rw [List.filterMap_cons]
      split <;> rename_i e <;> rw [e] <;> rfl
    rw [key]
    split
    · cases e : H a with
      | none => simpa using ih
      | some o =>
        simp only [Option.map_some, Option.toList_some, List.singleton_append, List.map_cons, List.nodup_cons]
        refine ⟨fun z => ?_, ih⟩
        obtain ⟨q, hq, e2⟩ := List.mem_map.mp z
        exact hn.1 (e2 ▸ (mem_hidP.mp hq).1)
    · simpa using ih
theorem Sim.hide (S : Sim K P F m h H) : Sim K (hidP F m H ++ P) F [] [] H where
  sub := S.sub
  len := rfl
  nd := List.nodup_nil
  live := fun _ z => by simp at z
  at_ := fun _ _ _ z => by simp at z
  pin := fun q hq => by
    rcases List.mem_append.mp hq with hq | hq
    · obtain ⟨_, h2, h3⟩ := mem_hidP.mp hq
      exact ⟨h3, h2, by simp⟩
    · exact ⟨(S.pin q hq).1, (S.pin q hq).2.1, by simp⟩
  pnd := by
    rw [List.map_append]
    refine List.nodup_append.mpr ⟨hidP_nodup S.nd, S.pnd, fun a ha b hb z => ?_⟩
    obtain ⟨q, hq, e⟩ := List.mem_map.mp ha
    obtain ⟨r, hr, e2⟩ := List.mem_map.mp hb
    exact (S.pin r hr).2.2 (by rw [e2, ← z, ← e]; exact (mem_hidP.mp hq).1)
theorem Sim.unhide {F' : Hp} {m' : List Addr} {h' : OH} {H' : Hp} (S : Sim K P F m h H) (s : Same F F') (S' : Sim K (hidP F m H ++ P) F' m' h' H') : Sim K P F' m h H' where
  sub := S'.sub
  len := S.len
  nd := S.nd
  live := fun a ha => by
    cases e : F a with
    | some o => exact ⟨o, S'.sub a o (s a o e)⟩
    | none =>
      obtain ⟨o, q⟩ := S.live a ha
      exact ⟨o, (S'.pin (a, o) (List.mem_append_left _ (mem_hidP.mpr ⟨ha, e, q⟩))).1⟩
  at_ := fun i a o e1 e2 => by
    have ha := List.mem_of_getElem? e1
    have key : ∀ u, H a = some u → F a = none → H' a = some u ∧ F' a = none := fun u q z =>
      let t := S'.pin (a, u) (List.mem_append_left _ (mem_hidP.mpr ⟨ha, z, q⟩)); ⟨t.1, t.2.1⟩
    have x : Ext F m F' m := ⟨s, List.prefix_rfl⟩
    have ok := S.at_ i a o e1 e2
    cases o with
    | lst xs =>
      obtain ⟨vs, h1, h2, h3⟩ := ok
      obtain ⟨k1, k2⟩ := key _ h1 h3
      exact ⟨vs, k1, h2.mono x, k2⟩
    | ins C fs =>
      obtain ⟨dx, fv, h1, h2, h3, h4⟩ := ok
      obtain ⟨k1, k2⟩ := key _ h1 h4
      exact ⟨dx, fv, k1, h2, h3.mono x, k2⟩
    | dct kvs =>
      obtain ⟨ks, h1, h2, h3⟩ := ok
      obtain ⟨k1, k2⟩ := key _ h1 h3
      exact ⟨ks, k1, h2.mono x, k2⟩
    | dead => trivial
  pin := fun q hq => by
    obtain ⟨h1, h2, _⟩ := S'.pin q (List.mem_append_right _ hq)
    exact ⟨h1, h2, (S.pin q hq).2.2⟩
  pnd := S.pnd
end
/-! ### values without own objects -/
mutual
def D.pure : D → Bool
  | .non | .bl _ | .int _ | .str _ => true
  | .lst xs | .tup xs | .scr xs => D.pureL xs
  | .dct kvs => D.pureK kvs
  | .obj _ fs => D.pureF fs
  | .ref _ => false
  | .exc _ => true
  | .excf _ _ d => d.pure
def D.pureL : List D → Bool
  | [] => true
  | x :: xs => x.pure && D.pureL xs
def D.pureK : List (Key × D) → Bool
  | [] => true
  | x :: xs => x.2.pure && D.pureK xs
def D.pureF : List (String × D) → Bool
  | [] => true
  | x :: xs => x.2.pure && D.pureF xs
end
theorem and2 {a b : Bool} (h : (a && b) = true) : a = true ∧ b = true := Bool.and_eq_true_iff.mp h
theorem Den.pureM {K : PySem.W.Frag} {F : Hp} {m m' : List Addr} {v : V} {d : D} (h : Den K F m v d) : d.pure = true → Den K F m' v d :=
  Den.rec (motive_1 := fun v d _ => d.pure = true → Den K F m' v d) (motive_2 := fun v d _ => D.pureL d = true → DenL K F m' v d) (motive_3 := fun v d _ => D.pureK d = true → DenK K F m' v d) (motive_4 := fun v d _ => D.pureF d = true → DenF K F m' v d)
    (fun _ => .non) (fun b _ => .bl b) (fun i _ => .int i) (fun x _ => .str x)
    (fun q _ r e => .lst q (r (by simpa [D.pure] using e))) (fun q _ r e => .scr q (r (by simpa [D.pure] using e))) (fun q _ r e => .tup q (r (by simpa [D.pure] using e))) (fun q _ r e => .dct q (r (by simpa [D.pure] using e))) (fun q t _ r e => .obj q t (r (by simpa [D.pure] using e)))
    (fun _ e => by simp [D.pure] at e) (fun q _ => .exc q) (fun q q2 _ r e => .excf q q2 (r (by simpa [D.pure] using e)))
    (fun _ => .nil) (fun _ _ a b e => by
      have e' := and2 (by simpa only [D.pureL] using e)
      exact .cons (a e'.1) (b e'.2))
    (fun _ => .nil) (fun _ _ a b e => by
      have e' := and2 (by simpa only [D.pureK] using e)
      exact .cons (a e'.1) (b e'.2))
    (fun _ => .nil) (fun _ _ a b e => by
      have e' := and2 (by simpa only [D.pureF] using e)
      exact .cons (a e'.1) (b e'.2)) h
theorem DenL.pureM {K : PySem.W.Frag} {F : Hp} {m m' : List Addr} : ∀ {vs : List V} {ds : List D}, DenL K F m vs ds → D.pureL ds = true → DenL K F m' vs ds
  | _, _, .nil, _ => .nil
  | _, _, .cons h t, e => by
    have e' := and2 (by simpa only [D.pureL] using e)
    exact .cons (h.pureM e'.1) (DenL.pureM t e'.2)
end HR
set_option Elab.async false
set_option linter.all false
set_option maxRecDepth 100000
set_option maxHeartbeats 2000000
/-! LayB: the judgements over plain functions; names, constants, operators, displays. -/
namespace HR
open PySem L2
/-- an exception's own dict -/
def PayD (K : PySem.W.Frag) (F : Hp) (m : List Addr) : Pay → Option Addr → Prop
  | none, od => od = none
  | some q, od => ∃ a v, od = some a ∧ F a = some (.xd [(Str.ofString q.1, v)]) ∧ Den K F m v q.2
/-- the slots -/
structure EnvR (K : PySem.W.Frag) (F : Hp) (m : List Addr) (σ : St) (e : Env') : Prop where
  len : σ.length = e.length
  at_ : ∀ (i : Nat) (d : D), e[i]? = some (some d) → ∃ v, σ[i]? = some (some v) ∧ Den K F m v d
abbrev Rel (β α : Type) := Hp → List Addr → β → α → Prop
def FinG {α β : Type} (K : PySem.W.Frag) (P : Pins) (W : WX) (σ : St) (rel : Rel β α) (Q : β → Hp → Prop) (F : Hp) (m : List Addr) : Res α → Prop
  | .ok d h' => ∀ v F' m' H', Ext F m F' m' → Sim K P F' m' h' H' → rel F' m' v d → Q v H'
  | .exc C p h' => ∀ od F' m' H', Ext F m F' m' → Sim K P F' m' h' H' → PayD K F' m' p od → W (.ref (He.ga K (Str.ofString C))) od σ H'
  | .bad => False
/-- the reading of a plain function -/
def rdG {α β : Type} (K : PySem.W.Frag) (W : WX) (rel : Rel β α) (f : Env' → OH → Res α) (σ : St) (H : Hp) (Q : β → Hp → Prop) : Prop :=
  ∃ P F m e h, Sim K P F m h H ∧ EnvR K F m σ e ∧ FinG K P W σ rel Q F m (f e h)
abbrev relB : Rel Bool Bool := fun _ _ b c => b = c
abbrev DE (X : Cx) (W : WX) (e : Expr) (f : SE) : Prop := PE X e (rdG X.K W (Den X.K) f)
abbrev DT (X : Cx) (W : WX) (e : Expr) (f : ST) : Prop := PT X e (rdG X.K W relB f)
abbrev DW (X : Cx) (W : WX) (e : Expr) (f : ST) : Prop := PW X e (rdG X.K W relB f)
abbrev DA (X : Cx) (W : WX) (es : List Expr) (f : SA) : Prop := PA X es (rdG X.K W (DenL X.K) f)
section
variable {K : PySem.W.Frag} {P : Pins} {W : WX} {σ : St} {F F' : Hp} {m m' : List Addr} {h : OH} {H : Hp} {e : Env'}
theorem EnvR.mono (x : Ext F m F' m') (E : EnvR K F m σ e) : EnvR K F' m' σ e :=
  ⟨E.len, fun i d q => let ⟨v, a, b⟩ := E.at_ i d q; ⟨v, a, b.mono x⟩⟩
theorem FinG.weak {α β : Type} {rel : Rel β α} {Q : β → Hp → Prop} (x : Ext F m F' m') : ∀ {r : Res α}, FinG K P W σ rel Q F m r → FinG K P W σ rel Q F' m' r
  | .ok _ _, q => fun v F2 m2 H2 y S d => q v F2 m2 H2 (x.trans y) S d
  | .exc _ _ _, q => fun od F2 m2 H2 y S d => q od F2 m2 H2 (x.trans y) S d
  | .bad, q => q
theorem FinG.ok {α β : Type} {rel : Rel β α} {Q : β → Hp → Prop} {a : α} {v : β} (q : FinG K P W σ rel Q F m (.ok a h)) (S : Sim K P F m h H) (r : rel F m v a) : Q v H := q v F m H .refl S r
theorem FinG.okX {α β : Type} {rel : Rel β α} {Q : β → Hp → Prop} {a : α} {v : β} (q : FinG K P W σ rel Q F m (.ok a h)) (x : Ext F m F' m') (S : Sim K P F' m' h H) (r : rel F' m' v a) : Q v H := q v F' m' H x S r
/-- one step -/
theorem rd_seq {α β γ δ : Type} {rel1 : Rel β α} {rel2 : Rel δ γ} {f : Env' → OH → Res α} {g : α → OH → Res γ} {Q : δ → Hp → Prop} {R : β → Hp → Prop} (S : Sim K P F m h H) (E : EnvR K F m σ e)
    (fin : FinG K P W σ rel2 Q F m ((f e h).bind g))
    (k : ∀ F' m' h' H' v a, Ext F m F' m' → Sim K P F' m' h' H' → EnvR K F' m' σ e → rel1 F' m' v a → FinG K P W σ rel2 Q F' m' (g a h') → R v H') : rdG K W rel1 f σ H R := by
  refine ⟨P, F, m, e, h, S, E, ?_⟩
  cases q : f e h with
  | ok a h1 =>
    rw [q] at fin
    exact fun v F1 m1 H1 x S1 r => k F1 m1 h1 H1 v a x S1 (E.mono x) r (FinG.weak x fin)
  | exc C p h1 =>
    rw [q] at fin
    exact fin
  | bad =>
    rw [q] at fin
    exact fin.elim
end
section
variable {X : Cx} {W : WX}
theorem PE.of {e : Expr} {t t' : TE} (h : PE X e t) (w : ∀ σ H Q, t' σ H Q → t σ H Q) : PE X e t' := ⟨fun pins s σ H Q I q => h.run pins s σ H Q I (w σ H Q q)⟩
theorem PT.of {e : Expr} {t t' : TT} (h : PT X e t) (w : ∀ σ H Q, t' σ H Q → t σ H Q) : PT X e t' := ⟨fun pins s σ H Q I q => h.run pins s σ H Q I (w σ H Q q)⟩
theorem PA.of {es : List Expr} {t t' : TA} (h : PA X es t) (w : ∀ σ H Q, t' σ H Q → t σ H Q) : PA X es t' := ⟨fun pos pins s σ H Q I q => h.run pos pins s σ H Q I (w σ H Q q)⟩
/-! ### names, constants -/
def sVar (i : Nat) : SE := fun e h => match e[i]? with
  | some (some d) => .ok d h
  | _ => .bad
def sC (d : D) : SE := fun _ h => .ok d h
theorem de_of_var {x : Expr} {i : Nat} (hx : PE X x (tVar i)) : DE X W x (sVar i) := PE.of hx fun σ H Q => by
  rintro ⟨P, F, m, e, h, S, E, fin⟩
  unfold sVar at fin
  cases q : e[i]? with
  | none => rw [q] at fin; exact fin.elim
  | some o =>
    cases o with
    | none => rw [q] at fin; exact fin.elim
    | some d =>
      rw [q] at fin
      obtain ⟨v, e1, r⟩ := E.at_ i d q
      exact ⟨v, e1, fin.ok S r⟩
theorem de_var (i : Nat) {x : Str} {pos : Pos} (hN : X.N[i]? = some x := by rfl) (hv : Vis X.env.scope x := by first | exact Or.inl rfl | exact Or.inr (Or.inl rfl) | exact Or.inr (Or.inr rfl)) (hd : (x == ("__debug__" : Str)) = false := by decide)
    (hcd : (x == ("__classdict__" : Str)) = false := by decide) : DE X W (.Name x pos) (sVar i) := de_of_var (pe_var hN hv hd hcd)
theorem de_of_const {x : Expr} {v : V} {d : D} (hx : PE X x (tC v)) (r : ∀ F m, Den X.K F m v d) : DE X W x (sC d) := PE.of hx fun σ H Q => by
  rintro ⟨P, F, m, e, h, S, E, fin⟩
  exact fin.ok S (r F m)
theorem de_int {i : Int} {j : Nat} {pos : Pos} : DE X W (.Constant (.int i) j pos) (sC (.int i)) := de_of_const pe_int fun _ _ => .int i
theorem de_bl {b : Bool} {j : Nat} {pos : Pos} : DE X W (.Constant (.bool b) j pos) (sC (.bl b)) := de_of_const pe_bl fun _ _ => .bl b
theorem de_non {j : Nat} {pos : Pos} : DE X W (.Constant .none j pos) (sC .non) := de_of_const pe_non fun _ _ => .non
theorem de_str {x : Str} {j : Nat} {pos : Pos} : DE X W (.Constant (.str x) j pos) (sC (.str x)) := de_of_const pe_str fun _ _ => .str x
theorem de_globI {x : Str} {i : Int} {pos : Pos} (hg : Gl X x) (hm : ∃ t, X.mg x = some (.int i t)) (hd : (x == ("__debug__" : Str)) = false := by decide) : DE X W (.Name x pos) (sC (.int i)) := by
  obtain ⟨t, e⟩ := hm
  exact de_of_const (pe_glob (v := .int i) hg e ⟨t, rfl⟩ hd) fun _ _ => .int i
theorem de_globS {x z : Str} {pos : Pos} (hg : Gl X x) (hm : ∃ t, X.mg x = some (.str z t)) (hd : (x == ("__debug__" : Str)) = false := by decide) : DE X W (.Name x pos) (sC (.str z)) := by
  obtain ⟨t, e⟩ := hm
  exact de_of_const (pe_glob (v := .str z) hg e ⟨t, rfl⟩ hd) fun _ _ => .str z
/-! ### two operands, one operand -/
def sBin (g : D → D → OH → Res D) (a b : SE) : SE := fun e h => (a e h).bind fun x h1 => (b e h1).bind fun y h2 => g x y h2
def sUn (g : D → OH → Res D) (a : SE) : SE := fun e h => (a e h).bind g
def OpH (K : PySem.W.Frag) (W : WX) (g : D → D → OH → Res D) (r : R2) : Prop :=
  ∀ (P : Pins) (F : Hp) (m : List Addr) (h : OH) (H : Hp) (σ : St) (Q : VK) (x y : V) (dx dy : D), Sim K P F m h H → Den K F m x dx → Den K F m y dy → FinG K P W σ (Den K) Q F m (g dx dy h) → r x y H Q
theorem rd_op {g : D → D → OH → Res D} {r : R2} (hg : OpH X.K W g r) {fa fb : SE} {σ : St} {H : Hp} {Q : VK} (q : rdG X.K W (Den X.K) (sBin g fa fb) σ H Q) : tOp r (rdG X.K W (Den X.K) fa) (rdG X.K W (Den X.K) fb) σ H Q := by
  obtain ⟨P, F, m, e, h, S, E, fin⟩ := q
  refine rd_seq S E fin fun F1 m1 h1 H1 x dx x1 S1 E1 r1 fin1 => ?_
  refine rd_seq S1 E1 fin1 fun F2 m2 h2 H2 y dy x2 S2 E2 r2 fin2 => ?_
  exact hg P F2 m2 h2 H2 σ Q x y dx dy S2 (r1.mono x2) r2 fin2
theorem de_op {a b : Expr} {op : Operator} {pos : Pos} {g : D → D → OH → Res D} {r : R2} {fa fb : SE} (ho : OpR X (binaryOp op) r) (hg : OpH X.K W g r) (ha : DE X W a fa) (hb : DE X W b fb) : DE X W (.BinOp a op b pos) (sBin g fa fb) :=
  PE.of (pe_op ho ha hb) fun _ _ _ => rd_op hg
theorem de_cmp {a b : Expr} {op : CmpOp} {pos : Pos} {g : D → D → OH → Res D} {r : R2} {fa fb : SE} (ho : OpR X (compareOp op) r) (hg : OpH X.K W g r) (hm : behindInMarks op b = false) (ha : DE X W a fa) (hb : DE X W b fb) : DE X W (.Compare a [op] [b] pos) (sBin g fa fb) :=
  PE.of (pe_cmpR ho ha hb hm) fun _ _ _ => rd_op hg
theorem de_un {a : Expr} {op : UnaryOp} {pos : Pos} {g : D → OH → Res D} {r : V → Hp → VK → Prop} {fa : SE} (ho : UnR X (unaryOp op) r)
    (hg : ∀ (P : Pins) (F : Hp) (m : List Addr) (h : OH) (H : Hp) (σ : St) (Q : VK) (x : V) (dx : D), Sim X.K P F m h H → Den X.K F m x dx → FinG X.K P W σ (Den X.K) Q F m (g dx h) → r x H Q) (ha : DE X W a fa) : DE X W (.UnaryOp op a pos) (sUn g fa) :=
  PE.of (pe_un ho ha) fun σ H Q => by
    rintro ⟨P, F, m, e, h, S, E, fin⟩
    exact rd_seq S E fin fun F1 m1 h1 H1 x dx x1 S1 E1 r1 fin1 => hg P F1 m1 h1 H1 σ Q x dx S1 r1 fin1
/-! ### what is read as a sequence -/
/-- lists that may be read by every rule -/
def lstAt (h : OH) : D → Option (List D)
  | .lst xs => some xs
  | .ref i => (match h[i]? with
    | some (.lst xs) => some xs
    | _ => none)
  | _ => none
def tupAt : D → Option (List D)
  | .tup xs => some xs
  | _ => none
def seqAt (h : OH) : D → Option (List D)
  | .lst xs => some xs
  | .tup xs => some xs
  | .scr xs => some xs
  | .ref i => (match h[i]? with
    | some (.lst xs) => some xs
    | _ => none)
  | _ => none
section
variable {K : PySem.W.Frag} {P : Pins} {F : Hp} {m : List Addr} {h : OH} {H : Hp} {v : V} {d : D} {xs : List D}
theorem Sim.own (S : Sim K P F m h H) {i : Nat} {a : Addr} (e : m[i]? = some a) : ∃ o, h[i]? = some o ∧ OOk K F m H a o := by
  have hi : i < h.length := by rw [← S.len]; exact (List.getElem?_eq_some_iff.mp e).1
  exact ⟨h[i], List.getElem?_eq_getElem hi, S.at_ i a _ e (List.getElem?_eq_getElem hi)⟩
theorem lstAt_ok (S : Sim K P F m h H) (r : Den K F m v d) (q : lstAt h d = some xs) : ∃ a vs, v = .ref a ∧ H a = some (.lst vs) ∧ DenL K F m vs xs := by
  cases r with
  | lst e t => cases q; exact ⟨_, _, rfl, S.sub _ _ e, t⟩
  | ref e =>
    obtain ⟨o, h1, h2⟩ := S.own e
    dsimp only [lstAt] at q
    rw [h1] at q
    cases o with
    | lst ys =>
      cases q
      obtain ⟨vs, k1, k2, _⟩ := h2
      exact ⟨_, vs, rfl, k1, k2⟩
    | _ => cases q
  | _ => cases q
theorem tupAt_ok (S : Sim K P F m h H) (r : Den K F m v d) (q : tupAt d = some xs) : ∃ a vs, v = .ref a ∧ SqT K H a vs ∧ DenL K F m vs xs := by
  cases r with
  | tup e t => cases q; exact ⟨_, _, rfl, Same.sqT S.sub e, t⟩
  | _ => cases q
theorem seqAt_ok (S : Sim K P F m h H) (r : Den K F m v d) (q : seqAt h d = some xs) : ∃ a vs, v = .ref a ∧ (SqL K H a vs ∨ SqT K H a vs) ∧ DenL K F m vs xs := by
  cases r with
  | lst e t => cases q; exact ⟨_, _, rfl, .inl (.inl (.inl (S.sub _ _ e))), t⟩
  | scr e t => cases q; exact ⟨_, _, rfl, .inl (S.sub.seq e), t⟩
  | tup e t => cases q; exact ⟨_, _, rfl, .inr (Same.sqT S.sub e), t⟩
  | ref e =>
    obtain ⟨o, h1, h2⟩ := S.own e
    dsimp only [seqAt] at q
    rw [h1] at q
    cases o with
    | lst ys =>
      cases q
      obtain ⟨vs, k1, k2, _⟩ := h2
      exact ⟨_, vs, rfl, .inl (.inl (.inl k1)), k2⟩
    | _ => cases q
  | _ => cases q
/-- lists alone -/
def lsqAt (h : OH) : D → Option (List D)
  | .tup _ => none
  | d => seqAt h d
theorem lsqAt_ok (S : Sim K P F m h H) (r : Den K F m v d) (q : lsqAt h d = some xs) : ∃ a vs, v = .ref a ∧ SqL K H a vs ∧ DenL K F m vs xs := by
  cases r with
  | lst e t => cases q; exact ⟨_, _, rfl, .inl (.inl (S.sub _ _ e)), t⟩
  | scr e t => cases q; exact ⟨_, _, rfl, S.sub.seq e, t⟩
  | ref e =>
    obtain ⟨a, vs, e1, e2, e3⟩ := lstAt_ok S (.ref e) (show lstAt h _ = some xs from q)
    exact ⟨a, vs, e1, .inl (.inl e2), e3⟩
  | _ => cases q
theorem FinG.bad_elim {α β : Type} {rel : Rel β α} {W : WX} {σ : St} {Q : β → Hp → Prop} {p : Prop} (q : FinG K P W σ rel Q F m (.bad : Res α)) : p := False.elim q
theorem den_int {i : Int} (r : Den K F m v (.int i)) : v = .int i := by cases r; rfl
theorem den_str {x : Str} (r : Den K F m v (.str x)) : v = .str x := by cases r; rfl
theorem den_bl {b : Bool} (r : Den K F m v (.bl b)) : v = .bl b := by cases r; rfl
end
/-- a new list -/
theorem FinG.newL {K : PySem.W.Frag} {P : Pins} {F : Hp} {m : List Addr} {h : OH} {H : Hp} {σ : St} {Q : VK} {vs : List V} {xs : List D} {p : Addr} (fin : FinG K P W σ (Den K) Q F m (.ok (.lst xs) h)) (S : Sim K P F m h H) (r : DenL K F m vs xs) (hp : H p = none) : Q (.ref p) (upd H p (.lst vs)) :=
  fin.okX (S.extF hp) (S.frozen hp) (.lst upd_same (r.mono (S.extF hp)))
theorem FinG.newT {K : PySem.W.Frag} {P : Pins} {F : Hp} {m : List Addr} {h : OH} {H : Hp} {σ : St} {Q : VK} {vs : List V} {xs : List D} {p : Addr} (fin : FinG K P W σ (Den K) Q F m (.ok (.tup xs) h)) (S : Sim K P F m h H) (r : DenL K F m vs xs) (hp : H p = none) : Q (.ref p) (upd H p (.tup vs)) :=
  fin.okX (S.extF hp) (S.frozen hp) (.tup (.inl (.inl upd_same)) (r.mono (S.extF hp)))
/-! ### arithmetic -/
def opI2 (f : Int → Int → D) (c : Int → Int → Bool) : D → D → OH → Res D
  | .int i, .int j, h => if c i j then .ok (f i j) h else .bad
  | _, _, _ => .bad
theorem opI2_h {f : Int → Int → D} {g : Int → Int → V} {c : Int → Int → Bool} {C : Int → Int → Prop} (hc : ∀ i j, c i j = true → C i j) (hf : ∀ (F : Hp) (m : List Addr) i j, Den X.K F m (g i j) (f i j)) : OpH X.K W (opI2 f c) (rI C g) := by
  intro P F m h H σ Q x y dx dy S r1 r2 fin
  cases r1 with
  | int i =>
    cases r2 with
    | int j =>
      dsimp only [opI2] at fin
      by_cases hh : c i j = true
      · rw [if_pos hh] at fin
        exact ⟨i, j, rfl, rfl, hc i j hh, fin.ok S (hf F m i j)⟩
      · rw [if_neg hh] at fin
        exact fin.bad_elim
    | _ => exact fin.bad_elim
  | _ => exact fin.bad_elim
theorem opI2_h0 {f : Int → Int → D} {g : Int → Int → V} (hf : ∀ (F : Hp) (m : List Addr) i j, Den X.K F m (g i j) (f i j)) : OpH X.K W (opI2 f fun _ _ => true) (rI0 g) := by
  intro P F m h H σ Q x y dx dy S r1 r2 fin
  obtain ⟨i, j, e1, e2, _, q⟩ := opI2_h (C := fun _ _ => True) (fun _ _ _ => trivial) hf P F m h H σ Q x y dx dy S r1 r2 fin
  exact ⟨i, j, e1, e2, q⟩
abbrev big : Nat := 1000000
/-- a + b -/
def opAdd : D → D → OH → Res D
  | .int i, .int j, h => .ok (.int (i + j)) h
  | .str x, .str y, h => if x.length + y.length ≤ big then .ok (.str (x ++ y)) h else .bad
  | .tup xs, .tup ys, h => if xs ≠ [] ∧ xs.length + ys.length ≤ big then .ok (.tup (xs ++ ys)) h else .bad
  | a, b, h => (match lstAt h a, lstAt h b with
    | some xs, some ys => if xs.length + ys.length ≤ big then .ok (.lst (xs ++ ys)) h else .bad
    | _, _ => .bad)
theorem big_line {n : Nat} (h : n ≤ big) : n ≤ sizeLine := Nat.le_trans h (by decide)
theorem big_lt {n : Nat} (h : n < big) : n < sizeLine := Nat.lt_of_lt_of_le h (by decide)
abbrev rAddU (K : PySem.W.Frag) : R2 := fun x y H Q => rI0 (fun i j => .int (i + j)) x y H Q ∨ ((∃ i j, x = .str i ∧ y = .str j ∧ i.length + j.length ≤ sizeLine ∧ Q (.str (i ++ j)) H) ∨ (rCat x y H Q ∨ rCatT K x y H Q))
theorem opAdd_h : OpH X.K W opAdd (rAddU X.K) := by
  intro P F m h H σ Q x y dx dy S r1 r2 fin
  have lists : ∀ {a b : D}, Den X.K F m x a → Den X.K F m y b → FinG X.K P W σ (Den X.K) Q F m (match lstAt h a, lstAt h b with
    | some xs, some ys => if xs.length + ys.length ≤ big then .ok (.lst (xs ++ ys)) h else .bad
    | _, _ => .bad) → rAddU X.K x y H Q := by
    intro a b q1 q2 fin
    cases e1 : lstAt h a with
    | none => rw [e1] at fin; exact fin.bad_elim
    | some xs =>
      cases e2 : lstAt h b with
      | none => rw [e1, e2] at fin; exact fin.bad_elim
      | some ys =>
        rw [e1, e2] at fin
        dsimp only at fin
        obtain ⟨l, vs, rfl, hl, rl⟩ := lstAt_ok S q1 e1
        obtain ⟨l2, ws, rfl, hl2, rl2⟩ := lstAt_ok S q2 e2
        by_cases hz : xs.length + ys.length ≤ big
        · rw [if_pos hz] at fin
          exact .inr (.inr (.inl ⟨l, l2, vs, ws, rfl, rfl, hl, hl2, by rw [rl.length, rl2.length]; exact big_line hz, fun p hp => fin.newL S (rl.append rl2) hp⟩))
        · rw [if_neg hz] at fin
          exact fin.bad_elim
  cases dx with
  | int i =>
    cases dy with
    | int j =>
      cases den_int r1
      cases den_int r2
      exact .inl ⟨i, j, rfl, rfl, fin.ok S (.int _)⟩
    | _ => exact lists r1 r2 fin
  | str a =>
    cases dy with
    | str b =>
      cases den_str r1
      cases den_str r2
      dsimp only [opAdd] at fin
      by_cases hz : a.length + b.length ≤ big
      · rw [if_pos hz] at fin
        exact .inr (.inl ⟨a, b, rfl, rfl, big_line hz, fin.ok S (.str _)⟩)
      · rw [if_neg hz] at fin
        exact fin.bad_elim
    | _ => exact lists r1 r2 fin
  | tup xs =>
    cases dy with
    | tup ys =>
      dsimp only [opAdd] at fin
      by_cases hz : xs ≠ [] ∧ xs.length + ys.length ≤ big
      · rw [if_pos hz] at fin
        obtain ⟨l, vs, rfl, hl, rl⟩ := tupAt_ok S r1 (rfl : tupAt (.tup xs) = some xs)
        obtain ⟨l2, ws, rfl, hl2, rl2⟩ := tupAt_ok S r2 (rfl : tupAt (.tup ys) = some ys)
        refine .inr (.inr (.inr ⟨l, l2, vs, ws, rfl, rfl, hl, hl2, fun z => hz.1 ?_, by rw [rl.length, rl2.length]; exact big_line hz.2, ?_⟩))
        · subst z
          cases rl
          rfl
        · refine ⟨fun z => ?_, fun _ p hp => fin.newT S (rl.append rl2) hp⟩
          subst z
          cases rl2
          rw [List.append_nil] at fin
          exact fin.ok S r1
      · rw [if_neg hz] at fin
        exact fin.bad_elim
    | _ => exact lists r1 r2 fin
  | _ => exact lists r1 r2 fin
theorem or_add : OpR X (binaryOp .Add) (rAddU X.K) := op_add.or (op_add_str.or (op_cat.or op_catT))
theorem de_add {a b : Expr} {pos : Pos} {fa fb : SE} (ha : DE X W a fa) (hb : DE X W b fb) : DE X W (.BinOp a .Add b pos) (sBin opAdd fa fb) := de_op or_add opAdd_h ha hb
abbrev opSub := opI2 (fun i j => .int (i - j)) fun _ _ => true
theorem de_sub {a b : Expr} {pos : Pos} {fa fb : SE} (ha : DE X W a fa) (hb : DE X W b fb) : DE X W (.BinOp a .Sub b pos) (sBin opSub fa fb) := de_op op_sub (opI2_h0 fun _ _ _ _ => .int _) ha hb
/-- a product: one side below 2^64, or both not too large -/
def mulOk (i j : Int) : Bool := decide (i.natAbs < 2 ^ 64) || decide (j.natAbs < 2 ^ 64) || decide (i.natAbs.log2 + j.natAbs.log2 < 1000000)
def opMul : D → D → OH → Res D
  | .int i, .int j, h => if mulOk i j then .ok (.int (i * j)) h else .bad
  | a, .int k, h => (match lstAt h a with
    | some xs => if -(2 ^ 63) ≤ k ∧ k < 2 ^ 63 ∧ xs.length * k.toNat ≤ big then .ok (.lst (List.replicate k.toNat xs).flatten) h else .bad
    | none => .bad)
  | _, _, _ => .bad
theorem mulOk_c {i j : Int} (h : mulOk i j = true) : CMul i j ∨ CMulW i j := by
  unfold mulOk at h
  simp only [Bool.or_eq_true, decide_eq_true_eq] at h
  rcases h with (h | h) | h
  · exact .inl (.inl (by constructor <;> omega))
  · exact .inl (.inr (by constructor <;> omega))
  · exact .inr h
abbrev rMulU : R2 := fun x y H Q => rI CMul (fun i j => .int (i * j)) x y H Q ∨ (rI CMulW (fun i j => .int (i * j)) x y H Q ∨ rRep x y H Q)
theorem opMul_h : OpH X.K W opMul rMulU := by
  intro P F m h H σ Q x y dx dy S r1 r2 fin
  have lists : ∀ {a : D} {k : Int}, Den X.K F m x a → y = .int k → FinG X.K P W σ (Den X.K) Q F m (match lstAt h a with
    | some xs => if -(2 ^ 63) ≤ k ∧ k < 2 ^ 63 ∧ xs.length * k.toNat ≤ big then .ok (.lst (List.replicate k.toNat xs).flatten) h else .bad
    | none => .bad) → rMulU x y H Q := by
    intro a k q1 ey fin
    cases e1 : lstAt h a with
    | none => rw [e1] at fin; exact fin.bad_elim
    | some xs =>
      rw [e1] at fin
      dsimp only at fin
      obtain ⟨l, vs, rfl, hl, rl⟩ := lstAt_ok S q1 e1
      by_cases hz : -(2 ^ 63) ≤ k ∧ k < 2 ^ 63 ∧ xs.length * k.toNat ≤ big
      · rw [if_pos hz] at fin
        exact .inr (.inr ⟨l, k, vs, rfl, ey, hl, hz.1, hz.2.1, by rw [rl.length]; exact big_line hz.2.2, fun p hp => fin.newL S (rl.rep _) hp⟩)
      · rw [if_neg hz] at fin
        exact fin.bad_elim
  cases dy with
  | int j =>
    cases den_int r2
    cases dx with
    | int i =>
      cases den_int r1
      dsimp only [opMul] at fin
      by_cases hm : mulOk i j = true
      · rw [if_pos hm] at fin
        rcases mulOk_c hm with c | c
        · exact .inl ⟨i, j, rfl, rfl, c, fin.ok S (.int _)⟩
        · exact .inr (.inl ⟨i, j, rfl, rfl, c, fin.ok S (.int _)⟩)
      · rw [if_neg hm] at fin
        exact fin.bad_elim
    | _ => exact lists r1 rfl fin
  | _ => cases dx <;> exact fin.bad_elim
theorem de_mul {a b : Expr} {pos : Pos} {fa fb : SE} (ha : DE X W a fa) (hb : DE X W b fb) : DE X W (.BinOp a .Mult b pos) (sBin opMul fa fb) := de_op (op_mul.or (op_mulW.or op_rep)) opMul_h ha hb
def divOk (_ j : Int) : Bool := decide (0 < j) && decide (j.natAbs.log2 < 9000)
abbrev opDiv := opI2 (fun i j => .int (i / j)) divOk
abbrev opMod := opI2 (fun i j => .int (i % j)) fun _ j => decide (0 < j)
theorem de_div {a b : Expr} {pos : Pos} {fa fb : SE} (ha : DE X W a fa) (hb : DE X W b fb) : DE X W (.BinOp a .FloorDiv b pos) (sBin opDiv fa fb) :=
  de_op op_fdivW (opI2_h (fun i j h => by
    unfold divOk at h
    simp only [Bool.and_eq_true, decide_eq_true_eq] at h
    exact h) fun _ _ _ _ => .int _) ha hb
theorem de_mod {a b : Expr} {pos : Pos} {fa fb : SE} (ha : DE X W a fa) (hb : DE X W b fb) : DE X W (.BinOp a .Mod b pos) (sBin opMod fa fb) := de_op op_mod (opI2_h (fun i j h => of_decide_eq_true h) fun _ _ _ _ => .int _) ha hb
abbrev opPow := opI2 (fun i j => .int (i ^ j.toNat)) fun i j => decide (0 ≤ j) && decide (j ≤ 1000000) && decide (i.natAbs < 2 ^ 64)
theorem de_pow {a b : Expr} {pos : Pos} {fa fb : SE} (ha : DE X W a fa) (hb : DE X W b fb) : DE X W (.BinOp a .Pow b pos) (sBin opPow fa fb) :=
  de_op op_pow (opI2_h (fun i j h => by
    simp only [Bool.and_eq_true, decide_eq_true_eq] at h
    exact ⟨h.1.1, h.1.2, h.2⟩) fun _ _ _ _ => .int _) ha hb
def opNeg : D → OH → Res D
  | .int i, h => .ok (.int (-i)) h
  | _, _ => .bad
theorem de_neg {a : Expr} {pos : Pos} {fa : SE} (ha : DE X W a fa) : DE X W (.UnaryOp .USub a pos) (sUn opNeg fa) := de_un un_neg (fun P F m h H σ Q x dx S r fin => by
  cases r with
  | int i => exact ⟨i, rfl, fin.ok S (.int _)⟩
  | _ => exact fin.bad_elim) ha
/-! ### order -/
abbrev opLt := opI2 (fun i j => .bl (decide (i < j))) fun _ _ => true
abbrev opLe := opI2 (fun i j => .bl (decide (i ≤ j))) fun _ _ => true
abbrev opGt := opI2 (fun i j => .bl (decide (j < i))) fun _ _ => true
abbrev opGe := opI2 (fun i j => .bl (decide (j ≤ i))) fun _ _ => true
theorem de_le {a b : Expr} {pos : Pos} {fa fb : SE} (ha : DE X W a fa) (hb : DE X W b fb) : DE X W (.Compare a [.LtE] [b] pos) (sBin opLe fa fb) := de_cmp op_le (opI2_h0 fun _ _ _ _ => .bl _) (nomark _) ha hb
theorem de_ge {a b : Expr} {pos : Pos} {fa fb : SE} (ha : DE X W a fa) (hb : DE X W b fb) : DE X W (.Compare a [.GtE] [b] pos) (sBin opGe fa fb) := de_cmp op_ge (opI2_h0 fun _ _ _ _ => .bl _) (nomark _) ha hb
/-- a op b op' c -/
def sChain (g g' : D → D → OH → Res D) (a b c : SE) : SE := fun e h => (a e h).bind fun x h1 => (b e h1).bind fun y h2 => (g x y h2).bind fun z h3 => match z with
  | .bl true => (c e h3).bind fun u h4 => g' y u h4
  | .bl false => .ok (.bl false) h3
  | _ => .bad
/-! ### is None, is a bool -/
def opIs (neg : Bool) : D → D → OH → Res D
  | a, .non, h => .ok (.bl (match a with
    | .non => !neg
    | _ => neg)) h
  | _, _, _ => .bad
theorem den_is {K : PySem.W.Frag} {F : Hp} {m : List Addr} {v : V} {d : D} (r : Den K F m v d) : decide (v = .non) = (match d with
    | .non => true
    | _ => false) := by
  cases r <;> simp
theorem opIs_h : OpH X.K W (opIs false) (fun x y H Q => y = .non ∧ Q (.bl (decide (x = .non))) H) := by
  intro P F m h H σ Q x y dx dy S r1 r2 fin
  cases r2 with
  | non =>
    refine ⟨rfl, ?_⟩
    rw [den_is r1]
    cases dx <;> exact FinG.ok fin S (.bl _)
  | _ => cases dx <;> exact fin.bad_elim
theorem de_is {a b : Expr} {pos : Pos} {fa fb : SE} (ha : DE X W a fa) (hb : DE X W b fb) : DE X W (.Compare a [.Is] [b] pos) (sBin (opIs false) fa fb) := de_cmp op_isN opIs_h (nomark _) ha hb
/-! ### arguments, displays -/
def sNil : SA := fun _ h => .ok [] h
def sCons (a : SE) (r : SA) : SA := fun e h => (a e h).bind fun x h1 => (r e h1).bind fun xs h2 => .ok (x :: xs) h2
theorem da_nil : DA X W [] sNil := PA.of pa_nil fun σ H Q => by
  rintro ⟨P, F, m, e, h, S, E, fin⟩
  exact fin.ok S .nil
theorem da_cons {a : Expr} {es : List Expr} {fa : SE} {fr : SA} (ha : DE X W a fa) (hr : DA X W es fr) (hs : starEach (a :: es) X.env = (false, eval a X.env) :: starEach es X.env := by rfl) : DA X W (a :: es) (sCons fa fr) :=
  PA.of (pa_cons ha hr hs) fun σ H Q => by
    rintro ⟨P, F, m, e, h, S, E, fin⟩
    refine rd_seq S E fin fun F1 m1 h1 H1 x dx x1 S1 E1 r1 fin1 => ?_
    refine rd_seq S1 E1 fin1 fun F2 m2 h2 H2 y dy x2 S2 E2 r2 fin2 => ?_
    exact fin2.ok S2 (.cons (r1.mono x2) r2)
def sTup (a : SA) : SE := fun e h => (a e h).bind fun xs h1 => if xs.length ≤ big then .ok (.tup xs) h1 else .bad
def sLst (a : SA) : SE := fun e h => (a e h).bind fun xs h1 => if xs.length ≤ big then .ok (.lst xs) h1 else .bad
/-- .. as an own object -/
def sLstO (a : SA) : SE := fun e h => (a e h).bind fun xs h1 => if xs.length ≤ big then .ok (.ref h1.length) (h1 ++ [.lst xs]) else .bad
theorem de_tup {es : List Expr} {j : Nat} {pos : Pos} {fa : SA} (ha : DA X W es fa) : DE X W (.Tuple es j pos) (sTup fa) := PE.of (pe_tup ha) fun σ H Q => by
  rintro ⟨P, F, m, e, h, S, E, fin⟩
  refine rd_seq S E fin fun F1 m1 h1 H1 x dx x1 S1 E1 r1 fin1 => ?_
  by_cases hz : dx.length ≤ big
  · rw [if_pos hz] at fin1
    exact ⟨by rw [r1.length]; exact big_line hz, fun p hp => fin1.newT S1 r1 hp⟩
  · rw [if_neg hz] at fin1
    exact fin1.bad_elim
theorem de_lst {es : List Expr} {pos : Pos} {fa : SA} (ha : DA X W es fa) : DE X W (.List es pos) (sLst fa) := PE.of (pe_lst ha) fun σ H Q => by
  rintro ⟨P, F, m, e, h, S, E, fin⟩
  refine rd_seq S E fin fun F1 m1 h1 H1 x dx x1 S1 E1 r1 fin1 => ?_
  by_cases hz : dx.length ≤ big
  · rw [if_pos hz] at fin1
    exact ⟨by rw [r1.length]; exact big_line hz, fun p hp => fin1.newL S1 r1 hp⟩
  · rw [if_neg hz] at fin1
    exact fin1.bad_elim
/-- a new own list -/
theorem FinG.ownL {K : PySem.W.Frag} {P : Pins} {F : Hp} {m : List Addr} {h : OH} {H : Hp} {σ : St} {Q : VK} {vs : List V} {xs : List D} {p : Addr} (fin : FinG K P W σ (Den K) Q F m (.ok (.ref h.length) (h ++ [.lst xs]))) (S : Sim K P F m h H) (r : DenL K F m vs xs) (hp : H p = none) : Q (.ref p) (upd H p (.lst vs)) :=
  fin.okX ext_new (S.alloc hp ⟨vs, upd_same, r.mono ext_new, S.free hp⟩) (.ref (by rw [← S.len]; simp))
theorem de_lstO {es : List Expr} {pos : Pos} {fa : SA} (ha : DA X W es fa) : DE X W (.List es pos) (sLstO fa) := PE.of (pe_lst ha) fun σ H Q => by
  rintro ⟨P, F, m, e, h, S, E, fin⟩
  refine rd_seq S E fin fun F1 m1 h1 H1 x dx x1 S1 E1 r1 fin1 => ?_
  by_cases hz : dx.length ≤ big
  · rw [if_pos hz] at fin1
    exact ⟨by rw [r1.length]; exact big_line hz, fun p hp => fin1.ownL S1 r1 hp⟩
  · rw [if_neg hz] at fin1
    exact fin1.bad_elim
end
end HR
set_option Elab.async false
set_option linter.all false
set_option maxRecDepth 100000
set_option maxHeartbeats 2000000
/-! LayC: tests, equality, subscripts, slices, calls of built-ins, attributes, methods of lists. -/
namespace HR
open PySem L2
/-! ### data as a whole -/
mutual
def pyG (get : Nat → Option (List PyData)) : D → Option PyData
  | .non => some .none
  | .bl b => some (.bool b)
  | .int i => some (.int i)
  | .str x => some (.str x)
  | .lst xs => (pyGL get xs).map .list
  | .scr xs => (pyGL get xs).map .list
  | .tup xs => (pyGL get xs).map .tuple
  | .ref i => (get i).map .list
  | .dct _ => none
  | .obj _ _ => none
  | .exc _ => none
  | .excf _ _ _ => none
def pyGL (get : Nat → Option (List PyData)) : List D → Option (List PyData)
  | [] => some []
  | x :: xs => match pyG get x, pyGL get xs with
    | some d, some ds => some (d :: ds)
    | _, _ => none
end
def pyGet (h : OH) : Nat → Nat → Option (List PyData)
  | 0, _ => none
  | n + 1, i => match h[i]? with
    | some (.lst xs) => pyGL (pyGet h n) xs
    | _ => none
/-- what a value is to == and repr -/
def pyAt (h : OH) (d : D) : Option PyData := pyG (pyGet h 4) d
section
variable {K : PySem.W.Frag} {P : Pins} {F : Hp} {m : List Addr} {h : OH} {H : Hp}
theorem dp_of (S : Sim K P F m h H) {get : Nat → Option (List PyData)} (hg : ∀ i a ds, m[i]? = some a → get i = some ds → ∃ vs, H a = some (.lst vs) ∧ DpAll K H vs ds) {v : V} {d : D} (r : Den K F m v d) : ∀ p, pyG get d = some p → Dp K H v p :=
  Den.rec (motive_1 := fun v d _ => ∀ p, pyG get d = some p → Dp K H v p) (motive_2 := fun vs ds _ => ∀ ps, pyGL get ds = some ps → DpAll K H vs ps) (motive_3 := fun _ _ _ => True) (motive_4 := fun _ _ _ => True)
    (fun p e => by simp only [pyG, Option.some.injEq] at e; subst e; exact .non) (fun b p e => by simp only [pyG, Option.some.injEq] at e; subst e; exact .bl b)
    (fun i p e => by simp only [pyG, Option.some.injEq] at e; subst e; exact .int i) (fun x p e => by simp only [pyG, Option.some.injEq] at e; subst e; exact .str x)
    (fun q _ ih p e => by
      simp only [pyG, Option.map_eq_some_iff] at e
      obtain ⟨ps, e1, e2⟩ := e
      subst e2
      exact .lst (.inl (.inl (S.sub _ _ q))) (ih ps e1))
    (fun q _ ih p e => by
      simp only [pyG, Option.map_eq_some_iff] at e
      obtain ⟨ps, e1, e2⟩ := e
      subst e2
      exact .lst (S.sub.seq q) (ih ps e1))
    (fun q _ ih p e => by
      simp only [pyG, Option.map_eq_some_iff] at e
      obtain ⟨ps, e1, e2⟩ := e
      subst e2
      exact .tup (Same.sqT S.sub q) (ih ps e1))
    (fun _ _ _ p e => by simp only [pyG] at e; cases e) (fun _ _ _ _ p e => by simp only [pyG] at e; cases e)
    (fun {a i} q p e => by
      simp only [pyG, Option.map_eq_some_iff] at e
      obtain ⟨ps, e1, e2⟩ := e
      subst e2
      obtain ⟨vs, k1, k2⟩ := hg i a ps q e1
      exact .lst (.inl (.inl k1)) k2)
    (fun _ p e => by simp only [pyG] at e; cases e) (fun _ _ _ _ p e => by simp only [pyG] at e; cases e)
    (fun ps e => by simp only [pyGL, Option.some.injEq] at e; subst e; exact .nil)
    (fun {v d vs ds} _ _ ih1 ih2 ps e => by
      simp only [pyGL] at e
      cases e1 : pyG get d with
      | none => rw [e1] at e; simp at e
      | some p =>
        cases e2 : pyGL get ds with
        | none => rw [e1, e2] at e; simp at e
        | some qs =>
          rw [e1, e2] at e
          simp only [Option.some.injEq] at e
          subst e
          exact .cons (ih1 p e1) (ih2 qs e2))
    trivial (fun _ _ _ _ => trivial) trivial (fun _ _ _ _ => trivial) r
theorem dpL_of (S : Sim K P F m h H) {get : Nat → Option (List PyData)} (hg : ∀ i a ds, m[i]? = some a → get i = some ds → ∃ vs, H a = some (.lst vs) ∧ DpAll K H vs ds) : ∀ {vs : List V} {ds : List D}, DenL K F m vs ds → ∀ ps, pyGL get ds = some ps → DpAll K H vs ps
  | _, _, .nil, ps, e => by simp only [pyGL, Option.some.injEq] at e; subst e; exact .nil
  | _, d :: ds, .cons a b, ps, e => by
    simp only [pyGL] at e
    cases e1 : pyG get d with
    | none => rw [e1] at e; simp at e
    | some p =>
      cases e2 : pyGL get ds with
      | none => rw [e1, e2] at e; simp at e
      | some qs =>
        rw [e1, e2] at e
        simp only [Option.some.injEq] at e
        subst e
        exact .cons (dp_of S hg a p e1) (dpL_of S hg b qs e2)
theorem pyGet_ok (S : Sim K P F m h H) : ∀ n i a ds, m[i]? = some a → pyGet h n i = some ds → ∃ vs, H a = some (.lst vs) ∧ DpAll K H vs ds
  | 0, _, _, _, _, e => by simp [pyGet] at e
  | n + 1, i, a, ds, e1, e => by
    obtain ⟨o, h1, h2⟩ := S.own e1
    simp only [pyGet, h1] at e
    cases o with
    | lst xs =>
      obtain ⟨vs, k1, k2, _⟩ := h2
      exact ⟨vs, k1, dpL_of S (fun j b es q1 q2 => pyGet_ok S n j b es q1 q2) k2 ds e⟩
    | _ => cases e
theorem pyAt_ok (S : Sim K P F m h H) {v : V} {d : D} {p : PyData} (r : Den K F m v d) (e : pyAt h d = some p) : Dp K H v p := dp_of S (fun i a ds q1 q2 => pyGet_ok S 4 i a ds q1 q2) r p e
end
@[simp] theorem pyAt_int {h : OH} {i : Int} : pyAt h (.int i) = some (.int i) := by simp [pyAt, pyG]
@[simp] theorem pyAt_bl {h : OH} {b : Bool} : pyAt h (.bl b) = some (.bool b) := by simp [pyAt, pyG]
@[simp] theorem pyAt_str {h : OH} {x : Str} : pyAt h (.str x) = some (.str x) := by simp [pyAt, pyG]
@[simp] theorem pyAt_non {h : OH} : pyAt h .non = some .none := by simp [pyAt, pyG]
section
variable {X : Cx} {W : WX}
def opEq (neg : Bool) : D → D → OH → Res D := fun a b h => match pyAt h a, pyAt h b with
  | some p, some q => if SeqAt.shaped p && SeqAt.shaped q then .ok (.bl (if neg then !PyData.eqv p q else PyData.eqv p q)) h else .bad
  | _, _ => .bad
theorem opEq_h (neg : Bool) : OpH X.K W (opEq neg) (if neg then rNeD X.K else rEqD X.K) := by
  intro P F m h H σ Q x y dx dy S r1 r2 fin
  dsimp only [opEq] at fin
  cases e1 : pyAt h dx with
  | none => rw [e1] at fin; exact fin.bad_elim
  | some p =>
    cases e2 : pyAt h dy with
    | none => rw [e1, e2] at fin; exact fin.bad_elim
    | some q =>
      rw [e1, e2] at fin
      dsimp only at fin
      by_cases hs : (SeqAt.shaped p && SeqAt.shaped q) = true
      · rw [if_pos hs] at fin
        obtain ⟨s1, s2⟩ := and2 hs
        cases neg with
        | true => exact ⟨p, q, pyAt_ok S r1 e1, pyAt_ok S r2 e2, s1, s2, fin.ok S (.bl _)⟩
        | false => exact ⟨p, q, pyAt_ok S r1 e1, pyAt_ok S r2 e2, s1, s2, fin.ok S (.bl _)⟩
      · rw [if_neg hs] at fin
        exact fin.bad_elim
theorem de_eq {a b : Expr} {pos : Pos} {fa fb : SE} (hu : X.A.units + 64 < cLine) (ha : DE X W a fa) (hb : DE X W b fb) : DE X W (.Compare a [.Eq] [b] pos) (sBin (opEq false) fa fb) := de_cmp (op_eqD hu) (opEq_h false) (nomark _) ha hb
theorem de_ne {a b : Expr} {pos : Pos} {fa fb : SE} (hu : X.A.units + 64 < cLine) (ha : DE X W a fa) (hb : DE X W b fb) : DE X W (.Compare a [.NotEq] [b] pos) (sBin (opEq true) fa fb) := de_cmp (op_neD hu) (opEq_h true) (nomark _) ha hb
/-! ### in -/
end
/-! ### tests -/
def sTest (f : SE) : ST := fun e h => (f e h).bind fun d h1 => match d with
  | .bl b => .ok b h1
  | _ => .bad
def sAnd (a b : ST) : ST := fun e h => (a e h).bind fun c h1 => if c then b e h1 else .ok false h1
def sOr (a b : ST) : ST := fun e h => (a e h).bind fun c h1 => if c then .ok true h1 else b e h1
def sNot (a : ST) : ST := fun e h => (a e h).bind fun c h1 => .ok (!c) h1
/-- a test as a value -/
def sVal (a : ST) : SE := fun e h => (a e h).bind fun c h1 => .ok (.bl c) h1
def sIf (c : ST) (a b : SE) : SE := fun e h => (c e h).bind fun t h1 => if t then a e h1 else b e h1
section
variable {X : Cx} {W : WX}
theorem rd_test {f : SE} {σ : St} {H : Hp} {Q : Bool → Hp → Prop} (q : rdG X.K W relB (sTest f) σ H Q) : tTest (rdG X.K W (Den X.K) f) σ H Q := by
  obtain ⟨P, F, m, e, h, S, E, fin⟩ := q
  refine rd_seq S E fin fun F1 m1 h1 H1 x dx x1 S1 E1 r1 fin1 => ?_
  cases r1 with
  | bl b => exact ⟨b, rfl, fin1.ok S1 rfl⟩
  | _ => exact fin1.bad_elim
/-- a call, a name, an attribute, an item as a test -/
theorem dt_val {a : Expr} {f : SE} (ha : DE X W a f) (he : ∀ whole, isTrue a X.env whole = (do let v ← whole; standAt a.pos; holding [v] (truthy v)) := by intro _; rfl) : DT X W a (sTest f) := PT.of (pt_val ha he) fun _ _ _ => rd_test
theorem dt_cmp {a b : Expr} {op : CmpOp} {pos : Pos} {g : D → D → OH → Res D} {r : R2} {fa fb : SE} (ho : OpR X (compareOp op) r) (hg : OpH X.K W g r) (hm : behindInMarks op b = false) (ha : DE X W a fa) (hb : DE X W b fb) : DT X W (.Compare a [op] [b] pos) (sTest (sBin g fa fb)) :=
  PT.of (pt_cmpR ho ha hb hm) fun σ H Q q => by
    obtain ⟨P, F, m, e, h, S, E, fin⟩ := q
    have key : rdG X.K W (Den X.K) (sBin g fa fb) σ H (fun x H' => ∃ k, x = .bl k ∧ Q k H') := rd_test ⟨P, F, m, e, h, S, E, fin⟩
    exact rd_op hg key
theorem dt_eq {a b : Expr} {pos : Pos} {fa fb : SE} (hu : X.A.units + 64 < cLine) (ha : DE X W a fa) (hb : DE X W b fb) : DT X W (.Compare a [.Eq] [b] pos) (sTest (sBin (opEq false) fa fb)) := dt_cmp (op_eqD hu) (opEq_h false) (nomark _) ha hb
theorem dt_ne {a b : Expr} {pos : Pos} {fa fb : SE} (hu : X.A.units + 64 < cLine) (ha : DE X W a fa) (hb : DE X W b fb) : DT X W (.Compare a [.NotEq] [b] pos) (sTest (sBin (opEq true) fa fb)) := dt_cmp (op_neD hu) (opEq_h true) (nomark _) ha hb
theorem dt_lt {a b : Expr} {pos : Pos} {fa fb : SE} (ha : DE X W a fa) (hb : DE X W b fb) : DT X W (.Compare a [.Lt] [b] pos) (sTest (sBin opLt fa fb)) := dt_cmp op_lt (opI2_h0 fun _ _ _ _ => .bl _) (nomark _) ha hb
theorem dt_le {a b : Expr} {pos : Pos} {fa fb : SE} (ha : DE X W a fa) (hb : DE X W b fb) : DT X W (.Compare a [.LtE] [b] pos) (sTest (sBin opLe fa fb)) := dt_cmp op_le (opI2_h0 fun _ _ _ _ => .bl _) (nomark _) ha hb
theorem dt_gt {a b : Expr} {pos : Pos} {fa fb : SE} (ha : DE X W a fa) (hb : DE X W b fb) : DT X W (.Compare a [.Gt] [b] pos) (sTest (sBin opGt fa fb)) := dt_cmp op_gt (opI2_h0 fun _ _ _ _ => .bl _) (nomark _) ha hb
theorem dt_is {a b : Expr} {pos : Pos} {fa fb : SE} (ha : DE X W a fa) (hb : DE X W b fb) : DT X W (.Compare a [.Is] [b] pos) (sTest (sBin (opIs false) fa fb)) := dt_cmp op_isN opIs_h (nomark _) ha hb
theorem DW.dt {a : Expr} {f : ST} (h : DW X W a f) : DT X W a f := PW.pt h
theorem PW.of {e : Expr} {t t' : TT} (h : PW X e t) (w : ∀ σ H Q, t' σ H Q → t σ H Q) : PW X e t' := ⟨fun wh pins s σ H Q I q => h.run wh pins s σ H Q I (w σ H Q q)⟩
theorem dw_and1 {a : Expr} {f : ST} {pos : Pos} (ha : DT X W a f) : DW X W (.BoolOp .And [a] pos) f := pw_and1 ha
theorem dw_or1 {a : Expr} {f : ST} {pos : Pos} (ha : DT X W a f) : DW X W (.BoolOp .Or [a] pos) f := pw_or1 ha
theorem dw_and {a b : Expr} {rest : List Expr} {f g : ST} {pos : Pos} (ha : DT X W a f) (hb : DW X W (.BoolOp .And (b :: rest) pos) g) : DW X W (.BoolOp .And (a :: b :: rest) pos) (sAnd f g) := PW.of (pw_and ha hb) fun σ H Q => by
  rintro ⟨P, F, m, e, h, S, E, fin⟩
  refine rd_seq S E fin fun F1 m1 h1 H1 x dx x1 S1 E1 r1 fin1 => ?_
  have r1 : x = dx := r1
  subst r1
  cases x with
  | true => exact ⟨P, F1, m1, e, h1, S1, E1, fin1⟩
  | false => exact fin1.ok S1 rfl
theorem dw_or {a b : Expr} {rest : List Expr} {f g : ST} {pos : Pos} (ha : DT X W a f) (hb : DW X W (.BoolOp .Or (b :: rest) pos) g) : DW X W (.BoolOp .Or (a :: b :: rest) pos) (sOr f g) := PW.of (pw_or ha hb) fun σ H Q => by
  rintro ⟨P, F, m, e, h, S, E, fin⟩
  refine rd_seq S E fin fun F1 m1 h1 H1 x dx x1 S1 E1 r1 fin1 => ?_
  have r1 : x = dx := r1
  subst r1
  cases x with
  | true => exact fin1.ok S1 rfl
  | false => exact ⟨P, F1, m1, e, h1, S1, E1, fin1⟩
theorem dt_not {a : Expr} {f : ST} {pos : Pos} (ha : DT X W a f) : DT X W (.UnaryOp .Not a pos) (sNot f) := PT.of (pt_not ha) fun σ H Q => by
  rintro ⟨P, F, m, e, h, S, E, fin⟩
  refine rd_seq S E fin fun F1 m1 h1 H1 x dx x1 S1 E1 r1 fin1 => ?_
  have r1 : x = dx := r1
  subst r1
  exact fin1.ok S1 rfl
/-- and, or, not as values -/
theorem de_one {a : Expr} {op : BoolOp} {f : SE} {pos : Pos} (ha : DE X W a f) : DE X W (.BoolOp op [a] pos) f := pe_one ha
def sAndV (a b : SE) : SE := fun e h => (a e h).bind fun d h1 => match d with
  | .bl true => b e h1
  | .bl false => .ok (.bl false) h1
  | _ => .bad
def sOrV (a b : SE) : SE := fun e h => (a e h).bind fun d h1 => match d with
  | .bl true => .ok (.bl true) h1
  | .bl false => b e h1
  | _ => .bad
def sNotV (a : SE) : SE := fun e h => (a e h).bind fun d h1 => match d with
  | .bl b => .ok (.bl (!b)) h1
  | _ => .bad
theorem de_and {a b : Expr} {rest : List Expr} {f g : SE} {pos : Pos} (ha : DE X W a f) (hb : DE X W (.BoolOp .And (b :: rest) pos) g) : DE X W (.BoolOp .And (a :: b :: rest) pos) (sAndV f g) := PE.of (pe_and ha hb) fun σ H Q => by
  rintro ⟨P, F, m, e, h, S, E, fin⟩
  refine rd_seq S E fin fun F1 m1 h1 H1 x dx x1 S1 E1 r1 fin1 => ?_
  cases r1 with
  | bl b =>
    cases b with
    | true => exact ⟨true, rfl, P, F1, m1, e, h1, S1, E1, fin1⟩
    | false => exact ⟨false, rfl, fin1.ok S1 (.bl _)⟩
  | _ => exact fin1.bad_elim
theorem de_or {a b : Expr} {rest : List Expr} {f g : SE} {pos : Pos} (ha : DE X W a f) (hb : DE X W (.BoolOp .Or (b :: rest) pos) g) : DE X W (.BoolOp .Or (a :: b :: rest) pos) (sOrV f g) := PE.of (pe_or ha hb) fun σ H Q => by
  rintro ⟨P, F, m, e, h, S, E, fin⟩
  refine rd_seq S E fin fun F1 m1 h1 H1 x dx x1 S1 E1 r1 fin1 => ?_
  cases r1 with
  | bl b =>
    cases b with
    | true => exact ⟨true, rfl, fin1.ok S1 (.bl _)⟩
    | false => exact ⟨false, rfl, P, F1, m1, e, h1, S1, E1, fin1⟩
  | _ => exact fin1.bad_elim
theorem de_not {a : Expr} {f : SE} {pos : Pos} (ha : DE X W a f) : DE X W (.UnaryOp .Not a pos) (sNotV f) := PE.of (pe_not ha) fun σ H Q => by
  rintro ⟨P, F, m, e, h, S, E, fin⟩
  refine rd_seq S E fin fun F1 m1 h1 H1 x dx x1 S1 E1 r1 fin1 => ?_
  cases r1 with
  | bl b => exact ⟨b, rfl, fin1.ok S1 (.bl _)⟩
  | _ => exact fin1.bad_elim
theorem de_if {c a b : Expr} {fc : ST} {fa fb : SE} {pos : Pos} (hc : DT X W c fc) (ha : DE X W a fa) (hb : DE X W b fb) : DE X W (.IfExp c a b pos) (sIf fc fa fb) := PE.of (pe_ifExp hc ha hb) fun σ H Q => by
  rintro ⟨P, F, m, e, h, S, E, fin⟩
  refine rd_seq S E fin fun F1 m1 h1 H1 x dx x1 S1 E1 r1 fin1 => ?_
  have r1 : x = dx := r1
  subst r1
  cases x with
  | true => exact ⟨P, F1, m1, e, h1, S1, E1, fin1⟩
  | false => exact ⟨P, F1, m1, e, h1, S1, E1, fin1⟩
theorem rd_chain {g g' : D → D → OH → Res D} {r r' : R2} (hg : OpH X.K W g r) (hg' : OpH X.K W g' r') {fa fb fc : SE} {σ : St} {H : Hp} {Q : VK} (q : rdG X.K W (Den X.K) (sChain g g' fa fb fc) σ H Q) :
    tChain r r' (rdG X.K W (Den X.K) fa) (rdG X.K W (Den X.K) fb) (rdG X.K W (Den X.K) fc) σ H Q := by
  obtain ⟨P, F, m, e, h, S, E, fin⟩ := q
  refine rd_seq S E fin fun F1 m1 h1 H1 x dx x1 S1 E1 r1 fin1 => ?_
  refine rd_seq S1 E1 fin1 fun F2 m2 h2 H2 y dy x2 S2 E2 r2 fin2 => ?_
  refine hg P F2 m2 h2 H2 σ _ x y dx dy S2 (r1.mono x2) r2 ?_
  cases q : g dx dy h2 with
  | bad => rw [q] at fin2; exact fin2
  | exc C p h3 => rw [q] at fin2; exact fin2
  | ok z h3 =>
    rw [q] at fin2
    intro v F3 m3 H3 x3 S3 r3
    cases r3 with
    | bl b =>
      refine ⟨b, rfl, ?_⟩
      cases b with
      | true =>
        rw [if_pos rfl]
        refine rd_seq S3 ((E2.mono x3)) (FinG.weak x3 fin2) fun F4 m4 h4 H4 u du x4 S4 E4 r4 fin4 => ?_
        exact hg' P F4 m4 h4 H4 σ Q y u dy du S4 (r2.mono (x3.trans x4)) r4 fin4
      | false =>
        rw [if_neg Bool.false_ne_true]
        exact FinG.okX fin2 x3 S3 (.bl _)
    | _ => exact FinG.bad_elim fin2
theorem de_chain {a b c : Expr} {op op' : CmpOp} {pos : Pos} {g g' : D → D → OH → Res D} {r r' : R2} {fa fb fc : SE} (ho : OpR X (compareOp op) r) (ho' : OpR X (compareOp op') r') (hg : OpH X.K W g r) (hg' : OpH X.K W g' r') (ha : DE X W a fa) (hb : DE X W b fb) (hc : DE X W c fc)
    (hm : lastMarks [op, op'] [b, c] = false := by with_unfolding_all rfl) : DE X W (.Compare a [op, op'] [b, c] pos) (sChain g g' fa fb fc) := PE.of (pe_chain ho ho' ha hb hc hm) fun _ _ _ => rd_chain hg hg'
theorem dt_chain {a b c : Expr} {op op' : CmpOp} {pos : Pos} {g g' : D → D → OH → Res D} {r r' : R2} {fa fb fc : SE} (ho : OpR X (compareOp op) r) (ho' : OpR X (compareOp op') r') (hg : OpH X.K W g r) (hg' : OpH X.K W g' r') (ha : DE X W a fa) (hb : DE X W b fb) (hc : DE X W c fc)
    (hm : lastMarks [op, op'] [b, c] = false := by with_unfolding_all rfl) : DT X W (.Compare a [op, op'] [b, c] pos) (sTest (sChain g g' fa fb fc)) := PT.of (pt_chain ho ho' ha hb hc hm) fun σ H Q q => by
  have key : rdG X.K W (Den X.K) (sChain g g' fa fb fc) σ H (fun x H' => ∃ k, x = .bl k ∧ Q k H') := rd_test q
  exact rd_chain hg hg' key
theorem de_lele {a b c : Expr} {pos : Pos} {fa fb fc : SE} (ha : DE X W a fa) (hb : DE X W b fb) (hc : DE X W c fc) (hm : lastMarks [.LtE, .LtE] [b, c] = false := by with_unfolding_all rfl) : DE X W (.Compare a [.LtE, .LtE] [b, c] pos) (sChain opLe opLe fa fb fc) :=
  de_chain op_le op_le (opI2_h0 fun _ _ _ _ => .bl _) (opI2_h0 fun _ _ _ _ => .bl _) ha hb hc hm
theorem dt_lele {a b c : Expr} {pos : Pos} {fa fb fc : SE} (ha : DE X W a fa) (hb : DE X W b fb) (hc : DE X W c fc) (hm : lastMarks [.LtE, .LtE] [b, c] = false := by with_unfolding_all rfl) : DT X W (.Compare a [.LtE, .LtE] [b, c] pos) (sTest (sChain opLe opLe fa fb fc)) :=
  dt_chain op_le op_le (opI2_h0 fun _ _ _ _ => .bl _) (opI2_h0 fun _ _ _ _ => .bl _) ha hb hc hm
/-! ### subscripts, slices -/
def opIx : D → D → OH → Res D := fun a b h => match b with
  | .int i => (match a with
    | .str z => if z.length ≤ big then (match atI z.cps.toList i with
      | some c => .ok (.str ⟨#[c]⟩) h
      | none => .bad) else .bad
    | a => match seqAt h a with
      | some xs => (match atI xs i with
        | some d => .ok d h
        | none => .bad)
      | none => .bad)
  | _ => .bad
theorem atI_den {K : PySem.W.Frag} {F : Hp} {m : List Addr} {vs : List V} {ds : List D} {i : Int} {d : D} (r : DenL K F m vs ds) (e : atI ds i = some d) : ∃ v, atI vs i = some v ∧ Den K F m v d := by
  unfold atI at e ⊢
  rw [r.length]
  cases q : ixN ds.length i with
  | none => rw [q] at e; simp at e
  | some j =>
    rw [q] at e
    simp only [Option.bind_some] at e ⊢
    exact r.get e
theorem opIx_h : OpH X.K W opIx (rIx X.K) := by
  intro P F m h H σ Q x y dx dy S r1 r2 fin
  cases r2 with
  | int i =>
    have seqs : ∀ {a : D}, Den X.K F m x a → FinG X.K P W σ (Den X.K) Q F m (match seqAt h a with
      | some xs => (match atI xs i with
        | some d => .ok d h
        | none => .bad)
      | none => .bad) → rIx X.K x (.int i) H Q := by
      intro a q fin
      cases e : seqAt h a with
      | none => rw [e] at fin; exact fin.bad_elim
      | some xs =>
        rw [e] at fin
        dsimp only at fin
        obtain ⟨l, vs, rfl, hl, rl⟩ := seqAt_ok S q e
        cases e2 : atI xs i with
        | none => rw [e2] at fin; exact fin.bad_elim
        | some d =>
          rw [e2] at fin
          obtain ⟨v, e3, r3⟩ := atI_den rl e2
          rcases hl with hl | hl
          · exact .inl ⟨l, vs, i, v, rfl, rfl, hl, e3, fin.ok S r3⟩
          · exact .inr (.inl ⟨l, vs, i, v, rfl, rfl, hl, e3, fin.ok S r3⟩)
    cases dx with
    | str z =>
      cases den_str r1
      dsimp only [opIx] at fin
      by_cases hz : z.length ≤ big
      · rw [if_pos hz] at fin
        cases e : atI z.cps.toList i with
        | none => rw [e] at fin; exact fin.bad_elim
        | some c =>
          rw [e] at fin
          exact .inr (.inr ⟨z, i, c, rfl, rfl, big_line hz, e, fin.ok S (.str _)⟩)
      · rw [if_neg hz] at fin
        exact fin.bad_elim
    | _ => exact seqs r1 fin
  | _ => exact fin.bad_elim
theorem de_ix {a b : Expr} {pos : Pos} {fa fb : SE} (ha : DE X W a fa) (hb : DE X W b fb) (hs : PlainIx b := by exact fun _ _ => rfl) : DE X W (.Subscript a b pos) (sBin opIx fa fb) := PE.of (pe_ix ix_seq ha hb hs) fun _ _ _ => rd_op opIx_h
abbrev SO := Env' → OH → Res (Option Int)
abbrev relO : Rel (Option Int) (Option Int) := fun _ _ b c => b = c
abbrev DO (X : Cx) (W : WX) (e : Option Expr) (f : SO) : Prop := PO X e (rdG X.K W relO f)
def sNoPart : SO := fun _ h => .ok none h
def sPart (f : SE) : SO := fun e h => (f e h).bind fun d h1 => match d with
  | .int i => .ok (some i) h1
  | _ => .bad
theorem PO.of {e : Option Expr} {t t' : TO} (h : PO X e t) (w : ∀ σ H Q, t' σ H Q → t σ H Q) : PO X e t' := by
  obtain ⟨h⟩ := h
  constructor
  intros
  first
    | (apply h <;> first | assumption | (apply w; assumption))
theorem do_none : DO X W none sNoPart := PO.of po_none fun σ H Q => by
  rintro ⟨P, F, m, e, h, S, E, fin⟩
  exact fin.ok S rfl
theorem do_some {a : Expr} {f : SE} (ha : DE X W a f) : DO X W (some a) (sPart f) := PO.of (po_some ha) fun σ H Q => by
  rintro ⟨P, F, m, e, h, S, E, fin⟩
  refine rd_seq S E fin fun F1 m1 h1 H1 x dx x1 S1 E1 r1 fin1 => ?_
  cases r1 with
  | int i => exact ⟨i, rfl, fin1.ok S1 rfl⟩
  | _ => exact fin1.bad_elim
def cutD (xs : List D) (lo hi : Option Int) : List D := (xs.drop (HT.sIx xs.length 0 lo)).take (HT.sIx xs.length xs.length hi - HT.sIx xs.length 0 lo)
theorem cut_den {K : PySem.W.Frag} {F : Hp} {m : List Addr} {vs : List V} {ds : List D} (r : DenL K F m vs ds) (lo hi : Option Int) : DenL K F m (cutV vs lo hi) (cutD ds lo hi) := by
  unfold cutV cutD
  rw [r.length]
  exact (r.drop _).take _
def opCut (own : Bool) (a : D) (lo hi : Option Int) (h : OH) : Res D := match lsqAt h a with
  | some xs => if own then .ok (.ref h.length) (h ++ [.lst (cutD xs lo hi)]) else .ok (.lst (cutD xs lo hi)) h
  | none => (match a with
    | .tup xs => if ¬ (HT.sIx xs.length 0 lo = 0 ∧ HT.sIx xs.length xs.length hi = xs.length) then .ok (.tup (cutD xs lo hi)) h else .bad
    | _ => .bad)
def sCut (own : Bool) (a : SE) (lo hi : SO) : SE := fun e h => (a e h).bind fun x h1 => (lo e h1).bind fun l h2 => (hi e h2).bind fun u h3 => opCut own x l u h3
theorem de_cut {a : Expr} {lo hi : Option Expr} {p2 pos : Pos} {fa : SE} {fl fu : SO} (own : Bool) (ha : DE X W a fa) (hl : DO X W lo fl) (hh : DO X W hi fu) : DE X W (.Subscript a (.Slice lo hi none p2) pos) (sCut own fa fl fu) :=
  PE.of (pe_slice (sl_list.or sl_tup) ha hl hh) fun σ H Q => by
    rintro ⟨P, F, m, e, h, S, E, fin⟩
    refine rd_seq S E fin fun F1 m1 h1 H1 x dx x1 S1 E1 r1 fin1 => ?_
    refine rd_seq S1 E1 fin1 fun F2 m2 h2 H2 l dl x2 S2 E2 r2 fin2 => ?_
    refine rd_seq S2 E2 fin2 fun F3 m3 h3 H3 u du x3 S3 E3 r3 fin3 => ?_
    have r2 : l = dl := r2
    have r3 : u = du := r3
    subst r2 r3
    have r4 := r1.mono (x2.trans x3)
    unfold opCut at fin3
    cases q : lsqAt h3 dx with
    | some xs =>
      rw [q] at fin3
      obtain ⟨c, vs, rfl, hc, rc⟩ := lsqAt_ok S3 r4 q
      refine .inl ⟨c, vs, rfl, hc, fun p hp => ?_⟩
      cases own with
      | true => exact FinG.ownL fin3 S3 (cut_den rc l u) hp
      | false => exact FinG.newL fin3 S3 (cut_den rc l u) hp
    | none =>
      rw [q] at fin3
      cases r4 with
      | tup ct tt =>
        dsimp only at fin3
        rename_i c vs ds
        by_cases hz : HT.sIx ds.length 0 l = 0 ∧ HT.sIx ds.length ds.length u = ds.length
        · rw [if_neg fun z => z hz] at fin3
          exact fin3.bad_elim
        · rw [if_pos hz] at fin3
          refine .inr ⟨c, vs, rfl, Same.sqT S3.sub ct, ?_, fun p hp => fin3.newT S3 (cut_den tt l u) hp⟩
          rw [tt.length]
          exact hz
      | _ => exact fin3.bad_elim
/-! ### calls of built-ins -/
def sCall (g : List D → OH → Res D) (a : SA) : SE := fun e h => (a e h).bind g
def ClH (K : PySem.W.Frag) (W : WX) (g : List D → OH → Res D) (r : List V → Hp → VK → Prop) : Prop :=
  ∀ (P : Pins) (F : Hp) (m : List Addr) (h : OH) (H : Hp) (σ : St) (Q : VK) (vs : List V) (ds : List D), Sim K P F m h H → DenL K F m vs ds → FinG K P W σ (Den K) Q F m (g ds h) → r vs H Q
theorem rd_call {g : List D → OH → Res D} {r : List V → Hp → VK → Prop} (hg : ClH X.K W g r) {fa : SA} {σ : St} {H : Hp} {Q : VK} (q : rdG X.K W (Den X.K) (sCall g fa) σ H Q) : tCB r (rdG X.K W (DenL X.K) fa) σ H Q := by
  obtain ⟨P, F, m, e, h, S, E, fin⟩ := q
  exact rd_seq S E fin fun F1 m1 h1 H1 x dx x1 S1 E1 r1 fin1 => hg P F1 m1 h1 H1 σ Q x dx S1 r1 fin1
theorem de_blt {id : String} {g : List D → OH → Res D} {r : List V → Hp → VK → Prop} {x : Str} {p pos : Pos} {a : Expr} {es : List Expr} {fa : SA} (hc : CallR X (.builtin id) r) (hg : ClH X.K W g r) (hx : Gl X x) (hm : X.mg x = none) (hv : bootBuiltins x = some (.builtin id)) (ha : DA X W (a :: es) fa)
    (hn : x ≠ "__name__" := by decide) (hdb : (x == ("__debug__" : Str)) = false := by decide) (he : starEach (a :: es) X.env = (false, eval a X.env) :: starEach es X.env := by rfl) (hpl : (backTo pos (starEach es X.env)).any (·.1) = false := by rfl) : DE X W (.Call (.Name x p) (a :: es) [] pos) (sCall g fa) :=
  PE.of (pe_callB hc hx hm hv ha hn hdb he hpl) fun _ _ _ => rd_call hg
theorem de_bty {T : String} {g : List D → OH → Res D} {r : List V → Hp → VK → Prop} {x : Str} {p pos : Pos} {a : Expr} {es : List Expr} {fa : SA} (hc : CallR X (.type T) r) (hg : ClH X.K W g r) (hx : Gl X x) (hm : X.mg x = none) (hv : bootBuiltins x = some (.type T)) (ha : DA X W (a :: es) fa)
    (hn : x ≠ "__name__" := by decide) (hdb : (x == ("__debug__" : Str)) = false := by decide) (he : starEach (a :: es) X.env = (false, eval a X.env) :: starEach es X.env := by rfl) (hpl : (backTo pos (starEach es X.env)).any (·.1) = false := by rfl) : DE X W (.Call (.Name x p) (a :: es) [] pos) (sCall g fa) :=
  PE.of (pe_callTy hc hx hm hv ha hn hdb he hpl) fun _ _ _ => rd_call hg
theorem denL1 {K : PySem.W.Frag} {F : Hp} {m : List Addr} {vs : List V} {d : D} (r : DenL K F m vs [d]) : ∃ v, vs = [v] ∧ Den K F m v d := by
  cases r with
  | cons a b =>
    cases b
    exact ⟨_, rfl, a⟩
theorem denL2 {K : PySem.W.Frag} {F : Hp} {m : List Addr} {vs : List V} {d d2 : D} (r : DenL K F m vs [d, d2]) : ∃ v v2, vs = [v, v2] ∧ Den K F m v d ∧ Den K F m v2 d2 := by
  cases r with
  | cons a b =>
    obtain ⟨v2, rfl, r2⟩ := denL1 b
    exact ⟨_, v2, rfl, a, r2⟩
def b1 (f : D → OH → Res D) : List D → OH → Res D
  | [d], h => f d h
  | _, _ => .bad
def b2 (f : D → D → OH → Res D) : List D → OH → Res D
  | [d, d2], h => f d d2 h
  | _, _ => .bad
theorem b1_inv {f : D → OH → Res D} {P : Pins} {F : Hp} {m : List Addr} {h : OH} {σ : St} {Q : VK} {vs : List V} {ds : List D} (r : DenL X.K F m vs ds) (fin : FinG X.K P W σ (Den X.K) Q F m (b1 f ds h)) : ∃ v d, vs = [v] ∧ Den X.K F m v d ∧ FinG X.K P W σ (Den X.K) Q F m (f d h) := by
  unfold b1 at fin
  split at fin
  · obtain ⟨v, rfl, r1⟩ := denL1 r
    exact ⟨v, _, rfl, r1, fin⟩
  · exact fin.bad_elim
theorem b2_inv {f : D → D → OH → Res D} {P : Pins} {F : Hp} {m : List Addr} {h : OH} {σ : St} {Q : VK} {vs : List V} {ds : List D} (r : DenL X.K F m vs ds) (fin : FinG X.K P W σ (Den X.K) Q F m (b2 f ds h)) : ∃ v v2 d d2, vs = [v, v2] ∧ Den X.K F m v d ∧ Den X.K F m v2 d2 ∧ FinG X.K P W σ (Den X.K) Q F m (f d d2 h) := by
  unfold b2 at fin
  split at fin
  · obtain ⟨v, v2, rfl, r1, r2⟩ := denL2 r
    exact ⟨v, v2, _, _, rfl, r1, r2, fin⟩
  · exact fin.bad_elim
def opLen : D → OH → Res D
  | .str z, h => if z.length ≤ big then .ok (.int z.length) h else .bad
  | d, h => (match seqAt h d with
    | some xs => .ok (.int xs.length) h
    | none => .bad)
abbrev bLen := b1 opLen
theorem bLen_h : ClH X.K W bLen (fun xs H Q => ∃ x n, xs = [x] ∧ LenV X.K x H n ∧ Q (.int n) H) := by
  intro P F m h H σ Q vs ds S r fin
  obtain ⟨v, d, rfl, r1, fin⟩ := b1_inv r fin
  have seqs : FinG X.K P W σ (Den X.K) Q F m (match seqAt h d with
    | some xs => .ok (.int xs.length) h
    | none => .bad) → ∃ x n, [v] = [x] ∧ LenV X.K x H n ∧ Q (.int n) H := by
    intro fin
    cases e : seqAt h d with
    | none => rw [e] at fin; exact fin.bad_elim
    | some xs =>
      rw [e] at fin
      obtain ⟨a, ws, rfl, ha, rl⟩ := seqAt_ok S r1 e
      refine ⟨_, xs.length, rfl, ?_, fin.ok S (.int _)⟩
      rcases ha with ha | ha
      · exact .inl ⟨ws, ha, rl.length.symm⟩
      · exact .inr ⟨ws, ha, rl.length.symm⟩
  cases d with
  | str z =>
    cases den_str r1
    dsimp only [opLen] at fin
    by_cases hz : z.length ≤ big
    · rw [if_pos hz] at fin
      exact ⟨.str z, z.length, rfl, ⟨big_line hz, rfl⟩, fin.ok S (.int _)⟩
    · rw [if_neg hz] at fin
      exact fin.bad_elim
  | _ => exact seqs fin
theorem de_len {p pos : Pos} {a : Expr} {fa : SE} (hx : Gl X "len") (hm : X.mg "len" = none) (ha : DE X W a fa) (he : starEach [a] X.env = (false, eval a X.env) :: starEach [] X.env := by rfl) : DE X W (.Call (.Name "len" p) [a] [] pos) (sCall bLen (sCons fa sNil)) :=
  de_blt call_len bLen_h hx hm PySem.boot_len (da_cons ha da_nil he) (he := he)
def opAbs : D → OH → Res D
  | .int i, h => .ok (.int (if i < 0 then -i else i)) h
  | _, _ => .bad
theorem bI2_inv {f : Int → Int → Int} {P : Pins} {F : Hp} {m : List Addr} {h : OH} {H : Hp} {σ : St} {Q : VK} {vs : List V} {ds : List D} (S : Sim X.K P F m h H) (r : DenL X.K F m vs ds) (fin : FinG X.K P W σ (Den X.K) Q F m (b2 (opI2 (fun i j => .int (f i j)) fun _ _ => true) ds h)) : ∃ i j, vs = [.int i, .int j] ∧ Q (.int (f i j)) H := by
  obtain ⟨v, v2, d, d2, rfl, r1, r2, fin⟩ := b2_inv r fin
  obtain ⟨i, j, rfl, rfl, q⟩ := opI2_h0 (X := X) (W := W) (g := fun i j => V.int (f i j)) (fun _ _ _ _ => .int _) P F m h H σ Q v v2 d d2 S r1 r2 fin
  exact ⟨i, j, rfl, q⟩
abbrev bMin := b2 (opI2 (fun i j => .int (if j < i then j else i)) fun _ _ => true)
theorem de_min2 {p pos : Pos} {a b : Expr} {fa fb : SE} (hc : X.calm = true) (hx : Gl X "min") (hm : X.mg "min" = none) (ha : DE X W a fa) (hb : DE X W b fb) (he : starEach [a, b] X.env = (false, eval a X.env) :: starEach [b] X.env := by rfl) (he2 : starEach [b] X.env = (false, eval b X.env) :: starEach [] X.env := by rfl)
    (hpl : (backTo pos (starEach [b] X.env)).any (·.1) = false := by rfl) : DE X W (.Call (.Name "min" p) [a, b] [] pos) (sCall bMin (sCons fa (sCons fb sNil))) :=
  de_blt (call_min2 hc) (fun P F m h H σ Q vs ds S r fin => bI2_inv S r fin) hx hm (by decide +kernel) (da_cons ha (da_cons hb da_nil he2) he) (he := he) (hpl := hpl)
def opDivmod : D → D → OH → Res D
  | .int i, .int j, h => if divOk i j then .ok (.tup [.int (i / j), .int (i % j)]) h else .bad
  | _, _, _ => .bad
end
end HR
set_option Elab.async false
set_option linter.all false
set_option maxRecDepth 100000
set_option maxHeartbeats 2000000
/-! LayD: further built-ins, isinstance, attributes, methods of lists. -/
namespace HR
open PySem L2
section
variable {X : Cx} {W : WX}
/-! ### int, sum, all, any, list, tuple -/
def opInt : D → OH → Res D
  | .int i, h => .ok (.int i) h
  | .bl b, h => .ok (.int (if b then 1 else 0)) h
  | _, _ => .bad
/-- the ints of a list, if it holds no more -/
def intsOf : List D → Option (List Int)
  | [] => some []
  | .int i :: r => (intsOf r).map (i :: ·)
  | _ => none
def bsOf : List D → Option (List Bool)
  | [] => some []
  | .bl b :: r => (bsOf r).map (b :: ·)
  | _ => none
theorem intsOf_ok {K : PySem.W.Frag} {F : Hp} {m : List Addr} : ∀ {vs : List V} {ds : List D} {ns : List Int}, DenL K F m vs ds → intsOf ds = some ns → vs = ns.map V.int
  | _, _, _, .nil, e => by simp only [intsOf, Option.some.injEq] at e; subst e; rfl
  | _, _, _, .cons (.int i) t, e => by
    simp only [intsOf, Option.map_eq_some_iff] at e
    obtain ⟨ns, e1, e2⟩ := e
    subst e2
    rw [intsOf_ok t e1]
    rfl
  | _, _, _, .cons (.non) _, e | _, _, _, .cons (.bl _) _, e | _, _, _, .cons (.str _) _, e | _, _, _, .cons (.lst _ _) _, e | _, _, _, .cons (.scr _ _) _, e | _, _, _, .cons (.tup _ _) _, e | _, _, _, .cons (.dct _ _) _, e | _, _, _, .cons (.obj _ _ _) _, e | _, _, _, .cons (.ref _) _, e | _, _, _, .cons (.exc _) _, e | _, _, _, .cons (.excf _ _ _) _, e => by simp [intsOf] at e
theorem bsOf_ok {K : PySem.W.Frag} {F : Hp} {m : List Addr} : ∀ {vs : List V} {ds : List D} {ns : List Bool}, DenL K F m vs ds → bsOf ds = some ns → vs = ns.map V.bl
  | _, _, _, .nil, e => by simp only [bsOf, Option.some.injEq] at e; subst e; rfl
  | _, _, _, .cons (.bl b) t, e => by
    simp only [bsOf, Option.map_eq_some_iff] at e
    obtain ⟨ns, e1, e2⟩ := e
    subst e2
    rw [bsOf_ok t e1]
    rfl
  | _, _, _, .cons (.non) _, e | _, _, _, .cons (.int _) _, e | _, _, _, .cons (.str _) _, e | _, _, _, .cons (.lst _ _) _, e | _, _, _, .cons (.scr _ _) _, e | _, _, _, .cons (.tup _ _) _, e | _, _, _, .cons (.dct _ _) _, e | _, _, _, .cons (.obj _ _ _) _, e | _, _, _, .cons (.ref _) _, e | _, _, _, .cons (.exc _) _, e | _, _, _, .cons (.excf _ _ _) _, e => by simp [bsOf] at e
@[simp] theorem intsOf_map (ns : List Int) : intsOf (ns.map D.int) = some ns := by
  induction ns with
  | nil => rfl
  | cons n r ih => simp [intsOf, ih]
@[simp] theorem bsOf_map (ns : List Bool) : bsOf (ns.map D.bl) = some ns := by
  induction ns with
  | nil => rfl
  | cons n r ih => simp [bsOf, ih]
def opSum : D → OH → Res D := fun d h => match (lsqAt h d).bind intsOf with
  | some ns => .ok (.int ns.sum) h
  | none => .bad
theorem lbls_inv {P : Pins} {F : Hp} {m : List Addr} {h : OH} {H : Hp} {v : V} {d : D} {ns : List Bool} (S : Sim X.K P F m h H) (r : Den X.K F m v d) (e : (lsqAt h d).bind bsOf = some ns) : ∃ a, v = .ref a ∧ SqL X.K H a (ns.map V.bl) := by
  cases q : lsqAt h d with
  | none => rw [q] at e; simp at e
  | some xs =>
    rw [q] at e
    simp only [Option.bind_some] at e
    obtain ⟨a, vs, rfl, ha, rl⟩ := lsqAt_ok S r q
    rw [bsOf_ok rl e] at ha
    exact ⟨a, rfl, ha⟩
def opAll : D → OH → Res D := fun d h => match (lsqAt h d).bind bsOf with
  | some ns => .ok (.bl (ns.all id)) h
  | none => .bad
def opAny : D → OH → Res D := fun d h => match (lsqAt h d).bind bsOf with
  | some ns => .ok (.bl (ns.any id)) h
  | none => .bad
theorem bAll_h : ClH X.K W (b1 opAll) (rAll X.K) := by
  intro P F m h H σ Q vs ds S r fin
  obtain ⟨v, d, rfl, r1, fin⟩ := b1_inv r fin
  unfold opAll at fin
  split at fin
  · rename_i ns e
    obtain ⟨a, rfl, ha⟩ := lbls_inv S r1 e
    exact ⟨a, ns, rfl, ha, fin.ok S (.bl _)⟩
  · exact fin.bad_elim
theorem de_all {p pos : Pos} {a : Expr} {fa : SE} (hc : X.calm = true) (hx : Gl X "all") (hm : X.mg "all" = none) (ha : DE X W a fa) (he : starEach [a] X.env = (false, eval a X.env) :: starEach [] X.env := by rfl) : DE X W (.Call (.Name "all" p) [a] [] pos) (sCall (b1 opAll) (sCons fa sNil)) :=
  de_blt (cr_all hc) bAll_h hx hm (by decide +kernel) (da_cons ha da_nil he) (he := he)
/-- list(x), a new list, frozen or own -/
def opList (own : Bool) : D → OH → Res D := fun d h => match seqAt h d with
  | some xs => if own then .ok (.ref h.length) (h ++ [.lst xs]) else .ok (.lst xs) h
  | none => .bad
theorem bList_h (own : Bool) : ClH X.K W (b1 (opList own)) (fun xs H Q => ∃ p ys, xs = [.ref p] ∧ (SqL X.K H p ys ∨ SqT X.K H p ys) ∧ ∀ l, H l = none → Q (.ref l) (upd H l (.lst ys))) := by
  intro P F m h H σ Q vs ds S r fin
  obtain ⟨v, d, rfl, r1, fin⟩ := b1_inv r fin
  unfold opList at fin
  cases e : seqAt h d with
  | none => rw [e] at fin; exact fin.bad_elim
  | some xs =>
    rw [e] at fin
    obtain ⟨a, ws, rfl, ha, rl⟩ := seqAt_ok S r1 e
    refine ⟨a, ws, rfl, ha, fun l hl => ?_⟩
    cases own with
    | true => exact FinG.ownL fin S rl hl
    | false => exact FinG.newL fin S rl hl
theorem de_list {p pos : Pos} {a : Expr} {fa : SE} (own : Bool) (hx : Gl X "list") (hm : X.mg "list" = none) (ha : DE X W a fa) (he : starEach [a] X.env = (false, eval a X.env) :: starEach [] X.env := by rfl) : DE X W (.Call (.Name "list" p) [a] [] pos) (sCall (b1 (opList own)) (sCons fa sNil)) :=
  de_bty call_list_of (bList_h own) hx hm (by decide +kernel) (da_cons ha da_nil he) (he := he)
def opTuple : D → OH → Res D := fun d h => match d with
  | .tup xs => .ok (.tup xs) h
  | d => (match lsqAt h d with
    | some xs => .ok (.tup xs) h
    | none => .bad)
/-! ### isinstance of built-in types -/
def tyAt (h : OH) : D → Option String
  | .non => some "NoneType"
  | .bl _ => some "bool"
  | .int _ => some "int"
  | .str _ => some "str"
  | .lst _ => some "list"
  | .scr _ => some "list"
  | .tup _ => some "tuple"
  | .dct _ => some "dict"
  | .obj _ _ => none
  | .exc _ => none
  | .excf _ _ _ => none
  | .ref i => (match h[i]? with
    | some (.lst _) => some "list"
    | some (.dct _) => some "dict"
    | _ => none)
def isiB (a b : String) : Bool := a == b || (a == "bool" && b == "int")
theorem kit_tab : (["NoneType", "bool", "int", "str", "list", "tuple", "dict"].all fun a => ["bool", "int", "str", "list", "tuple", "dict"].all fun b => kitB a b == some (isiB a b)) = true := by decide +kernel
theorem kit_at {a b : String} (ha : a ∈ ["NoneType", "bool", "int", "str", "list", "tuple", "dict"]) (hb : b ∈ ["bool", "int", "str", "list", "tuple", "dict"]) : kitB a b = some (isiB a b) := by
  have h := List.all_eq_true.mp kit_tab a ha
  have h2 := List.all_eq_true.mp h b hb
  exact eq_of_beq h2
theorem tyAt_mem {h : OH} {d : D} {t : String} (e : tyAt h d = some t) : t ∈ ["NoneType", "bool", "int", "str", "list", "tuple", "dict"] := by
  unfold tyAt at e
  split at e
  all_goals (try (simp only [Option.some.injEq] at e; subst e; decide))
  · cases e
  · cases e
  · cases e
  · split at e
    all_goals (try (simp only [Option.some.injEq] at e; subst e; decide))
    cases e
theorem tyAt_ok {P : Pins} {F : Hp} {m : List Addr} {h : OH} {H : Hp} {v : V} {d : D} {t : String} (S : Sim X.K P F m h H) (r : Den X.K F m v d) (e : tyAt h d = some t) : TyX X.K H v (.type t) := by
  cases r with
  | non => cases e; exact .base .non
  | bl b => cases e; exact .base (.bl b)
  | int i => cases e; exact .base (.int i)
  | str x => cases e; exact .base (.str x)
  | lst q _ => cases e; exact .base (.lst (S.sub _ _ q))
  | scr q _ =>
    cases e
    rcases S.sub.seq q with (q | ⟨o, q⟩) | ⟨o, its, n, q, c, _⟩
    · exact .base (.lst q)
    · exact .base (.frz q)
    · exact .kList q c
  | tup q _ =>
    cases e
    rcases Same.sqT S.sub q with (q | ⟨o, q⟩) | ⟨o, its, n, q, c, _⟩
    · exact .base (.tup q)
    · exact .fTuple q
    · exact .kTuple q c
  | dct q _ => cases e; exact .base (.dK (S.sub _ _ q))
  | obj _ _ _ => cases e
  | exc _ => cases e
  | excf _ _ _ => cases e
  | ref q =>
    obtain ⟨o, h1, h2⟩ := S.own q
    unfold tyAt at e
    simp only [h1] at e
    cases o with
    | lst xs =>
      cases e
      obtain ⟨vs, k1, _⟩ := h2
      exact .base (.lst k1)
    | dct kvs =>
      cases e
      obtain ⟨ks, k1, _⟩ := h2
      exact .base (.dK k1)
    | ins _ _ => cases e
    | dead => cases e
/-- isinstance(e, T) -/
def sIsi (ts : List String) (f : SE) : SE := fun e h => (f e h).bind fun d h1 => match tyAt h1 d with
  | some t => .ok (.bl (ts.any fun T => isiB t T)) h1
  | none => .bad
theorem de_isi {T : String} {x : Str} {p p2 pos : Pos} {a : Expr} {fa : SE} (hT : T ∈ ["bool", "int", "str", "list", "tuple", "dict"]) (hx : Gl X "isinstance") (hm : X.mg "isinstance" = none) (hx2 : Gl X x) (hm2 : X.mg x = none) (hv2 : bootBuiltins x = some (.type T)) (ha : DE X W a fa) (hn : x ≠ "__name__" := by decide) (hd : (x == ("__debug__" : Str)) = false := by decide)
    (he : starEach [a, .Name x p2] X.env = (false, eval a X.env) :: starEach [.Name x p2] X.env := by rfl) (he2 : starEach [.Name x p2] X.env = (false, eval (.Name x p2) X.env) :: starEach [] X.env := by rfl)
    (hpl : (backTo pos (starEach [.Name x p2] X.env)).any (·.1) = false := by rfl) : DE X W (.Call (.Name "isinstance" p) [a, .Name x p2] [] pos) (sIsi [T] fa) :=
  PE.of (pe_callB call_isi hx hm (by decide +kernel) (pa_cons ha (pa_cons (pe_bltn (v := .ty T) hx2 hm2 hv2 rfl hn hd) pa_nil he2) he) (he := he) (hpl := hpl)) fun σ H Q => by
    rintro ⟨P, F, m, e, h, S, E, fin⟩
    refine rd_seq S E fin fun F1 m1 h1 H1 x dx x1 S1 E1 r1 fin1 => ?_
    cases q : tyAt h1 dx with
    | none => rw [q] at fin1; exact fin1.bad_elim
    | some t =>
      rw [q] at fin1
      exact ⟨x, .ty T, .type t, .type T, isiB t T, rfl, .ty T, tyAt_ok S1 r1 q, kit_ty (kit_at (tyAt_mem q) hT), fin1.ok S1 (by simp only [List.any_cons, List.any_nil, Bool.or_false]; exact .bl _)⟩
theorem kitAny_two {K : PySem.W.Frag} {t T1 T2 : String} (h1 : kitB t T1 = some (isiB t T1)) (h2 : kitB t T2 = some (isiB t T2)) : PySem.W.kitAny K (.type t) [.type T1, .type T2] = some (isiB t T1 || isiB t T2) := by
  refine kitAny_cons (kit_ty h1) (fun e => ?_) (fun e => by rw [e, Bool.true_or])
  rw [e, Bool.false_or]
  refine kitAny_cons (kit_ty h2) (fun e2 => ?_) (fun e2 => e2)
  rw [e2]
  exact kitAny_nil
/-- isinstance(e, (T1, T2)) -/
theorem de_isi2 {T1 T2 : String} {x y : Str} {p p2 p3 p4 pos : Pos} {j : Nat} {a : Expr} {fa : SE} (hT1 : T1 ∈ ["bool", "int", "str", "list", "tuple", "dict"]) (hT2 : T2 ∈ ["bool", "int", "str", "list", "tuple", "dict"]) (hx : Gl X "isinstance") (hm : X.mg "isinstance" = none)
    (hx2 : Gl X x) (hm2 : X.mg x = none) (hv2 : bootBuiltins x = some (.type T1)) (hx3 : Gl X y) (hm3 : X.mg y = none) (hv3 : bootBuiltins y = some (.type T2)) (ha : DE X W a fa) (hn : x ≠ "__name__" := by decide) (hd : (x == ("__debug__" : Str)) = false := by decide) (hn3 : y ≠ "__name__" := by decide) (hd3 : (y == ("__debug__" : Str)) = false := by decide)
    (he : starEach [a, .Tuple [.Name x p2, .Name y p3] j p4] X.env = (false, eval a X.env) :: starEach [.Tuple [.Name x p2, .Name y p3] j p4] X.env := by rfl) (he2 : starEach [.Tuple [.Name x p2, .Name y p3] j p4] X.env = (false, eval (.Tuple [.Name x p2, .Name y p3] j p4) X.env) :: starEach [] X.env := by rfl)
    (he3 : starEach [.Name x p2, .Name y p3] X.env = (false, eval (.Name x p2) X.env) :: starEach [.Name y p3] X.env := by rfl) (he4 : starEach [.Name y p3] X.env = (false, eval (.Name y p3) X.env) :: starEach [] X.env := by rfl)
    (hpl : (backTo pos (starEach [.Tuple [.Name x p2, .Name y p3] j p4] X.env)).any (·.1) = false := by rfl) : DE X W (.Call (.Name "isinstance" p) [a, .Tuple [.Name x p2, .Name y p3] j p4] [] pos) (sIsi [T1, T2] fa) :=
  PE.of (pe_callB call_isiT hx hm (by decide +kernel) (pa_cons ha (pa_cons (pe_tup (pa_cons (pe_bltn (v := .ty T1) hx2 hm2 hv2 rfl hn hd) (pa_cons (pe_bltn (v := .ty T2) hx3 hm3 hv3 rfl hn3 hd3) pa_nil he4) he3)) pa_nil he2) he) (he := he) (hpl := hpl)) fun σ H Q => by
    rintro ⟨P, F, m, e, h, S, E, fin⟩
    refine rd_seq S E fin fun F1 m1 h1 H1 x dx x1 S1 E1 r1 fin1 => ?_
    refine ⟨by show 2 ≤ sizeLine; decide, fun tp hp => ?_⟩
    cases q : tyAt h1 dx with
    | none => rw [q] at fin1; exact fin1.bad_elim
    | some t =>
      rw [q] at fin1
      have S2 := S1.other (o := .tup [.ty T1, .ty T2]) hp
      refine ⟨x, tp, [.ty T1, .ty T2], .type t, [.type T1, .type T2], isiB t T1 || isiB t T2, rfl, upd_same, .cons (.ty _) (.cons (.ty _) .nil), tyAt_ok S2 r1 q, kitAny_two (kit_at (tyAt_mem q) hT1) (kit_at (tyAt_mem q) hT2), fin1.ok S2 ?_⟩
      simp only [List.any_cons, List.any_nil, Bool.or_false]
      exact .bl _
/-! ### attributes -/
theorem ofString_inj {a b : String} (h : Str.ofString a = Str.ofString b) : a = b := by
  rw [Str.ofString_eq_toList, Str.ofString_eq_toList] at h
  have h2 : (a.toList.map Char.toNat) = (b.toList.map Char.toNat) := by simpa using h
  have h3 : a.toList = b.toList := by
    have inj : ∀ (l l' : List Char), l.map Char.toNat = l'.map Char.toNat → l = l' := by
      intro l
      induction l with
      | nil => intro l' e; cases l' with
        | nil => rfl
        | cons _ _ => simp at e
      | cons c l ih => intro l' e; cases l' with
        | nil => simp at e
        | cons c' l' =>
          simp only [List.map_cons, List.cons.injEq] at e
          rw [Char.toNat_inj.mp e.1, ih l' e.2]
    exact inj _ _ h2
  exact String.toList_inj.mp h3
theorem ofString_beq (a b : String) : (Str.ofString a == Str.ofString b) = (a == b) := by
  by_cases e : a = b
  · subst e; simp
  · have e2 : Str.ofString a ≠ Str.ofString b := fun z => e (ofString_inj z)
    rw [beq_eq_false_iff_ne.mpr e, beq_eq_false_iff_ne.mpr e2]
theorem DenF.none {K : PySem.W.Frag} {F : Hp} {m : List Addr} {f : String} : ∀ {fv : List (Str × V)} {fs : List (String × D)}, DenF K F m fv fs → fs.lookup f = none → fv.lookup (Str.ofString f) = none
  | _, _, .nil, _ => rfl
  | _, _, .cons (f := g) h t, e => by
    rw [List.lookup_cons] at e ⊢
    rw [ofString_beq]
    cases q : (f == g) with
    | true => rw [q] at e; cases e
    | false => rw [q] at e; exact DenF.none t e
def putS (f : String) (d : D) : List (String × D) → List (String × D)
  | [] => [(f, d)]
  | (g, x) :: r => if g = f then (g, d) :: r else (g, x) :: putS f d r
/-- the fields of an instance -/
def insAt (h : OH) : D → Option (String × List (String × D))
  | .obj C fs => some (C, fs)
  | .ref i => (match h[i]? with
    | some (.ins C fs) => some (C, fs)
    | _ => none)
  | _ => none
def opFld (f : String) : D → OH → Res D := fun d h => match insAt h d with
  | some q => (match q.2.lookup f with
    | some x => .ok x h
    | none => .bad)
  | none => .bad
/-! ### methods of own lists -/
/-- the receiver must be an own list all along -/
def isOwn (h : OH) : D → Bool
  | .ref i => (match h[i]? with
    | some (.lst _) => true
    | _ => false)
  | _ => false
def sMtO (g : Nat → List D → List D → OH → Res D) (o : SE) (a : SA) : SE := fun e h => (o e h).bind fun x h1 => if isOwn h1 x then (a e h1).bind fun ys h2 => (match x with
    | .ref i => (match h2[i]? with
      | some (.lst xs) => g i xs ys h2
      | _ => .bad)
    | _ => .bad) else .bad
theorem rd_mt {g : Nat → List D → List D → OH → Res D} {r : V → List V → Hp → VK → Prop} {fo : SE} {fa : SA} {σ : St} {H : Hp} {Q : VK}
    (hg : ∀ (P : Pins) (F : Hp) (m : List Addr) (h : OH) (H : Hp) (i : Nat) (a : Addr) (vs ws : List V) (xs ys : List D), Sim X.K P F m h H → m[i]? = some a → h[i]? = some (.lst xs) → H a = some (.lst vs) → DenL X.K F m vs xs → F a = none → DenL X.K F m ws ys → FinG X.K P W σ (Den X.K) Q F m (g i xs ys h) → r (.ref a) ws H Q)
    (q : rdG X.K W (Den X.K) (sMtO g fo fa) σ H Q) : rdG X.K W (Den X.K) fo σ H (fun x H1 => tyV X.K "list" x H1 ∧ rdG X.K W (DenL X.K) fa σ H1 fun xs H2 => r x xs H2 Q) := by
  obtain ⟨P, F, m, e, h, S, E, fin⟩ := q
  refine rd_seq S E fin fun F1 m1 h1 H1 x dx x1 S1 E1 r1 fin1 => ?_
  by_cases ho : isOwn h1 dx = true
  · rw [if_pos ho] at fin1
    cases r1 with
    | @ref a i e1 =>
      have ty : tyV X.K "list" (.ref a) H1 := by
        obtain ⟨o, k1, k2⟩ := S1.own e1
        simp only [isOwn, k1] at ho
        cases o with
        | lst xs =>
          obtain ⟨vs, k3, _⟩ := k2
          exact .inl ⟨rfl, vs, .inl (.inl k3)⟩
        | _ => cases ho
      refine ⟨ty, ?_⟩
      refine rd_seq S1 E1 fin1 fun F2 m2 h2 H2 ws ys x2 S2 E2 r2 fin2 => ?_
      have e2 := pre_get x2.p e1
      obtain ⟨o, k1, k2⟩ := S2.own e2
      dsimp only at fin2
      rw [k1] at fin2
      cases o with
      | lst xs =>
        obtain ⟨vs, k3, k4, k5⟩ := k2
        exact hg P F2 m2 h2 H2 i a vs ws xs ys S2 e2 k1 k3 k4 k5 r2 fin2
      | _ => exact fin2.bad_elim
    | _ => simp [isOwn] at ho
  · rw [if_neg ho] at fin1
    exact fin1.bad_elim
def gAppend (i : Nat) (xs ys : List D) (h : OH) : Res D := match ys with
  | [y] => if xs.length < big then .ok .non (h.set i (.lst (xs ++ [y]))) else .bad
  | _ => .bad
theorem de_append {o a : Expr} {fo fa : SE} {apos cpos : Pos} (ho : DE X W o fo) (ha : DE X W a fa) (hbase : attributeBase o "append" X.env (eval o X.env) = eval o X.env := by rfl)
    (hfew : ((backTo cpos (starEach [a] X.env)).all (fun x => !x.1) && (backToKw cpos (keywordEach [] X.env)).all (fun x => x.1.isSome) && decide (([a] : List Expr).length + ([] : List Keyword).length + (if ([] : List Keyword).isEmpty then 0 else 1) < 30)) = true := by rfl)
    (hline : (apos.endLine == cpos.line) = true := by rfl) (hs : starEach [a] X.env = (false, eval a X.env) :: starEach [] X.env := by rfl) (hplain : (backTo cpos (starEach [] X.env)).any (·.1) = false := by rfl) : DE X W (.Call (.Attribute o "append" apos) [a] [] cpos) (sMtO gAppend fo (sCons fa sNil)) :=
  PE.of (pe_bm PySem.F.plainAttrs_list PySem.F.slot_list_append PySem.F.type_list_append mt_append ho (da_cons ha da_nil hs) hbase hfew hline hs hplain) fun σ H Q => rd_mt (r := rAppend) fun P F m h H i a vs ws xs ys S e1 e2 ha rl nf rw fin => by
    unfold gAppend at fin
    split at fin
    · rename_i y
      obtain ⟨w, rfl, ry⟩ := denL1 rw
      by_cases hz : xs.length < big
      · rw [if_pos hz] at fin
        refine ⟨a, vs, w, rfl, rfl, ha, by rw [rl.length]; exact big_lt hz, fin.ok (S.write e1 e2 nf ⟨_, upd_same, rl.append (.cons ry .nil), nf⟩) .non⟩
      · rw [if_neg hz] at fin
        exact fin.bad_elim
    · exact fin.bad_elim
def gPopAt (i : Nat) (xs ys : List D) (h : OH) : Res D := match ys with
  | [.int k] => if -(2 ^ 63) ≤ k ∧ k < 2 ^ 63 then (match seqIndex? k xs.length with
    | some j => (match xs[j]? with
      | some y => .ok y (h.set i (.lst (xs.eraseIdx j)))
      | none => .bad)
    | none => .bad) else .bad
  | _ => .bad
theorem de_popAt {o a : Expr} {fo fa : SE} {apos cpos : Pos} (ho : DE X W o fo) (ha : DE X W a fa) (hbase : attributeBase o "pop" X.env (eval o X.env) = eval o X.env := by rfl)
    (hfew : ((backTo cpos (starEach [a] X.env)).all (fun x => !x.1) && (backToKw cpos (keywordEach [] X.env)).all (fun x => x.1.isSome) && decide (([a] : List Expr).length + ([] : List Keyword).length + (if ([] : List Keyword).isEmpty then 0 else 1) < 30)) = true := by rfl)
    (hline : (apos.endLine == cpos.line) = true := by rfl) (hs : starEach [a] X.env = (false, eval a X.env) :: starEach [] X.env := by rfl) (hplain : (backTo cpos (starEach [] X.env)).any (·.1) = false := by rfl) : DE X W (.Call (.Attribute o "pop" apos) [a] [] cpos) (sMtO gPopAt fo (sCons fa sNil)) :=
  PE.of (pe_bm PySem.F.plainAttrs_list PySem.F.slot_list_pop PySem.F.type_list_pop mt_popAt ho (da_cons ha da_nil hs) hbase hfew hline hs hplain) fun σ H Q => rd_mt (r := rPopAt) fun P F m h H i a vs ws xs ys S e1 e2 ha rl nf rw fin => by
    unfold gPopAt at fin
    split at fin
    · rename_i k
      obtain ⟨w, rfl, ry⟩ := denL1 rw
      cases den_int ry
      by_cases hz : -(2 ^ 63) ≤ k ∧ k < 2 ^ 63
      · rw [if_pos hz] at fin
        cases q : seqIndex? k xs.length with
        | none => rw [q] at fin; exact fin.bad_elim
        | some j =>
          rw [q] at fin
          dsimp only at fin
          cases q2 : xs[j]? with
          | none => rw [q2] at fin; exact fin.bad_elim
          | some y =>
            rw [q2] at fin
            obtain ⟨v, e3, rv⟩ := rl.get q2
            exact ⟨a, vs, k, j, v, rfl, rfl, ha, hz.1, hz.2, by rw [rl.length]; exact q, e3, fin.ok (S.write e1 e2 nf ⟨_, upd_same, rl.eraseIdx j, nf⟩) rv⟩
      · rw [if_neg hz] at fin
        exact fin.bad_elim
    · exact fin.bad_elim
end
end HR
set_option Elab.async false
set_option linter.all false
set_option maxRecDepth 100000
set_option maxHeartbeats 2000000
/-! LayE: statements, targets, loops, comprehensions. -/
namespace HR
open PySem L2
def FinS (K : PySem.W.Frag) (P : Pins) (W : WX) (Dn : Ends) (F : Hp) (m : List Addr) : SRes → Prop
  | .nx e h' => ∀ σ F' m' H', Ext F m F' m' → Sim K P F' m' h' H' → EnvR K F' m' σ e → Dn.nx σ H'
  | .bk e h' => ∀ σ F' m' H', Ext F m F' m' → Sim K P F' m' h' H' → EnvR K F' m' σ e → Dn.bk σ H'
  | .ct e h' => ∀ σ F' m' H', Ext F m F' m' → Sim K P F' m' h' H' → EnvR K F' m' σ e → Dn.ct σ H'
  | .rt d h' => ∀ v F' m' H', Ext F m F' m' → Sim K P F' m' h' H' → Den K F' m' v d → Dn.rt v H'
  | .exc C p e h' => ∀ od σ F' m' H', Ext F m F' m' → Sim K P F' m' h' H' → PayD K F' m' p od → EnvR K F' m' σ e → W (.ref (He.ga K (Str.ofString C))) od σ H'
  | .bad => False
def rdS (K : PySem.W.Frag) (W : WX) (f : SS) : TS := fun Dn σ H => ∃ P F m e h, Sim K P F m h H ∧ EnvR K F m σ e ∧ FinS K P W Dn F m (f e h)
abbrev DS (X : Cx) (W : WX) (st : Stmt) (f : SS) : Prop := PS X st (rdS X.K W f)
abbrev DSs (X : Cx) (W : WX) (sts : List Stmt) (f : SS) : Prop := PSs X sts (rdS X.K W f)
/-- behind an expression -/
def Res.toS {α : Type} (r : Res α) (e : Env') (g : α → OH → SRes) : SRes := match r with
  | .ok a h => g a h
  | .exc C p h => .exc C p e h
  | .bad => .bad
@[simp] theorem Res.toS_ok {α : Type} (a : α) (h : OH) (e : Env') (g : α → OH → SRes) : (Res.ok a h).toS e g = g a h := rfl
@[simp] theorem Res.toS_bad {α : Type} (e : Env') (g : α → OH → SRes) : (Res.bad : Res α).toS e g = .bad := rfl
@[simp] theorem Res.toS_exc {α : Type} (C : String) (p : Pay) (h : OH) (e : Env') (g : α → OH → SRes) : (Res.exc C p h : Res α).toS e g = .exc C p e h := rfl
section
variable {K : PySem.W.Frag} {P : Pins} {W : WX} {σ : St} {F F' : Hp} {m m' : List Addr} {h : OH} {H : Hp} {e : Env'} {Dn : Ends}
theorem FinS.weak (x : Ext F m F' m') : ∀ {r : SRes}, FinS K P W Dn F m r → FinS K P W Dn F' m' r
  | .nx _ _, q => fun σ F2 m2 H2 y => q σ F2 m2 H2 (x.trans y)
  | .bk _ _, q => fun σ F2 m2 H2 y => q σ F2 m2 H2 (x.trans y)
  | .ct _ _, q => fun σ F2 m2 H2 y => q σ F2 m2 H2 (x.trans y)
  | .rt _ _, q => fun v F2 m2 H2 y => q v F2 m2 H2 (x.trans y)
  | .exc _ _ _ _, q => fun od σ F2 m2 H2 y => q od σ F2 m2 H2 (x.trans y)
  | .bad, q => q
/-- an expression, then more -/
theorem st_seq {α β : Type} {rel : Rel β α} {f : Env' → OH → Res α} {g : α → OH → SRes} {R : β → Hp → Prop} (S : Sim K P F m h H) (E : EnvR K F m σ e) (fin : FinS K P W Dn F m ((f e h).toS e g))
    (k : ∀ F' m' h' H' v a, Ext F m F' m' → Sim K P F' m' h' H' → EnvR K F' m' σ e → rel F' m' v a → FinS K P W Dn F' m' (g a h') → R v H') : rdG K W rel f σ H R := by
  refine ⟨P, F, m, e, h, S, E, ?_⟩
  cases q : f e h with
  | ok a h1 =>
    rw [q] at fin
    exact fun v F1 m1 H1 x S1 r => k F1 m1 h1 H1 v a x S1 (E.mono x) r (FinS.weak x fin)
  | exc C p h1 =>
    rw [q] at fin
    exact fun od F1 m1 H1 x S1 pd => fin od σ F1 m1 H1 x S1 pd (E.mono x)
  | bad =>
    rw [q] at fin
    exact fin.elim
theorem EnvR.set (E : EnvR K F m σ e) (i : Nat) {v : V} {d : D} (r : Den K F m v d) : EnvR K F m (σ.set i (some v)) (e.set i (some d)) := by
  refine ⟨by simp [E.len], fun j c q => ?_⟩
  by_cases hj : i = j
  · subst hj
    rw [List.getElem?_set] at q
    simp only [if_true] at q
    by_cases hi : i < e.length
    · rw [if_pos hi] at q
      simp only [Option.some.injEq] at q
      subst q
      exact ⟨v, by rw [List.getElem?_set_self (by rw [E.len]; exact hi)], r⟩
    · rw [if_neg hi] at q
      cases q
  · rw [List.getElem?_set_ne hj] at q
    obtain ⟨w, a, b⟩ := E.at_ j c q
    exact ⟨w, by rw [List.getElem?_set_ne hj]; exact a, b⟩
theorem EnvR.clr (E : EnvR K F m σ e) (i : Nat) : EnvR K F m (σ.set i none) (e.set i none) := by
  refine ⟨by simp [E.len], fun j c q => ?_⟩
  by_cases hj : i = j
  · subst hj
    rw [List.getElem?_set] at q
    simp only [if_true] at q
    split at q <;> cases q
  · rw [List.getElem?_set_ne hj] at q
    obtain ⟨w, a, b⟩ := E.at_ j c q
    exact ⟨w, by rw [List.getElem?_set_ne hj]; exact a, b⟩
def wipeD (e : Env') : List Nat → Env'
  | [] => e
  | v :: vs => (wipeD e vs).set v none
theorem EnvR.wipe (E : EnvR K F m σ e) : ∀ vs : List Nat, EnvR K F m (L2.wipe σ vs) (wipeD e vs)
  | [] => E
  | v :: vs => (E.wipe vs).clr v
end
theorem wipe_set {σ : St} {i : Nat} {x : Option V} : ∀ {vs : List Nat}, i ∈ vs → L2.wipe (σ.set i x) vs = L2.wipe σ vs
  | [], h => by simp at h
  | v :: vs, h => by
    show (L2.wipe (σ.set i x) vs).set v none = (L2.wipe σ vs).set v none
    by_cases hi : i ∈ vs
    · rw [wipe_set hi]
    · have hv : i = v := by
        rcases List.mem_cons.mp h with h | h
        · exact h
        · exact absurd h hi
      subst hv
      have comm : ∀ (ws : List Nat), i ∉ ws → L2.wipe (σ.set i x) ws = (L2.wipe σ ws).set i x := by
        intro ws
        induction ws with
        | nil => intro _; rfl
        | cons w ws ih =>
          intro hw
          simp only [List.mem_cons, not_or] at hw
          show (L2.wipe (σ.set i x) ws).set w none = ((L2.wipe σ ws).set w none).set i x
          rw [ih hw.2, List.set_comm _ _ (fun z => hw.1 z)]
      rw [comm vs hi, List.set_set]
section
variable {X : Cx} {W : WX}
theorem PS.of {st : Stmt} {t t' : TS} (h : PS X st t) (w : ∀ Dn σ H, t' Dn σ H → t Dn σ H) : PS X st t' := ⟨fun pins s σ H Dn I q => h.run pins s σ H Dn I (w Dn σ H q)⟩
theorem PSs.of {st : List Stmt} {t t' : TS} (h : PSs X st t) (w : ∀ Dn σ H, t' Dn σ H → t Dn σ H) : PSs X st t' := ⟨fun pins s σ H Dn I q => h.run pins s σ H Dn I (w Dn σ H q)⟩
def sNext : SS := fun e h => .nx e h
def sSeq (f g : SS) : SS := fun e h => match f e h with
  | .nx e1 h1 => g e1 h1
  | r => r
def sBreak : SS := fun e h => .bk e h
def sCont : SS := fun e h => .ct e h
def sExpr (f : SE) : SS := fun e h => (f e h).toS e fun _ h1 => .nx e h1
def sRet (f : SE) : SS := fun e h => (f e h).toS e fun d h1 => .rt d h1
def sRetN : SS := fun _ h => .rt .non h
def sSet (i : Nat) (f : SE) : SS := fun e h => (f e h).toS e fun d h1 => .nx (e.set i (some d)) h1
def sIfS (c : ST) (a b : SS) : SS := fun e h => (c e h).toS e fun t h1 => if t then a e h1 else b e h1
theorem ds_nil : DSs X W [] sNext := PSs.of pss_nil fun Dn σ H => by
  rintro ⟨P, F, m, e, h, S, E, fin⟩
  exact fin σ F m H .refl S E
theorem ds_cons {st : Stmt} {rest : List Stmt} {f g : SS} (h1 : DS X W st f) (h2 : DSs X W rest g) : DSs X W (st :: rest) (sSeq f g) := PSs.of (pss_cons h1 h2) fun Dn σ H => by
  rintro ⟨P, F, m, e, h, S, E, fin⟩
  refine ⟨P, F, m, e, h, S, E, ?_⟩
  unfold sSeq at fin
  cases q : f e h with
  | nx e1 h1 =>
    rw [q] at fin
    exact fun σ' F1 m1 H1 x S1 E1 => ⟨P, F1, m1, e1, h1, S1, E1, FinS.weak x fin⟩
  | bk e1 h1 => rw [q] at fin; exact fin
  | ct e1 h1 => rw [q] at fin; exact fin
  | rt d h1 => rw [q] at fin; exact fin
  | exc C p e1 h1 => rw [q] at fin; exact fin
  | bad => rw [q] at fin; exact fin
theorem ds_one {st : Stmt} {f : SS} (h1 : DS X W st f) : DSs X W [st] f := PSs.of (pss_one h1) fun Dn σ H q => q
theorem ds_expr {a : Expr} {f : SE} {pos : Pos} (ha : DE X W a f) (hs : swapsWith a none pos.line X.env = pure false := by rfl) : DS X W (.Expr a pos) (sExpr f) := PS.of (ps_expr ha hs) fun Dn σ H => by
  rintro ⟨P, F, m, e, h, S, E, fin⟩
  exact st_seq S E fin fun F1 m1 h1 H1 v d x S1 E1 r fin1 => fin1 σ F1 m1 H1 .refl S1 E1
theorem ds_ret {a : Expr} {f : SE} {pos : Pos} (ha : DE X W a f) : DS X W (.Return (some a) pos) (sRet f) := PS.of (ps_ret ha) fun Dn σ H => by
  rintro ⟨P, F, m, e, h, S, E, fin⟩
  exact st_seq S E fin fun F1 m1 h1 H1 v d x S1 E1 r fin1 => fin1 v F1 m1 H1 .refl S1 r
theorem ds_set (i : Nat) {x : Str} {a : Expr} {f : SE} {pos pos' : Pos} (hN : X.N.Nodup) (ha : DE X W a f) (hi : X.N[i]? = some x := by rfl) (hx : Loc X.env.scope x := by first | exact Or.inl rfl | exact Or.inr rfl) (hs : swapsWith a (some (.Name x pos')) pos.line X.env = pure false := by rfl)
    (hf : X.fn x = true ∨ X.env.scope.names.lookup x = some .local := by first | exact .inl rfl | exact .inr rfl | assumption) : DS X W (.Assign [.Name x pos'] a pos) (sSet i f) := PS.of (ps_set hN hi hx ha hs hf) fun Dn σ H => by
  rintro ⟨P, F, m, e, h, S, E, fin⟩
  exact st_seq S E fin fun F1 m1 h1 H1 v d x S1 E1 r fin1 => fin1 _ F1 m1 H1 .refl S1 (E1.set i r)
theorem ds_if {c : Expr} {a b : List Stmt} {fc : ST} {fa fb : SS} {pos : Pos} (hc : DT X W c fc) (ha : DSs X W a fa) (hb : DSs X W b fb) : DS X W (.If c a b pos) (sIfS fc fa fb) := PS.of (ps_if hc ha hb) fun Dn σ H => by
  rintro ⟨P, F, m, e, h, S, E, fin⟩
  refine st_seq S E fin fun F1 m1 h1 H1 v d x S1 E1 r fin1 => ?_
  have r : v = d := r
  subst r
  cases v with
  | true => exact ⟨P, F1, m1, e, h1, S1, E1, fin1⟩
  | false => exact ⟨P, F1, m1, e, h1, S1, E1, fin1⟩
/-! ### targets -/
abbrev TF := D → Env' → OH → Option Env'
def rdTG (K : PySem.W.Frag) (vs : List Nat) (g : TF) : TG := fun v σ H Q => ∃ P F m e h d, Sim K P F m h H ∧ EnvR K F m σ e ∧ Den K F m v d ∧ ∃ e', g d e h = some e' ∧ ∀ σ', EnvR K F m σ' e' → L2.wipe σ' vs = L2.wipe σ vs → Q σ' H
abbrev DG (X : Cx) (vs : List Nat) (tg : Expr) (g : TF) : Prop := PG X tg (rdTG X.K vs g)
abbrev TFs := List D → Env' → OH → Option Env'
def rdTGs (K : PySem.W.Frag) (vs : List Nat) (g : TFs) : TGs := fun ws σ H Q => ∃ P F m e h ds, Sim K P F m h H ∧ EnvR K F m σ e ∧ DenL K F m ws ds ∧ ∃ e', g ds e h = some e' ∧ ∀ σ', EnvR K F m σ' e' → L2.wipe σ' vs = L2.wipe σ vs → Q σ' H
abbrev DGs (X : Cx) (vs : List Nat) (ts : List Expr) (g : TFs) : Prop := PGs X ts (rdTGs X.K vs g)
theorem PG.of {tg : Expr} {t t' : TG} (h : PG X tg t) (w : ∀ v σ H Q, t' v σ H Q → t v σ H Q) : PG X tg t' := ⟨fun pins s σ H v u Q I r q => h.run pins s σ H v u Q I r (w v σ H Q q)⟩
theorem PGs.of {ts : List Expr} {t t' : TGs} (h : PGs X ts t) (w : ∀ v σ H Q, t' v σ H Q → t v σ H Q) : PGs X ts t' := ⟨fun pins s σ H v u Q I r q => h.run pins s σ H v u Q I r (w v σ H Q q)⟩
theorem pgOr {tg : Expr} {t t' : TG} (h : PG X tg t) (h' : PG X tg t') : PG X tg (fun v σ H Q => t v σ H Q ∨ t' v σ H Q) := ⟨fun pins s σ H v u Q I r q => q.elim (h.run pins s σ H v u Q I r) (h'.run pins s σ H v u Q I r)⟩
def gN (i : Nat) : TF := fun d e _ => some (e.set i (some d))
def gNl : TFs := fun ds e _ => match ds with
  | [] => some e
  | _ => none
def gCs (g : TF) (r : TFs) : TFs := fun ds e h => match ds with
  | d :: ds => (g d e h).bind fun e1 => r ds e1 h
  | [] => none
/-- a tuple or a list of n -/
def gT (n : Nat) (g : TFs) : TF := fun d e h => match seqAt h d with
  | some xs => if xs.length = n then g xs e h else none
  | none => none
theorem dg_name (i : Nat) {x : Str} {pos : Pos} {vs : List Nat} (hN : X.N.Nodup) (hi : X.N[i]? = some x := by rfl) (hx : Loc X.env.scope x := by first | exact Or.inl rfl | exact Or.inr rfl) (hv : i ∈ vs := by simp) (hf : X.fn x = true ∨ X.env.scope.names.lookup x = some .local := by first | exact .inl rfl | exact .inr rfl | assumption) : DG X vs (.Name x pos) (gN i) :=
  PG.of (pg_name hN hi hx hf) fun v σ H Q => by
    rintro ⟨P, F, m, e, h, d, S, E, r, e', q, k⟩
    cases q
    exact k _ (E.set i r) (wipe_set hv)
theorem dg_nil {vs : List Nat} : DGs X vs [] gNl := PGs.of pgs_nil fun v σ H Q => by
  rintro ⟨P, F, m, e, h, ds, S, E, r, e', q, k⟩
  cases r with
  | nil =>
    cases q
    exact ⟨rfl, k σ E rfl⟩
  | cons _ _ => cases q
theorem dg_cons {t : Expr} {ts : List Expr} {vs : List Nat} {g : TF} {gr : TFs} (h1 : DG X vs t g) (h2 : DGs X vs ts gr) (hs : (assignEach (t :: ts) X.env).map (·.2) = assign t X.env :: (assignEach ts X.env).map (·.2) := by rfl) : DGs X vs (t :: ts) (gCs g gr) := PGs.of (pgs_cons h1 h2 hs) fun v σ H Q => by
  rintro ⟨P, F, m, e, h, ds, S, E, r, e', q, k⟩
  cases r with
  | nil => cases q
  | @cons v d ws ds a b =>
    simp only [gCs, Option.bind_eq_some_iff] at q
    obtain ⟨e1, q1, q2⟩ := q
    exact ⟨v, ws, rfl, P, F, m, e, h, d, S, E, a, e1, q1, fun σ1 E1 w1 => ⟨P, F, m, e1, h, ds, S, E1, b, e', q2, fun σ2 E2 w2 => k σ2 E2 (w2.trans w1)⟩⟩
theorem dg_tup {ts : List Expr} {n j : Nat} {vs : List Nat} {pos : Pos} {gr : TFs} (hc : X.calm = true) (h : DGs X vs ts gr) (hn : ts.length = n := by rfl) (h1 : PG X (.Tuple ts j pos) (gTup X.K n (rdTGs X.K vs gr))) (h2 : PG X (.Tuple ts j pos) (gLst X.K n (rdTGs X.K vs gr))) : DG X vs (.Tuple ts j pos) (gT n gr) :=
  PG.of (pgOr h1 h2) fun v σ H Q => by
    rintro ⟨P, F, m, e, h, d, S, E, r, e', q, k⟩
    unfold gT at q
    cases q1 : seqAt h d with
    | none => rw [q1] at q; cases q
    | some xs =>
      rw [q1] at q
      dsimp only at q
      by_cases hz : xs.length = n
      · rw [if_pos hz] at q
        obtain ⟨a, ws, rfl, ha, rl⟩ := seqAt_ok S r q1
        have body : rdTGs X.K vs gr ws σ H Q := ⟨P, F, m, e, h, xs, S, E, rl, e', q, k⟩
        rcases ha with ha | ha
        · exact .inr ⟨a, ws, rfl, ha, by rw [rl.length]; exact hz, body⟩
        · exact .inl ⟨a, ws, rfl, ha, by rw [rl.length]; exact hz, body⟩
      · rw [if_neg hz] at q
        cases q
/-- target = e, a tuple of names -/
def sAsg (g : TF) (f : SE) : SS := fun e h => (f e h).toS e fun d h1 => match g d e h1 with
  | some e1 => .nx e1 h1
  | none => .bad
/-- a, b = x, y -/
def sPar (i j : Nat) (f : SA) : SS := fun e h => (f e h).toS e fun ds h1 => match ds with
  | [x, y] => .nx ((e.set i (some x)).set j (some y)) h1
  | _ => .bad
theorem ds_par {i j : Nat} {x y : Str} {a b : Expr} {fa : SA} {px py pt : Pos} {kt k2 : Nat} {pt2 pos : Pos} (hc : X.calm = true) (hN : X.N.Nodup) (ha : DA X W [a, b] fa) (hi : X.N[i]? = some x := by rfl) (hj : X.N[j]? = some y := by rfl) (hij : i ≠ j := by decide)
    (hx : X.env.scope.names.lookup x = some .local := by rfl) (hy : X.env.scope.names.lookup y = some .local := by rfl)
    (hw : swappedStores [.Tuple [.Name x px, .Name y py] kt pt] (.Tuple [a, b] k2 pt2) X.env = pure (some [x, y]) := by rfl)
    (hs : swapsWithSole [.Tuple [.Name x px, .Name y py] kt pt] (.Tuple [a, b] k2 pt2) pos.line X.env = pure false := by rfl) : DS X W (.Assign [.Tuple [.Name x px, .Name y py] kt pt] (.Tuple [a, b] k2 pt2) pos) (sPar i j fa) :=
  PS.of (ps_par hc hN hi hj hij hx hy ha hw hs) fun Dn σ H => by
    rintro ⟨P, F, m, e, h, S, E, fin⟩
    refine st_seq S E fin fun F1 m1 h1 H1 v d x S1 E1 r fin1 => ?_
    match d, r, fin1 with
    | [c1, c2], r, fin1 =>
      obtain ⟨v1, v2, rfl, r1, r2⟩ := denL2 r
      exact ⟨v1, v2, rfl, fin1 _ F1 m1 H1 .refl S1 ((E1.set i r1).set j r2)⟩
    | [], _, fin1 => exact fin1.elim
    | [_], _, fin1 => exact fin1.elim
    | _ :: _ :: _ :: _, _, fin1 => exact fin1.elim
/-! ### x op= e -/
def sAug (i : Nat) (g : D → D → OH → Res D) (f : SE) : SS := fun e h => match e[i]? with
  | some (some x) => (f e h).toS e fun y h1 => (g x y h1).toS e fun z h2 => .nx (e.set i (some z)) h2
  | _ => .bad
/-- o.f = e -/
def sFldS (C f : String) (o v : SE) : SS := fun e h => (v e h).toS e fun y h1 => (o e h1).toS e fun x h2 => match x with
  | .ref i => (match h2[i]? with
    | some (.ins C' fs) => if C' = C ∧ fs.length < 900 then .nx e (h2.set i (.ins C (putS f y fs))) else .bad
    | _ => .bad)
  | _ => .bad
theorem DenF.length {K : PySem.W.Frag} {F : Hp} {m : List Addr} : ∀ {fv : List (Str × V)} {fs : List (String × D)}, DenF K F m fv fs → fv.length = fs.length
  | _, _, .nil => rfl
  | _, _, .cons _ t => by rw [List.length_cons, List.length_cons, DenF.length t]
/-- x[i] = e, x an own list -/
def sIxS (o i v : SE) : SS := fun e h => (v e h).toS e fun y h1 => (o e h1).toS e fun x h2 => (i e h2).toS e fun k h3 => match x, k with
  | .ref n, .int j => (match h3[n]? with
    | some (.lst xs) => (match ixN xs.length j with
      | some q => .nx e (h3.set n (.lst (xs.set q y)))
      | none => .bad)
    | _ => .bad)
  | _, _ => .bad
theorem ds_ix {o i a : Expr} {fo fi fa : SE} {pos pos' : Pos} (ho : DE X W o fo) (hi : DE X W i fi) (ha : DE X W a fa)
    (hg : PG X (.Subscript o i pos') (gSub (rdG X.K W (Den X.K) fo) (rdG X.K W (Den X.K) fi) rSetL)) (hs : swapsWithSole [.Subscript o i pos'] a pos.line X.env = pure false := by rfl) (hw : swappedStores [.Subscript o i pos'] a X.env = pure none := by rfl) (h1 : (assignEach [.Subscript o i pos'] X.env).map (·.2) = [assign (.Subscript o i pos') X.env] := by rfl) :
    DS X W (.Assign [.Subscript o i pos'] a pos) (sIxS fo fi fa) := PS.of (ps_asg ha hg hs hw h1) fun Dn σ H => by
  rintro ⟨P, F, m, e, h, S, E, fin⟩
  refine st_seq S E fin fun F1 m1 h1 H1 y dy x1 S1 E1 ry fin1 => ?_
  refine st_seq S1 E1 fin1 fun F2 m2 h2 H2 x dx x2 S2 E2 rx fin2 => ?_
  refine st_seq S2 E2 fin2 fun F3 m3 h3 H3 z dz x3 S3 E3 rz fin3 => ?_
  cases rx with
  | @ref b n e1 =>
    cases rz with
    | int j =>
      have e2 := pre_get x3.p e1
      obtain ⟨ob, k1, k2⟩ := S3.own e2
      dsimp only at fin3
      rw [k1] at fin3
      cases ob with
      | lst xs =>
        dsimp only at fin3
        obtain ⟨vs, k3, k4, k5⟩ := k2
        cases q : ixN xs.length j with
        | none => rw [q] at fin3; exact fin3.elim
        | some t =>
          rw [q] at fin3
          exact ⟨b, vs, j, t, rfl, rfl, k3, by rw [k4.length]; exact q, fin3 σ F3 m3 _ .refl (S3.write e2 k1 k5 ⟨_, upd_same, k4.set (ry.mono (x2.trans x3)) t, k5⟩) E3⟩
      | _ => exact fin3.elim
    | _ => exact fin3.elim
  | _ => cases dz <;> exact fin3.elim
/-! ### while -/
end
end HR
set_option Elab.async false
set_option linter.all false
set_option maxRecDepth 100000
set_option maxHeartbeats 2000000
/-! LayF: what is walked, for, comprehensions, defs and their calls, the law's end. -/
namespace HR
open PySem L2
open PyProof.Rows (envOfC)
/-- the iterator J gives ds -/
def Walks (K : PySem.W.Frag) (F0 : Hp) (m0 : List Addr) (J : It) (ds : List D) : Prop :=
  ∀ (P : Pins) (F : Hp) (m : List Addr) (h : OH) (H : Hp) (i : Nat), Ext F0 m0 F m → Sim K P F m h H →
    (i < ds.length → J.go i H ∧ ∀ x H', J.yld i H x H' → ∃ F', Ext F m F' m ∧ Sim K P F' m h H' ∧ ∃ d, ds[i]? = some d ∧ Den K F' m x d) ∧ (ds.length ≤ i → J.stop i H)
abbrev relI (K : PySem.W.Frag) : Rel It (List D) := fun F m J ds => Walks K F m J ds
abbrev DI (X : Cx) (W : WX) (tg iter : Expr) (f : SA) : Prop := PI X tg iter (rdG X.K W (relI X.K) f)
theorem Walks.mono {K : PySem.W.Frag} {F F' : Hp} {m m' : List Addr} {J : It} {ds : List D} (x : Ext F m F' m') (w : Walks K F m J ds) : Walks K F' m' J ds := fun P F2 m2 h H i y S => w P F2 m2 h H i (x.trans y) S
theorem PI.of {X : Cx} {tg iter : Expr} {w w' : TI} (h : PI X tg iter w) (k : ∀ σ H R, w' σ H R → w σ H R) : PI X tg iter w' := ⟨fun pins s σ H R I q => h.run pins s σ H R I (k σ H R q)⟩
section
variable {X : Cx} {W : WX}
/-- what a for takes from a frozen list or tuple -/
def frzAt : D → Option (List D)
  | .lst xs => some xs
  | .scr xs => some xs
  | _ => none
theorem den_sq {K : PySem.W.Frag} {F : Hp} {m : List Addr} {v : V} {d : D} {xs : List D} (r : Den K F m v d) (q : frzAt d = some xs) : ∃ a vs, v = .ref a ∧ SqL K F a vs ∧ DenL K F m vs xs := by
  cases r with
  | lst e t => cases q; exact ⟨_, _, rfl, .inl (.inl e), t⟩
  | scr e t => cases q; exact ⟨_, _, rfl, e, t⟩
  | _ => cases q
theorem walks_list {K : PySem.W.Frag} {F : Hp} {m : List Addr} {a : Addr} {vs : List V} {xs : List D} (q : SqL K F a vs) (r : DenL K F m vs xs) : Walks K F m (Itl K a) xs := by
  intro P F2 m2 h H i x S
  have q2 : SqL K H a vs := S.sub.seq (x.s.seq q)
  refine ⟨fun hi => ?_, fun hi => ⟨vs, q2, by rw [r.length]; exact hi⟩⟩
  have hv : i < vs.length := by rw [r.length]; exact hi
  refine ⟨⟨vs, vs[i], q2, List.getElem?_eq_getElem hv⟩, fun y H' yl => ?_⟩
  obtain ⟨rfl, yl⟩ := yl
  obtain ⟨d, e1, r1⟩ := r.getV (yl vs q2)
  exact ⟨F2, .refl, S, d, e1, r1.mono x⟩
theorem walks_tup {K : PySem.W.Frag} {F : Hp} {m : List Addr} {a : Addr} {vs : List V} {xs : List D} (q : SqT K F a vs) (r : DenL K F m vs xs) : Walks K F m (Itt K a) xs := by
  intro P F2 m2 h H i x S
  have q2 : SqT K H a vs := Same.sqT S.sub (Same.sqT x.s q)
  refine ⟨fun hi => ?_, fun hi => ⟨vs, q2, by rw [r.length]; exact hi⟩⟩
  have hv : i < vs.length := by rw [r.length]; exact hi
  refine ⟨⟨vs, vs[i], q2, List.getElem?_eq_getElem hv⟩, fun y H' yl => ?_⟩
  obtain ⟨rfl, yl⟩ := yl
  obtain ⟨d, e1, r1⟩ := r.getV (yl vs q2)
  exact ⟨F2, .refl, S, d, e1, r1.mono x⟩
def rngD (lo : Int) (n : Nat) : List D := (List.range n).map fun (k : Nat) => D.int (lo + k)
theorem walks_rng {K : PySem.W.Frag} {F : Hp} {m : List Addr} (lo : Int) (n : Nat) : Walks K F m (Itr lo n) (rngD lo n) := by
  intro P F2 m2 h H i x S
  have hl : (rngD lo n).length = n := by simp [rngD]
  rw [hl]
  refine ⟨fun hi => ⟨hi, fun y H' yl => ?_⟩, fun hi => hi⟩
  obtain ⟨rfl, rfl⟩ := yl
  exact ⟨F2, .refl, S, .int (lo + i), by simp [rngD, hi], .int _⟩
/-- a list or a tuple -/
def sItS (f : SE) : SA := fun e h => (f e h).bind fun d h1 => match d with
  | .tup xs => .ok xs h1
  | d => (match frzAt d with
    | some xs => .ok xs h1
    | none => .bad)
theorem pi_or {tg iter : Expr} {w w' : TI} (a : PI X tg iter w) (b : PI X tg iter w') : PI X tg iter (fun σ H R => w σ H R ∨ w' σ H R) := ⟨fun pins s σ H R I q => q.elim (a.run pins s σ H R I) (b.run pins s σ H R I)⟩
/-- what both walk: decided by the value (the expression is read once by either rule) -/
theorem di_seq {tg a : Expr} {f : SE} (ha : DE X W a f) : DI X W tg a (sItS f) := PI.of (pi_or (pi_list ha) (pi_tup ha)) fun σ H R => by
  rintro ⟨P, F, m, e, h, S, E, fin⟩
  cases q : f e h with
  | bad => unfold sItS at fin; rw [q] at fin; exact fin.elim
  | exc C p h1 =>
    unfold sItS at fin
    rw [q] at fin
    exact .inl ⟨P, F, m, e, h, S, E, by rw [q]; exact fin⟩
  | ok d h1 =>
    unfold sItS at fin
    rw [q] at fin
    simp only [Res.bind_ok] at fin
    cases d with
    | tup xs =>
      refine .inr ⟨P, F, m, e, h, S, E, ?_⟩
      rw [q]
      intro v F1 m1 H1 x S1 r
      cases r with
      | @tup b vs ds q rl => exact ⟨b, rfl, ⟨vs, Same.sqT S1.sub q⟩, FinG.okX fin x S1 (walks_tup q rl)⟩
    | _ =>
      refine .inl ⟨P, F, m, e, h, S, E, ?_⟩
      rw [q]
      intro v F1 m1 H1 x S1 r
      first
        | exact False.elim fin
        | (obtain ⟨b, vs, rfl, hb, rl⟩ := den_sq r rfl
           exact ⟨b, rfl, ⟨vs, S1.sub.seq hb⟩, FinG.okX fin x S1 (walks_list hb rl)⟩)
def rngOk (i : Int) : Bool := decide (-(2 ^ 62) ≤ i) && decide (i < 2 ^ 62)
def sRng1 (a : SE) : SA := fun e h => (a e h).bind fun d h1 => match d with
  | .int j => if rngOk j then .ok (rngD 0 j.toNat) h1 else .bad
  | _ => .bad
def sRng2 (a b : SE) : SA := fun e h => (a e h).bind fun d h1 => (b e h1).bind fun d2 h2 => match d, d2 with
  | .int i, .int j => if rngOk i && rngOk j then .ok (rngD i (j - i).toNat) h2 else .bad
  | _, _ => .bad
theorem rngOk_ok {i : Int} (h : rngOk i = true) : -(2 ^ 62) ≤ i ∧ i < 2 ^ 62 := by
  unfold rngOk at h
  simpa using h
theorem di_rng1 {tg a : Expr} {f : SE} {p pos : Pos} (hg : Gl X "range") (hm : X.mg "range" = none) (ha : DE X W a f) (he : starEach [a] X.env = (false, eval a X.env) :: starEach [] X.env := by rfl) (hs : starEach [a] X.env = [(false, eval a X.env)] := by rfl) : DI X W tg (.Call (.Name "range" p) [a] [] pos) (sRng1 f) :=
  PI.of (pi_range1 hg hm (da_cons ha da_nil he) hs) fun σ H R => by
    rintro ⟨P, F, m, e, h, S, E, fin⟩
    refine ⟨P, F, m, e, h, S, E, ?_⟩
    unfold sRng1 at fin
    unfold sCons sNil
    cases q : f e h with
    | bad => rw [q] at fin; exact fin.elim
    | exc C p h1 => rw [q] at fin; exact fin
    | ok d h1 =>
      rw [q] at fin
      simp only [Res.bind_ok] at fin ⊢
      intro vs F1 m1 H1 x S1 r
      obtain ⟨v, rfl, r1⟩ := denL1 r
      cases d with
      | int j =>
        cases den_int r1
        dsimp only at fin
        by_cases hk : rngOk j = true
        · rw [if_pos hk] at fin
          have k := rngOk_ok hk
          exact ⟨j, rfl, k.1, k.2, FinG.okX fin x S1 (walks_rng 0 _)⟩
        · rw [if_neg hk] at fin
          exact fin.elim
      | _ => exact False.elim fin
/-! ### for -/
def forL (g : TF) (b : SS) : List D → SS
  | [] => fun e h => .nx e h
  | d :: ds => fun e h => match g d e h with
    | none => .bad
    | some e1 => (match b e1 h with
      | .nx e2 h2 => forL g b ds e2 h2
      | .ct e2 h2 => forL g b ds e2 h2
      | .bk e2 h2 => .nx e2 h2
      | r => r)
def sFor (it : SA) (g : TF) (b : SS) : SS := fun e h => (it e h).toS e fun ds h1 => forL g b ds e h1
theorem ds_for {tg iter : Expr} {body : List Stmt} {pos : Pos} {it : SA} {vs : List Nat} {g : TF} {b : SS} (hp : PassesOwn (model X.prog X.w) X.A X.env X.xe) (hc : X.calm = true) (hi : DI X W tg iter it) (hg : DG X vs tg g) (hb : DSs X W body b) (hs : ∀ x, foldedSetIterable iter X.env x = pure x := by intro _; rfl) :
    DS X W (.For tg iter body [] pos) (sFor it g b) := PS.of (ps_for hp hc hi hg hb hs) fun Dn σ H => by
  rintro ⟨P0, F0, m0, e0, h0, S0, E0, fin0⟩
  refine st_seq S0 E0 fin0 fun F1 m1 h1 H1 J ds x1 S1 E1 wk fin1 => ?_
  let Wd : Nat → Nat → St → Hp → Prop := fun i n σ H => ∃ P F m e h, Sim X.K P F m h H ∧ EnvR X.K F m σ e ∧ Ext F1 m1 F m ∧ n = (ds.drop i).length ∧ FinS X.K P W Dn F m (forL g b (ds.drop i) e h)
  refine ⟨Wd, ⟨ds.length, P0, F1, m1, e0, h1, S1, E1, .refl, by simp, by simpa using fin1⟩, ?_⟩
  rintro i n σ H ⟨P, F, m, e, h, S, E, x, rfl, fin⟩
  obtain ⟨w1, w2⟩ := wk P F m h H i x S
  by_cases hi : i < ds.length
  · obtain ⟨go, yl⟩ := w1 hi
    have dr : ds.drop i = ds[i] :: ds.drop (i + 1) := List.drop_eq_getElem_cons hi
    rw [dr] at fin
    refine .inr ⟨go, fun σ' H' => Wd (i + 1) (ds.drop (i + 1)).length σ' H', fun σ' H' q => ⟨_, by rw [dr]; exact Nat.lt_succ_self _, q⟩, fun y H' hy => ?_⟩
    obtain ⟨F2, x2, S2, d, e1, r⟩ := yl y H' hy
    have ed : d = ds[i] := by
      rw [List.getElem?_eq_getElem hi] at e1
      exact (Option.some.inj e1).symm
    subst ed
    simp only [forL] at fin
    cases q : g ds[i] e h with
    | none => rw [q] at fin; exact fin.elim
    | some e2 =>
      rw [q] at fin
      refine ⟨P, F2, m, e, h, _, S2, E.mono x2, r, e2, q, fun σ' E' _ => ⟨P, F2, m, e2, h, S2, E', ?_⟩⟩
      dsimp only at fin
      cases q3 : b e2 h with
      | nx e3 h3 => rw [q3] at fin; exact fun σ3 F3 m3 H3 x3 S3 E3 => ⟨P, F3, m3, e3, h3, S3, E3, x.trans (x2.trans x3), rfl, FinS.weak (x2.trans x3) fin⟩
      | ct e3 h3 => rw [q3] at fin; exact fun σ3 F3 m3 H3 x3 S3 E3 => ⟨P, F3, m3, e3, h3, S3, E3, x.trans (x2.trans x3), rfl, FinS.weak (x2.trans x3) fin⟩
      | bk e3 h3 => rw [q3] at fin; exact fun σ3 F3 m3 H3 x3 S3 E3 => fin σ3 F3 m3 H3 (x2.trans x3) S3 E3
      | rt d3 h3 => rw [q3] at fin; exact fun v F3 m3 H3 x3 S3 r3 => fin v F3 m3 H3 (x2.trans x3) S3 r3
      | exc C p e3 h3 => rw [q3] at fin; exact fun od σ3 F3 m3 H3 x3 S3 pd E3 => fin od σ3 F3 m3 H3 (x2.trans x3) S3 pd E3
      | bad => rw [q3] at fin; exact fin.elim
  · have hi2 : ds.length ≤ i := Nat.le_of_not_lt hi
    rw [List.drop_eq_nil_of_le hi2] at fin
    exact .inl ⟨w2 hi2, fin σ F m H .refl S E⟩
/-! ### comprehensions -/
def Res.noX {α : Type} : Res α → Res α
  | .ok a h => .ok a h
  | _ => .bad
def lcGo (g : TF) (tt : ST) (el : SE) (e : Env') : List D → OH → List D → Res (List D)
  | [], h, acc => .ok acc h
  | d :: ds, h, acc => match g d e h with
    | none => .bad
    | some e1 => (tt e1 h).noX.bind fun b h1 => if b then (el e1 h1).noX.bind fun y h2 => if acc.length < big then lcGo g tt el e ds h2 (acc ++ [y]) else .bad else lcGo g tt el e ds h1 acc
def sLc (own : Bool) (it : SA) (g : TF) (tt : ST) (el : SE) (vs : List Nat) : SE := fun e h => (it e h).bind fun ds h1 => (lcGo g tt el (wipeD e vs) ds h1 []).bind fun acc h2 => if own then .ok (.ref h2.length) (h2 ++ [.lst acc]) else .ok (.lst acc) h2
def sYes : ST := fun _ h => .ok true h
abbrev W0 : WX := fun _ _ _ _ => False
abbrev DTs (X : Cx) (W : WX) (ifs : List Expr) (f : ST) : Prop := PTs X ifs (rdG X.K W relB f)
theorem PTs.of {ifs : List Expr} {t t' : TT} (h : PTs X ifs t) (w : ∀ σ H Q, t' σ H Q → t σ H Q) : PTs X ifs t' := by
  obtain ⟨h⟩ := h
  constructor
  intro pins s σ H Q I q
  exact h pins s σ H Q I (w σ H Q q)
theorem dts_nil : DTs X W [] sYes := PTs.of pts_nil fun σ H Q => by
  rintro ⟨P, F, m, e, h, S, E, fin⟩
  exact fin.ok S rfl
theorem dts_one {c : Expr} {f : ST} (h : DT X W c f) : DTs X W [c] f := pts_one h
theorem lc_rd {it : SA} {g : TF} {tt : ST} {el : SE} {vs : List Nat} (own : Bool) {σ : St} {H : Hp} {Q : VK} (q : rdG X.K W (Den X.K) (sLc own it g tt el vs) σ H Q) :
    tLc (rdG X.K W (relI X.K) it) (rdTG X.K vs g) (rdG X.K W0 relB tt) (rdG X.K W0 (Den X.K) el) vs σ H Q := by
  obtain ⟨P0, F0, m0, e0, h0, S0, E0, fin0⟩ := q
  refine rd_seq S0 E0 fin0 fun F1 m1 h1 H1 J ds x1 S1 E1 wk fin1 => ?_
  intro D0 hD
  let go := lcGo g tt el (wipeD e0 vs)
  let fl : List D → OH → Res D := fun acc h2 => if own then .ok (.ref h2.length) (h2 ++ [.lst acc]) else .ok (.lst acc) h2
  let Wd : Nat → Nat → Hp → Prop := fun i n H => ∃ F m h acc ws, Sim X.K ((D0, .lst ws) :: P0) F m h H ∧ Ext F1 m1 F m ∧ DenL X.K F m ws acc ∧ acc.length ≤ big ∧ n = (ds.drop i).length ∧ FinG X.K P0 W σ (Den X.K) Q F m ((go (ds.drop i) h acc).bind fl)
  refine ⟨Wd, ⟨ds.length, F1, m1, h1, [], [], S1.hid hD, .refl, .nil, Nat.zero_le _, by simp, by simpa using fin1⟩, ?_⟩
  rintro i n H ⟨F, m, h, acc, ws, S, x, ra, hl, rfl, fin⟩
  obtain ⟨w1, w2⟩ := wk _ F m h H i x S
  by_cases hi : i < ds.length
  · obtain ⟨go1, yl⟩ := w1 hi
    have dr : ds.drop i = ds[i] :: ds.drop (i + 1) := List.drop_eq_getElem_cons hi
    rw [dr] at fin
    refine .inr ⟨go1, fun H' => Wd (i + 1) (ds.drop (i + 1)).length H', fun H' q => ⟨_, by rw [dr]; exact Nat.lt_succ_self _, q⟩, fun y H' hy => ?_⟩
    obtain ⟨F2, x2, S2, d, e1, r⟩ := yl y H' hy
    have ed : d = ds[i] := by
      rw [List.getElem?_eq_getElem hi] at e1
      exact (Option.some.inj e1).symm
    subst ed
    simp only [go, lcGo] at fin
    have E2 : EnvR X.K F2 m (L2.wipe σ vs) (wipeD e0 vs) := ((E1.mono (x.trans x2))).wipe vs
    cases q : g ds[i] (wipeD e0 vs) h with
    | none => rw [q] at fin; exact fin.elim
    | some e2 =>
      rw [q] at fin
      dsimp only at fin
      refine ⟨_, F2, m, wipeD e0 vs, h, _, S2, E2, r, e2, q, fun σ' E' wi => ⟨?_, _, F2, m, e2, h, S2, E', ?_⟩⟩
      · have idem : L2.wipe (L2.wipe σ vs) vs = L2.wipe σ vs := by
          have key : ∀ (us : List Nat) (τ : St), (∀ u ∈ us, ∀ z, τ[u]? = some z → z = none) → L2.wipe τ us = τ := by
            intro us
            induction us with
            | nil => intro τ _; rfl
            | cons u us ih =>
              intro τ hz
              show (L2.wipe τ us).set u none = τ
              rw [ih τ fun w hw => hz w (List.mem_cons_of_mem _ hw)]
              apply List.ext_getElem?
              intro j
              by_cases hj : u = j
              · subst hj
                rw [List.getElem?_set]
                simp only [if_true]
                by_cases hu : u < τ.length
                · rw [if_pos hu, List.getElem?_eq_getElem hu, hz u List.mem_cons_self τ[u] (List.getElem?_eq_getElem hu)]
                · rw [if_neg hu, List.getElem?_eq_none (Nat.le_of_not_lt hu)]
              · rw [List.getElem?_set_ne hj]
          refine key vs _ fun u hu z hz => ?_
          have cl : ∀ (us : List Nat) (τ : St), u ∈ us → (L2.wipe τ us)[u]? = some z → z = none := by
            intro us
            induction us with
            | nil => intro τ h; simp at h
            | cons w us ih =>
              intro τ h hz
              have hz : ((L2.wipe τ us).set w none)[u]? = some z := hz
              by_cases hw : w = u
              · subst hw
                rw [List.getElem?_set] at hz
                simp only [if_true] at hz
                split at hz
                · simpa using hz.symm
                · cases hz
              · rw [List.getElem?_set_ne hw] at hz
                rcases List.mem_cons.mp h with h | h
                · exact absurd h.symm hw
                · exact ih τ h hz
          exact cl vs σ hu hz
        rw [wi, idem]
      · cases qt : tt e2 h with
        | bad => rw [qt] at fin; exact fin.elim
        | exc C p h3 => rw [qt] at fin; exact fin.elim
        | ok b h3 =>
          rw [qt] at fin
          simp only [Res.noX, Res.bind_ok] at fin
          intro b' F3 m3 H3 x3 S3 rb
          have rb : b' = b := rb
          subst rb
          cases b' with
          | false =>
            simp only [Bool.false_eq_true, if_false] at fin ⊢
            exact ⟨F3, m3, h3, acc, ws, S3, x.trans (x2.trans x3), ra.mono (x2.trans x3), hl, rfl, FinG.weak (x2.trans x3) fin⟩
          | true =>
            simp only [if_true] at fin ⊢
            refine ⟨_, F3, m3, e2, h3, S3, E'.mono x3, ?_⟩
            cases qe : el e2 h3 with
            | bad => rw [qe] at fin; exact fin.elim
            | exc C p h4 => rw [qe] at fin; exact fin.elim
            | ok z h4 =>
              rw [qe] at fin
              simp only [Res.noX, Res.bind_ok] at fin
              intro v F4 m4 H4 x4 S4 rv
              have xx := x2.trans (x3.trans x4)
              by_cases hz : acc.length < big
              · rw [if_pos hz] at fin
                refine ⟨ws, (S4.pin _ List.mem_cons_self).1, by rw [ra.length]; exact big_lt hz, F4, m4, h4, acc ++ [z], ws ++ [v], S4.hidSet, x.trans xx, (ra.mono xx).append (.cons rv .nil), by simp; omega, rfl, FinG.weak xx fin⟩
              · rw [if_neg hz] at fin
                exact fin.elim
  · have hi2 : ds.length ≤ i := Nat.le_of_not_lt hi
    rw [List.drop_eq_nil_of_le hi2] at fin
    refine .inl ⟨w2 hi2, ?_⟩
    simp only [go, lcGo, Res.bind_ok, fl] at fin
    cases own with
    | true =>
      exact FinG.okX fin ext_new (S.hidOwn ra) (.ref (by rw [← S.len]; simp))
    | false =>
      obtain ⟨k1, k2, k3⟩ := S.pin _ List.mem_cons_self
      exact FinG.okX fin (ext_frz k2) S.hidFrz (.lst upd_same (ra.mono (ext_frz k2)))
theorem de_lc {elt tg iter : Expr} {ifs : List Expr} {scope : Scope} (own : Bool) (ow : List (Str × Nat)) {pos : Pos} {it : SA} {g : TF} {tt : ST} {el : SE} (hc : X.calm = true) (hN : X.N.Nodup) (hi : DI X W tg iter it) (ok : BlkOk X.N X.env.scope scope ow)
    (hg : ∀ (s : Shared) (H : Hp) (C : Addr) (cl : List (Str × Addr)) (fp : List Addr), DG (X.blk s H scope (compEnvC scope cl C X.env) fp) (ow.map (·.2)) tg g) (ht : ∀ (s : Shared) (H : Hp) (C : Addr) (cl : List (Str × Addr)) (fp : List Addr), DTs (X.blk s H scope (compEnvC scope cl C X.env) fp) W0 ifs tt)
    (he : ∀ (s : Shared) (H : Hp) (C : Addr) (cl : List (Str × Addr)) (fp : List Addr), DE (X.blk s H scope (compEnvC scope cl C X.env) fp) W0 elt el) (hs : ∀ x, foldedSetIterable iter X.env x = pure x := by intro _; rfl) :
    DE X W (.ListComp elt [⟨tg, iter, ifs, 0⟩] scope pos) (sLc own it g tt el (ow.map (·.2))) := PE.of (pe_lc hc hN hi ok hg ht he hs) fun σ H Q => lc_rd own
theorem ds_setLc (i : Nat) {y : Str} {py : Pos} {elt tg iter : Expr} {ifs : List Expr} {scope : Scope} (own : Bool) (ow : List (Str × Nat)) {pos spos : Pos} {it : SA} {g : TF} {tt : ST} {el : SE} (hc : X.calm = true) (hN : X.N.Nodup) (hi : DI X W tg iter it) (ok : BlkOk X.N X.env.scope scope ow)
    (hg : ∀ (s : Shared) (H : Hp) (C : Addr) (cl : List (Str × Addr)) (fp : List Addr), DG (X.blk s H scope (compEnvC scope cl C X.env) fp) (ow.map (·.2)) tg g) (ht : ∀ (s : Shared) (H : Hp) (C : Addr) (cl : List (Str × Addr)) (fp : List Addr), DTs (X.blk s H scope (compEnvC scope cl C X.env) fp) W0 ifs tt)
    (he : ∀ (s : Shared) (H : Hp) (C : Addr) (cl : List (Str × Addr)) (fp : List Addr), DE (X.blk s H scope (compEnvC scope cl C X.env) fp) W0 elt el)
    (hsw : swapsWith (.ListComp elt [⟨tg, iter, ifs, 0⟩] scope pos) (some (.Name y py)) spos.line X.env = pure true) (hy : X.N[i]? = some y := by rfl) (hyl : X.env.scope.names.lookup y = some .local := by rfl) (hs : ∀ x, foldedSetIterable iter X.env x = pure x := by intro _; rfl) :
    DS X W (.Assign [.Name y py] (.ListComp elt [⟨tg, iter, ifs, 0⟩] scope pos) spos) (sSet i (sLc own it g tt el (ow.map (·.2)))) := PS.of (ps_setLc (own := ow) hc hN hy hyl hsw hi ok hg ht he hs) fun Dn σ H => by
  rintro ⟨P, F, m, e, h, S, E, fin⟩
  refine lc_rd (W := W) own (st_seq S E fin fun F1 m1 h1 H1 v d x S1 E1 r fin1 => ?_)
  exact fin1 _ F1 m1 H1 .refl S1 (E1.set i r)
/-! ### defs -/
def fnOf (n : Nat) (body : SS) : FN := fun ds h => match body (ds.map some ++ List.replicate (n - ds.length) none) h with
  | .nx _ h1 => .ok .non h1
  | .rt d h1 => .ok d h1
  | .exc C p _ h1 => .exc C p h1
  | _ => .bad
def spN (K : PySem.W.Frag) (np : Nat) (f : FN) : Sp := fun vs H Q E => vs.length = np ∧ ∃ P F m ds h, Sim K P F m h H ∧ DenL K F m vs ds ∧ FinG K P (fun cls od _ H => E cls od H) [] (Den K) Q F m (f ds h)
theorem fn_ok {P : Program} {w : World} {K : PySem.W.Frag} {mg : Str → Option Value} {base : Heap} {CX : CXT} {x qual : Str} {params : Arguments} {body : List Stmt} {scope : Scope} {dvs : List V} {kws : List (Str × V)} {f : Addr} {fd : FuncData} {N ps : List Str} {k : Nat} {fB : SS}
    (Fu : FunD K x qual params body scope dvs kws f fd) (S : FnScope N ps scope) (hN : ps.length ≤ N.length)
    (hb : ∀ (cdv : Value) (A : Around) (outer : List Env) (s : Shared) (H : Hp) (E : XK), Room k (A.deeper (envOfC qual scope s.heap.objs.size f cdv)) → DSs (cxOf CX P w K mg base N qual scope f cdv A outer s H E) (fun cls od _ H => E cls od H) body fB) :
    FnOk P w K mg base CX (k + 1) f fd ps (spN K ps.length (fnOf N.length fB)) := by
  refine Fu.ok S (fun vs H Q E h => h.1) (fun cdv A outer s H vs Q E hr h => ?_)
  obtain ⟨hl, P0, F, m, ds, h, S0, r, fin⟩ := h
  refine ⟨_, hb cdv A outer s H E hr, P0, F, m, _, h, S0, (⟨?_, fun i d q => ?_⟩ : EnvR K F m (L2.start N vs) (ds.map some ++ List.replicate (N.length - ds.length) none)), ?_⟩
  · unfold L2.start
    simp [r.length]
  · have hi : i < ds.length := by
      by_cases hi : i < ds.length
      · exact hi
      · rw [List.getElem?_append_right (by simp; omega)] at q
        rw [List.getElem?_replicate] at q
        split at q <;> cases q
    rw [List.getElem?_append_left (by simpa using hi)] at q
    simp only [List.getElem?_map, Option.map_eq_some_iff] at q
    obtain ⟨d', q1, q2⟩ := q
    simp only [Option.some.injEq] at q2
    subst q2
    obtain ⟨v, e1, r1⟩ := r.get q1
    refine ⟨v, ?_, r1⟩
    unfold L2.start
    rw [List.getElem?_append_left (by simp; rw [r.length]; exact hi)]
    simp [e1]
  · unfold fnOf at fin
    cases q : fB (ds.map some ++ List.replicate (N.length - ds.length) none) h with
    | nx e1 h1 => rw [q] at fin; exact fun σ F1 m1 H1 x1 S1 E1 => fin .non F1 m1 H1 x1 S1 .non
    | rt d h1 => rw [q] at fin; exact fin
    | exc C p e1 h1 => rw [q] at fin; exact fun od σ F1 m1 H1 x1 S1 pd E1 => fin od F1 m1 H1 x1 S1 pd
    | bk e1 h1 => rw [q] at fin; exact fin.elim
    | ct e1 h1 => rw [q] at fin; exact fin.elim
    | bad => rw [q] at fin; exact fin.elim
/-! ### calls -/
/-- a call that sees none of the own objects -/
def pureF (f : FN) : FN := fun ds h => if D.pureL ds then (match f ds [] with
  | .ok d _ => if d.pure then .ok d h else .bad
  | .exc C none _ => .exc C none h
  | .exc C (some q) _ => if q.2.pure then .exc C (some q) h else .bad
  | .bad => .bad) else .bad
theorem pure_sp {K : PySem.W.Frag} {np : Nat} {f : FN} {vs : List V} {H : Hp} {Q : VK} {E : XK} (h : spN K np (pureF f) vs H Q E) : spN K np f vs H Q E := by
  obtain ⟨hl, P, F, m, ds, h, S, r, fin⟩ := h
  unfold pureF at fin
  by_cases hp : D.pureL ds = true
  · rw [if_pos hp] at fin
    refine ⟨hl, _, F, [], ds, [], S.hide, r.pureM hp, ?_⟩
    cases q : f ds [] with
    | ok d h' =>
      rw [q] at fin
      dsimp only at fin
      by_cases hd : d.pure = true
      · rw [if_pos hd] at fin
        exact fun v F' m' H' x S' rv => FinG.okX fin ⟨x.s, List.prefix_rfl⟩ (S.unhide x.s S') (rv.pureM hd)
      · rw [if_neg hd] at fin
        exact fin.elim
    | exc C p h' =>
      rw [q] at fin
      cases p with
      | none =>
        intro od F' m' H' x S' pd
        exact fin od F' m H' ⟨x.s, List.prefix_rfl⟩ (S.unhide x.s S') pd
      | some z =>
        dsimp only at fin
        by_cases hd : z.2.pure = true
        · rw [if_pos hd] at fin
          intro od F' m' H' x S' pd
          obtain ⟨a, v, e1, e2, e3⟩ := pd
          exact fin od F' m H' ⟨x.s, List.prefix_rfl⟩ (S.unhide x.s S') ⟨a, v, e1, e2, e3.pureM hd⟩
        · rw [if_neg hd] at fin
          exact fin.elim
    | bad => rw [q] at fin; exact fin
  · rw [if_neg hp] at fin
    exact fin.elim
theorem FnOk.pure {P : Program} {w : World} {K : PySem.W.Frag} {mg : Str → Option Value} {base : Heap} {CX : CXT} {k : Nat} {f : Addr} {fd : FuncData} {ps : List Str} {g : FN} (F : FnOk P w K mg base CX k f fd ps (spN K ps.length g)) : FnOk P w K mg base CX k f fd ps (spN K ps.length (pureF g)) := L2.FnOk.imp F fun _ _ _ _ h => pure_sp h
section
variable {CX : CXT} {k : Nat} {f : Addr} {fd : FuncData} {ps : List Str} {g : FN}
def withD (dd : List D) (g : FN) : FN := fun ds h => g (ds ++ dd) h
/-- f(e, ..); dd: the defaults that fill up -/
theorem de_call {x : Str} {p pos : Pos} {a : Expr} {es : List Expr} {fa : SA} {dvs : List V} {dus : List Value} (dd : List D) (Fk : FnOk X.prog X.w X.K X.mg X.base CX k f fd ps (spN X.K ps.length g)) (hr : Room k X.A) (hm : X.mg x = some (.ref f)) (hk : PySem.W.keepIn X.K (.ref f) = true) (hb : Binds X.K fd ps dus) (hd : Vals dvs dus)
    (hdd : ∀ F m, DenL X.K F m dvs dd) (hn : (a :: es).length + dvs.length = ps.length) (hx : ∀ σ, PassesAt CX X σ fun cls od H => W cls od σ H) (ha : DA X W (a :: es) fa) (hl : ∀ e h ds h', fa e h = .ok ds h' → ds.length = (a :: es).length) (hg : Gl X x := by rfl) (hdb : (x == ("__debug__" : Str)) = false := by decide)
    (he : starEach (a :: es) X.env = (false, eval a X.env) :: starEach es X.env := by rfl) (hpl : (backTo pos (starEach es X.env)).any (·.1) = false := by rfl) : DE X W (.Call (.Name x p) (a :: es) [] pos) (sCall (withD dd g) fa) :=
  PE.of (pe_callSD Fk hr hg hm hk hb hd hx ha hdb he hpl) fun σ H Q => by
    rintro ⟨P, F, m, e, h, S, E, fin⟩
    refine ⟨P, F, m, e, h, S, E, ?_⟩
    unfold sCall at fin
    cases q : fa e h with
    | bad => rw [q] at fin; exact fin.elim
    | exc C p h1 => rw [q] at fin; exact fin
    | ok ds h1 =>
      rw [q] at fin
      intro vs F1 m1 H1 x1 S1 r1
      exact ⟨by rw [List.length_append, r1.length, hl e h ds h1 q]; exact hn, P, F1, m1, ds ++ dd, h1, S1, r1.append (hdd F1 m1), FinG.weak x1 fin⟩
theorem sNil_len : ∀ e h ds h', sNil e h = .ok ds h' → ds.length = 0 := fun e h ds h' q => by
  cases q
  rfl
theorem sCons_len {fa : SE} {fr : SA} {n : Nat} (k : ∀ e h ds h', fr e h = .ok ds h' → ds.length = n) : ∀ e h ds h', sCons fa fr e h = .ok ds h' → ds.length = n + 1 := fun e h ds h' q => by
  unfold sCons at q
  cases q1 : fa e h with
  | bad => rw [q1] at q; cases q
  | exc C p h1 => rw [q1] at q; cases q
  | ok x h1 =>
    rw [q1] at q
    simp only [Res.bind_ok] at q
    cases q2 : fr e h1 with
    | bad => rw [q2] at q; cases q
    | exc C p h2 => rw [q2] at q; cases q
    | ok xs h2 =>
      rw [q2] at q
      simp only [Res.bind_ok, Res.ok.injEq] at q
      rw [← q.1, List.length_cons, k e h1 xs h2 q2]
theorem passAt0 {σ : St} {E : XK} : PassesAt CX0 X σ E := fun _ _ _ _ _ _ h => h.elim
/-- o.m(e, ..), the class written: nothing is raised -/
def sMeth (C mt : String) (g : FN) (o : SE) (a : SA) : SE := fun e h => (o e h).bind fun x h1 => match insAt h1 x with
  | some q => if q.1 = C ∧ q.2.lookup mt = none then (a e h1).bind fun ys h2 => (g (x :: ys) h2).noX else .bad
  | none => .bad
/-- C(e, ..), the instance an own object -/
def sMake (C : String) (g : FN) (a : SA) : SE := fun e h => (a e h).bind fun ys h1 => (g (.ref h1.length :: ys) (h1 ++ [.ins C []])).noX.bind fun d h2 => match d with
  | .non => .ok (.ref h1.length) h2
  | _ => .bad
theorem DenF.pureM {K : PySem.W.Frag} {F : Hp} {m m' : List Addr} : ∀ {vs : List (Str × V)} {ds : List (String × D)}, DenF K F m vs ds → D.pureF ds = true → DenF K F m' vs ds
  | _, _, .nil, _ => .nil
  | _, _, .cons h t, e => by
    have e' := and2 (by simpa only [D.pureF] using e)
    exact .cons (h.pureM e'.1) (DenF.pureM t e'.2)
end
/-! ### an own list is frozen -/
def frzE (f : SE) : SE := fun e h => (f e h).bind fun d h1 => match d with
  | .ref i => (match h1[i]? with
    | some (.lst xs) => .ok (.lst xs) (h1.set i .dead)
    | _ => .bad)
  | _ => .bad
theorem de_frz {a : Expr} {f : SE} (ha : DE X W a f) : DE X W a (frzE f) := PE.of ha fun σ H Q => by
  rintro ⟨P, F, m, e, h, S, E, fin⟩
  refine ⟨P, F, m, e, h, S, E, ?_⟩
  unfold frzE at fin
  cases q : f e h with
  | bad => rw [q] at fin; exact fin.elim
  | exc C p h1 => rw [q] at fin; exact fin
  | ok d h1 =>
    rw [q] at fin
    simp only [Res.bind_ok] at fin
    intro v F1 m1 H1 x S1 r
    cases r with
    | @ref b i e1 =>
      obtain ⟨o, k1, k2⟩ := S1.own e1
      dsimp only at fin
      rw [k1] at fin
      cases o with
      | lst xs =>
        obtain ⟨vs, k3, k4, k5⟩ := k2
        exact FinG.okX fin (x.trans (ext_frz k5)) (S1.freeze e1 k5 k3) (.lst upd_same (k4.mono (ext_frz k5)))
      | _ => exact fin.elim
    | _ => exact fin.elim
end
/-! ### the law's end -/
theorem law_sp {K : PySem.W.Frag} {g : FN} {n : Nat} (hg : ∀ ns : List Int, ns.length ≤ n → ∃ h', g [.scr (ns.map D.int)] [] = .ok (.bl true) h') (H : Hp) (a : Addr) (ns : List Int) (hl : ns.length ≤ n) (hO : Only H) (hS : SqL K H a (ns.map V.int)) : spN K 1 g [.ref a] H (fun v _ => v = .bl true) fun _ _ _ => False := by
  obtain ⟨h', e⟩ := hg ns hl
  refine ⟨rfl, [], H, [], [.scr (ns.map D.int)], [], ⟨Same.refl _, rfl, List.nodup_nil, fun _ z => by simp at z, fun _ _ _ z => by simp at z, fun _ z => by simp at z, by simp⟩, .cons (.scr hS (DenL.ints ns)) .nil, ?_⟩
  rw [e]
  intro v F' m' H' x S r
  exact den_bl r
end HR
set_option Elab.async false
set_option linter.all false
set_option maxRecDepth 100000
set_option maxHeartbeats 4000000
/-! LayG: len(set(xs)) of ints and texts; signs of a text; in; repr. -/
namespace HR
open PySem L2
/-! ### set(xs) of keys -/
abbrev inK (acc : List Key) : Key → Bool := fun k => acc.any fun y => decide (y = k)
/-- keys met so far, each once, in order -/
def ddK : List Key → List Key → List Key
  | acc, [] => acc
  | acc, x :: r => ddK (if inK acc x then acc else acc ++ [x]) r
section
variable {prog : Program} {w : World} {A : Around} {R : Result → Shared → Prop} {I : Addr} {fp wr : List Addr} {G : Array GenState → Array GenState → Prop} {n : Nat} {PV : Nat → Value → Prop} {StI : Nat → Shared → Prop}
theorem setOf_eq {h : Heap} {S : Addr} {f f' : Key → Bool} {c c' : Nat} (q : h.SetOf (mixKind prog w) S f c) (e : ∀ k, f k = f' k) (e2 : c = c') : h.SetOf (mixKind prog w) S f' c' := by
  obtain rfl : f = f' := funext e
  exact e2 ▸ q
theorem setOf_moved {h h' : Heap} {S : Addr} {f : Key → Bool} {c : Nat} (q : h.SetOf (mixKind prog w) S f c) (k : ∀ o, h.get? S = some o → h'.get? S = some o) : h'.SetOf (mixKind prog w) S f c := by
  obtain ⟨o, es, ep, t, ho, r⟩ := q
  exact ⟨o, es, ep, t, k o ho, r⟩
theorem set_loopK (Wk : WalksS prog w A.in1 I fp wr G n PV StI) (S : Addr) (hSf : S ∉ fp) (ks : List Key) (hlen : ks.length = n) (hn : n + 1 < scanBound) (hval : ∀ (i : Nat) (v : Value), PV i v → ∃ k, ks[i]? = some k ∧ keyIs k v = true) :
    ∀ (rest : List Key) (i : Nat) (acc : List Key) (s : Shared), ks.drop i = rest → acc.length ≤ i → i ≤ n → StI i s → s.heap.SetOf (mixKind prog w) S (inK acc) acc.length →
      (∀ s', Moved (S :: wr) G s s' → s'.heap.SetOf (mixKind prog w) S (inK (ddK acc rest)) (ddK acc rest).length → R (.ok (.ret .none)) s') →
      codeAny (model prog w) A (.builtin "set.update.loop" ⟨[.ref S, .ref I], []⟩) R s := by
  have hSw : S ∉ wr := fun z => hSf (Wk.sub _ z)
  have more : ∀ b ∈ wr, b ∈ S :: wr := fun b z => List.mem_cons_of_mem _ z
  intro rest
  induction rest with
  | nil =>
    intro i acc s hr ha hi st hS hR
    have hin : i = n := by
      have z := congrArg List.length hr
      simp at z
      omega
    subst hin
    refine codeAny_builtin (PyProof.Rows.F.entry_set_update_loop) ?_
    rw [Around.under_plainId (PyProof.Rows.F.plain_set_update_loop) _]
    refine wpAny_bind (m := pyNext (.ref I)) (Wk.done s _ _ st fun s' mv => ?_)
    show wpAny _ A.in1 (ret .none) _ _ s'
    exact wpAny_pure (hR s' (mv.mono more) (setOf_moved hS fun o e => mv.heap S o hSw e))
  | cons x r ih =>
    intro i acc s hr ha hi st hS hR
    have hlt : i < n := by
      have z := congrArg List.length hr
      simp at z
      omega
    have hx : ks[i]? = some x := by
      have z : (ks.drop i)[0]? = some x := by rw [hr]; rfl
      simpa using z
    have hr2 : ks.drop (i + 1) = r := by
      have z := congrArg (List.drop 1) hr
      rw [List.drop_drop] at z
      simpa [Nat.add_comm] using z
    refine codeAny_builtin (PyProof.Rows.F.entry_set_update_loop) ?_
    rw [Around.under_plainId (PyProof.Rows.F.plain_set_update_loop) _]
    refine wpAny_bind (m := pyNext (.ref I)) (Wk.item i s _ _ hlt st fun v s' hv st' mv => ?_)
    obtain ⟨k, e1, hk⟩ := hval i v hv
    rw [hx] at e1
    obtain rfl : x = k := Option.some.inj e1
    have hS' := setOf_moved hS fun o e => mv.heap S o hSw e
    show wpAny _ A.in1 (holding [v] (setAdd S v) >>= _) _ _ s'
    refine wpAny_bind (wpAny_holding ?_)
    unfold setAdd
    refine wpAny_holding (wpAny_bind ((mixKind prog w).pyHash (k := x) (by rw [mixKind_is]; exact hk) ?_))
    have sc : v.scannable = true := by
      rcases keyIs_shape hk with ⟨a, t, rfl, rfl⟩ | ⟨a, t, rfl, rfl⟩ <;> rfl
    refine wpAny_setAddHashed_of (knd := mixKind prog w) (s := { s' with toks := s'.toks + 1 }) (by rw [mixKind_is]; exact hk) sc hS' (by omega) fun h' hsb hS2 => ?_
    let acc2 := if inK acc x then acc else acc ++ [x]
    have hS3 : h'.SetOf (mixKind prog w) S (inK acc2) acc2.length := by
      refine setOf_eq hS2 (fun k' => ?_) ?_
      · show (inK acc k' || decide (k' = x)) = inK acc2 k'
        simp only [acc2]
        cases c : inK acc x with
        | true =>
          simp only [if_true]
          by_cases ek : k' = x
          · subst ek; simp [c]
          · simp [ek]
        | false =>
          have comm : decide (k' = x) = decide (x = k') := by
            by_cases ek : k' = x
            · subst ek; simp
            · have ek2 : ¬ x = k' := fun z => ek z.symm
              simp [ek, ek2]
          simp [inK, comm]
      · show (if inK acc x = true then acc.length else acc.length + 1) = (if inK acc x = true then acc else acc ++ [x]).length
        cases inK acc x <;> simp
    have ha2 : acc2.length ≤ i + 1 := by
      show (if inK acc x = true then acc else acc ++ [x]).length ≤ i + 1
      cases inK acc x <;> simp <;> omega
    have ne : ∀ b, b ≠ S → ∀ o, s'.heap.get? b = some o → h'.get? b = some o := fun b hb o e => (hsb.2 b hb).trans e
    refine wpAny_pure ⟨plainId_quiet PyProof.Rows.F.plain_set_update_loop _, ih (i + 1) acc2 _ hr2 ha2 hlt (Wk.frame _ s' _ _ st' (Nat.le_succ _) fun b hb o e => ne b (fun z => hSf (z ▸ hb)) o e) hS3 fun s2 mv2 hS4 => ?_⟩
    exact hR s2 (Moved.trans Wk.gtrans ((mv.mono more).then_heap (Nat.le_succ _) fun b o hb e => ne b (fun z => hb (by rw [z]; exact List.mem_cons_self)) o e) mv2) hS4
end
section
variable {prog : Program} {w : World} {A : Around} {E : Value → Shared → Prop} {s : Shared}
/-- set(xs), xs a list of ints and texts -/
theorem set_of_keys {l : Addr} {items : Array Value} {ks : List Key} {Q : Value → Shared → Prop} (hh : A.handled = none) (hl : s.heap.IsList l items) (hlen : ks.length = items.size) (hi : ∀ (i : Nat) (v : Value), items[i]? = some v → ∃ k, ks[i]? = some k ∧ keyIs k v = true) (hb : items.size + 1 < scanBound)
    (h : ∀ (h' : Heap) (tk : Nat), h'.SetOf (mixKind prog w) s.heap.objs.size (inK (ddK [] ks)) (ddK [] ks).length → (∀ b o, b < s.heap.objs.size → s.heap.get? b = some o → h'.get? b = some o) → Q (.ref s.heap.objs.size) { s with heap := h', toks := tk }) :
    wpAny (model prog w) A (call (.type "set") [.ref l]) Q E s := by
  let fresh (led : Bool) : Obj := { cls := .type "set", dict := none, data := .set #[] 0 (.fresh 0 0 led) }
  obtain ⟨c, tl, hmro⟩ := PySem.F.called_set.mro
  have f1 := PySem.F.called_set.made; have f2 := PySem.F.called_set.sub
  refine wpAny_call (codeAny_of_tree ?_)
  show wpAny _ _ (callAny (.type "set") ⟨[.ref l], []⟩) _ _ _
  refine wpAny_pure ⟨Code.quiet_builtin _ (by decide +kernel), codeAny_builtin (PySem.F.entry_type_call) ?_⟩
  rw [Around.under_plain (weight_type_call_type "set" [.ref l] []) rfl]
  have f3 := PySem.F.called_set.notType; have f4 := PySem.F.called_set.canCreate; have f5 := PySem.F.typeCall_set_1 (.ref l)
  repeat (any_goals (first | assumption | wp_step))
  refine codeAny_mono (code_set_new_1 (.ref l) (E := E) (Q₁ := fun ob t => ∃ led, ob = .ref s.heap.objs.size ∧ t = { s with heap := s.heap.push (fresh led) }) fun led => ⟨led, rfl, rfl⟩) fun r t hr => ?_
  cases r with
  | error e => exact hr
  | ok fl =>
    cases fl with
    | ret ob =>
      obtain ⟨led, rfl, rfl⟩ := hr
      have gS : (s.heap.push (fresh led)).get? s.heap.objs.size = some (fresh led) := Heap.get?_push_size _ rfl
      have tS : Shared.TypeIs { s with heap := s.heap.push (fresh led) } (.ref s.heap.objs.size) "set" := ⟨_, gS, rfl⟩
      have f6 := PySem.F.called_set.init.lookup; have f7 := PySem.F.called_set.init.bind (.ref s.heap.objs.size)
      repeat (any_goals (first | assumption | wp_step))
      let Done : Value → Shared → Prop := fun r t => r = .none ∧ ∃ h' tk, t = { s with heap := h', toks := tk } ∧ h'.SetOf (mixKind prog w) s.heap.objs.size (inK (ddK [] ks)) (ddK [] ks).length ∧ ∀ b o, b < s.heap.objs.size → s.heap.get? b = some o → h'.get? b = some o
      refine codeAny_mono (codeAny_call_builtin (R := wants Done E) PySem.F.called_set.init.plain PySem.F.entry_set_init (check_set_init_1 tS ?_)) fun r₂ t₂ hr₂ => ?_
      · obtain ⟨ol, hol, hcl, nl, hdl⟩ := hl
        obtain ⟨c0, d0, dt0, sl0⟩ := ol
        simp only at hcl hdl; subst hcl hdl
        have hol' : (s.heap.push (fresh led)).get? l = some { cls := .type "list", dict := d0, data := .seq items nl, slots := sl0 } := Heap.get?_push_of_some _ hol
        have g1 := PySem.F.sub_list_set; have g2 := PySem.F.sub_list_frozenset; have g3 : (Value.type "list" == Value.type "dict") = false := by decide
        have hl1 : (s.heap.push (fresh led)).IsList l items := ⟨_, hol', rfl, nl, rfl⟩
        unfold Builtin.«set.__init__»; unfold noKeywords Builtin.Frozenset.updateFrom
        generalize hPI : pyIter = PI
        wp_walk
        subst hPI
        refine wpAny_pyIter_list hl1 (?_)
        refine wpAny_bind (wpAny_runValue (?_))
        have lS : l < s.heap.objs.size := Heap.lt_size hol
        have hh3 : A.in1.in1.in1.handled = none := by rw [show A.in1.in1.in1.handled = A.handled from by simp]; exact hh
        have sz : (s.heap.push (fresh led)).objs.size = s.heap.objs.size + 1 := Heap.size_push _ _
        have nI : l ≠ (s.heap.push (fresh led)).objs.size := by rw [sz]; exact Nat.ne_of_lt (Nat.lt_succ_of_lt lS)
        have nS : s.heap.objs.size ∉ [(s.heap.push (fresh led)).objs.size, l] := by
          rw [sz]
          intro z
          simp only [List.mem_cons, List.not_mem_nil, or_false] at z
          rcases z with z | z
          · exact absurd z (Nat.ne_of_lt (Nat.lt_succ_self _))
          · exact absurd z (Nat.ne_of_gt lS)
        refine set_loopK ((Walks.list hh3 _ l nI items).toS) s.heap.objs.size nS ks hlen hb hi ks 0 [] _ (by simp) (Nat.le_refl _) (Nat.zero_le _) ⟨⟨_, Heap.get?_push_size _ rfl, rfl, rfl⟩, (hl1.push _)⟩ ?hS0 ?hR
        case hS0 =>
          exact ⟨_, #[], 0, _, Heap.get?_push_of_some _ gS, ⟨rfl, rfl, rfl⟩, rfl, fun e he => by simp at he, fun k => by simp [inK], by decide, by rfl, rfl⟩
        case hR =>
          intro t' mv hS'
          obtain ⟨h', g', d', tk', os'⟩ := t'
          obtain rfl : g' = s.gens := mv.gens
          obtain rfl : d' = s.drawn := mv.drawn
          obtain rfl : os' = s.os := mv.os
          refine wpAny_pure ?_
          show wpAny _ _ (ret .none) _ _ _
          refine wpAny_pure ⟨rfl, h', tk', rfl, hS', fun b o hb e => ?_⟩
          refine mv.heap b o (fun z => ?_) (Heap.get?_push_of_some _ (Heap.get?_push_of_some _ e))
          rcases List.mem_cons.mp z with z | z
          · exact absurd z (Nat.ne_of_lt hb)
          · rw [sz] at z
            rcases List.mem_singleton.mp z with rfl
            exact absurd (Nat.lt_of_lt_of_le hb (Nat.le_succ _)) (Nat.lt_irrefl _)
      · cases r₂ with
        | error e => exact hr₂
        | ok fl₂ =>
          cases fl₂ with
          | ret r =>
            obtain ⟨rfl, h', tk, rfl, hS', hk'⟩ := hr₂
            repeat (any_goals (first | assumption | wp_step))
            exact h _ _ hS' hk'
          | _ => exact hr₂.elim
    | _ => exact hr.elim
end
end HR
set_option Elab.async false
set_option linter.all false
set_option maxRecDepth 100000
set_option maxHeartbeats 4000000
/-! LayH: len(set(xs)), signs of a text, in, repr; defs that may call repr. -/
namespace HR
open PySem L2
open PyProof.Rows (envOfC)
/-! ### defs called where no repr runs -/
structure FnOkG (P : Program) (w : World) (K : PySem.W.Frag) (mg : Str → Option Value) (base : Heap) (CX : CXT) (k : Nat) (f : Addr) (fd : FuncData) (ps : List Str) (sp : Sp) : Prop where
  len : ∀ vs H Q E, sp vs H Q E → vs.length = ps.length
  run : ∀ (A : Around) (out : List Env) (s : Shared) (H : Hp) (args : Args) (us : List Value) (vs : List V) (Q : VK) (E : XK), Room k A → A.guards = some [] → Env0 P w K mg base A out s H → BindsTo s fd args (ps.zip us) → Vals vs us → sp vs H Q E →
    codeAny (model P w) A (.call (.ref f) args) (CR CX out P w H s Q E) s
section
variable {P : Program} {w : World} {K : PySem.W.Frag} {mg : Str → Option Value} {base : Heap} {CX : CXT} {k : Nat} {f : Addr} {fd : FuncData} {ps : List Str} {sp : Sp}
theorem FnOkG.mono {j : Nat} (F : FnOkG P w K mg base CX j f fd ps sp) (hj : j ≤ k) : FnOkG P w K mg base CX k f fd ps sp := ⟨F.len, fun A out s H args us vs Q E hr => F.run A out s H args us vs Q E (hr.mono hj)⟩
theorem FnOkG.pure {g : FN} (F : FnOkG P w K mg base CX k f fd ps (spN K ps.length g)) : FnOkG P w K mg base CX k f fd ps (spN K ps.length (pureF g)) :=
  ⟨fun vs H Q E q => F.len vs H Q E (pure_sp q), fun A out s H args us vs Q E hr hg e0 hb r q => F.run A out s H args us vs Q E hr hg e0 hb r (pure_sp q)⟩
theorem fn_okG {x qual : Str} {params : Arguments} {body : List Stmt} {scope : Scope} {dvs : List V} {kws : List (Str × V)} {N : List Str} {fB : SS}
    (Fu : FunD K x qual params body scope dvs kws f fd) (S : FnScope N ps scope) (hN : ps.length ≤ N.length)
    (hb : ∀ (cdv : Value) (A : Around) (outer : List Env) (s : Shared) (H : Hp) (E : XK), Room k (A.deeper (envOfC qual scope s.heap.objs.size f cdv)) → A.guards = some [] → DSs (cxOf CX P w K mg base N qual scope f cdv A outer s H E) (fun cls od _ H => E cls od H) body fB) :
    FnOkG P w K mg base CX (k + 1) f fd ps (spN K ps.length (fnOf N.length fB)) := by
  obtain ⟨oc, od, dV, kV, doc, pm, an, cdv, ct, osl, rfl, lk, hcd, _, _⟩ := Fu.ex
  refine ⟨fun vs H Q E h => h.1, fun A out s H args us vs Q E hr hgd e0 bt rv q => ?_⟩
  -- the body at this place, as a def that fn_ok can take, is asked with this very A alone
  have stay : ∀ b o, base.get? b = some o → s.heap.get? b = some o := fun b o e => (e0.bs b o e).1
  have kinds : ∀ y ∈ ps.zip us, scope.names.lookup y.1 = some .local ∨ (scope.names.lookup y.1 = some .cell ∧ ((cellsFrom (s.heap.objs.size + 1) scope.names []).lookup y.1).isSome = true) := fun y hy =>
    (S.par y.1 (List.of_mem_zip hy).1).imp id fun z => ⟨z, PySem.W.cellsFrom_some _ _ _ (.inl z)⟩
  have nl : s.heap.NoLimit := e0.mod.nolimit.keeps stay
  refine codeAny_call_function (hr.depth) ((e0.mod.kin.keeps stay) _ _ lk) rfl S.co S.gen rfl (PySem.W.codeRec_of (e0.mod.kin.keeps stay) hcd) (bt _ _ _ _ ?_)
  refine wpAny_newFunctionEnv_cells (S.kind) kinds fun en hen s1 x => ?_
  subst hen
  refine ⟨nl.keeps x.toInCall.keep, codeAny_func (?_)⟩
  obtain ⟨hl, P0, F, m, ds, h, S0, r, fin⟩ := q
  let X : Cx := cxOf CX P w K mg base N qual scope f cdv A out s H E
  have I0 : Inv X [] (L2.start N vs) H s1 := inv_start S hr.hd e0 (hl) rv x
  let Dn : Ends := { nx := fun _ H' => Q .non H', rt := Q }
  have E0' : EnvR K F m (L2.start N vs) (ds.map some ++ List.replicate (N.length - ds.length) none) := by
    refine ⟨by unfold L2.start; simp [r.length], fun i d z => ?_⟩
    have hi : i < ds.length := by
      by_cases hi : i < ds.length
      · exact hi
      · rw [List.getElem?_append_right (by simp; omega), List.getElem?_replicate] at z
        split at z <;> cases z
    rw [List.getElem?_append_left (by simpa using hi), List.getElem?_map, Option.map_eq_some_iff] at z
    obtain ⟨d', q1, q2⟩ := z
    simp only [Option.some.injEq] at q2
    subst q2
    obtain ⟨v, e1, r1⟩ := r.get q1
    refine ⟨v, ?_, r1⟩
    unfold L2.start
    rw [List.getElem?_append_left (by simp; rw [r.length]; exact hi)]
    simp [e1]
  have fin' : FinS K P0 (fun cls od _ H => E cls od H) Dn F m (fB (ds.map some ++ List.replicate (N.length - ds.length) none) h) := by
    unfold fnOf at fin
    cases z : fB (ds.map some ++ List.replicate (N.length - ds.length) none) h with
    | nx e1 h1 => rw [z] at fin; exact fun σ F1 m1 H1 x1 S1 E1 => fin .non F1 m1 H1 x1 S1 .non
    | rt d h1 => rw [z] at fin; exact fin
    | exc C p e1 h1 => rw [z] at fin; exact fun od σ F1 m1 H1 x1 S1 pd E1 => fin od F1 m1 H1 x1 S1 pd
    | bk e1 h1 => rw [z] at fin; exact fin.elim
    | ct e1 h1 => rw [z] at fin; exact fin.elim
    | bad => rw [z] at fin; exact fin.elim
  have run := (hb cdv A out s H E (hr.deeper _) hgd).run [] s1 (L2.start N vs) H Dn I0 ⟨P0, F, m, _, h, S0, E0', fin'⟩
  refine wpAny_mono run (fun fl s' hs => ?_) fun e s' hs => hs
  have back : ∀ {σ' : L2.St} {H' : Hp} {v : V} {u : Value}, Inv X [] σ' H' s' → RelV v u → Q v H' → CE out P w H s Q u s' := fun {σ' H' v u} J rv q => ⟨v, H', J.os, J.bare, J.base, J.hok, rv, q⟩
  cases fl with
  | ret u => obtain ⟨v, σ', H', J, rv, q⟩ := hs; exact back J rv q
  | next => obtain ⟨σ', H', J, q⟩ := hs; exact back (v := V.non) (u := Value.none) J rfl q
  | brk => obtain ⟨_, _, _, q⟩ := hs; exact q.elim
  | cont => obtain ⟨_, _, _, q⟩ := hs; exact q.elim
end
section
variable {X : Cx} {W : WX} {CX : CXT} {k : Nat} {f : Addr} {fd : FuncData} {ps : List Str} {g : FN}
/-! ### len(set(xs)) -/
theorem bootSet : bootBuiltins "set" = some (.type "set") := by decide +kernel
def keysOf : List D → Option (List Key)
  | [] => some []
  | .int i :: r => (keysOf r).map (Sum.inl i :: ·)
  | .str x :: r => (keysOf r).map (Sum.inr x :: ·)
  | _ => none
theorem keysOf_ok {K : PySem.W.Frag} {F : Hp} {m : List Addr} : ∀ {vs : List V} {ds : List D} {ks : List Key}, DenL K F m vs ds → keysOf ds = some ks → vs = ks.map kV
  | _, _, _, .nil, e => by simp only [keysOf, Option.some.injEq] at e; subst e; rfl
  | _, _, _, .cons (.int i) t, e => by
    simp only [keysOf, Option.map_eq_some_iff] at e
    obtain ⟨ks, e1, e2⟩ := e
    subst e2
    rw [keysOf_ok t e1]
    rfl
  | _, _, _, .cons (.str i) t, e => by
    simp only [keysOf, Option.map_eq_some_iff] at e
    obtain ⟨ks, e1, e2⟩ := e
    subst e2
    rw [keysOf_ok t e1]
    rfl
  | _, _, _, .cons (.non) _, e | _, _, _, .cons (.bl _) _, e | _, _, _, .cons (.lst _ _) _, e | _, _, _, .cons (.scr _ _) _, e | _, _, _, .cons (.tup _ _) _, e | _, _, _, .cons (.dct _ _) _, e | _, _, _, .cons (.obj _ _ _) _, e | _, _, _, .cons (.ref _) _, e | _, _, _, .cons (.exc _) _, e => by simp [keysOf] at e
def sLenSet (f : SE) : SE := fun e h => (f e h).bind fun d h1 => match (lsqAt h1 d).bind keysOf with
  | some ks => if ks.length ≤ 4000 then .ok (.int (ddK [] ks).length) h1 else .bad
  | none => .bad
theorem kV_keyIs {k : Key} {u : Value} (r : RelV (kV k) u) : keyIs k u = true := by
  cases k with
  | inl i =>
    obtain ⟨t, rfl⟩ := r
    exact keyIs_int i t
  | inr x =>
    obtain ⟨t, rfl⟩ := r
    exact keyIs_str x t
theorem de_lenset {a : Expr} {fa : SE} {p p2 q pos : Pos} (hc : X.calm = true) (hg : Gl X "len") (hm : X.mg "len" = none) (hg2 : Gl X "set") (hm2 : X.mg "set" = none) (ha : DE X W a fa) (na : starEach [a] X.env = (false, eval a X.env) :: starEach [] X.env := by rfl) :
    DE X W (.Call (.Name "len" p) [.Call (.Name "set" p2) [a] [] q] [] pos) (sLenSet fa) := by
  refine ⟨fun pins s σ H Q I z => PyProof.Rows.Call_ (ld_blt I hg hm PySem.boot_len (PyProof.Rows.callWith_builtin1 (PyProof.Rows.args_cons (PyProof.Rows.Call_ (ld_blt I hg2 hm2 bootSet (PyProof.Rows.callWith_type1 (PyProof.Rows.args_cons ?_ na) na rfl))) rfl) rfl rfl))⟩
  obtain ⟨P, F, m, e, h, S, E, fin⟩ := z
  have key : rdG X.K W (Den X.K) fa σ H (fun x H1 => ∃ (l : Addr) (ks : List Key), x = .ref l ∧ SqL X.K H1 l (ks.map kV) ∧ ks.length ≤ 4000 ∧ Q (.int (ddK [] ks).length) H1) := by
    refine rd_seq S E fin fun F1 m1 h1 H1 x dx x1 S1 E1 r1 fin1 => ?_
    cases q1 : lsqAt h1 dx with
    | none => rw [q1] at fin1; exact fin1.bad_elim
    | some xs =>
      rw [q1] at fin1
      simp only [Option.bind_some] at fin1
      cases q2 : keysOf xs with
      | none => rw [q2] at fin1; exact fin1.bad_elim
      | some ks =>
        rw [q2] at fin1
        dsimp only at fin1
        by_cases hz : ks.length ≤ 4000
        · rw [if_pos hz] at fin1
          obtain ⟨b, vs, rfl, hb, rl⟩ := lsqAt_ok S1 r1 q1
          rw [keysOf_ok rl q2] at hb
          exact ⟨b, ks, rfl, hb, hz, fin1.ok S1 (.int _)⟩
        · rw [if_neg hz] at fin1
          exact fin1.bad_elim
  refine thn (ha.run pins s σ H _ I key) fun v s1 ⟨x, H1, I1, r1, l, ks, ex, hq, hl, q1⟩ => PyProof.Rows.args_nil ?_
  subst ex
  cases r1
  obtain ⟨its, r, pl, hz⟩ := I1.list hq
  have hlen : ks.length = its.toArray.size := by rw [List.size_toArray, ← r.length, List.length_map]
  refine set_of_keys (I1.ok.hd hc) pl.isList hlen (fun i v hv => ?_) (by rw [← hlen]; unfold scanBound; omega) fun h' tk hS hk => PyProof.Rows.args_nil ?_
  · have hi : i < ks.length := by
      rw [hlen]
      exact (Array.getElem?_eq_some_iff.mp hv).1
    refine ⟨ks[i], List.getElem?_eq_getElem hi, ?_⟩
    obtain ⟨u, e1, ru⟩ := r.get (i := i) (x := kV ks[i]) (by simp [hi])
    have hv2 : its[i]? = some v := by simpa using hv
    rw [hv2] at e1
    obtain rfl : v = u := Option.some.inj e1
    exact kV_keyIs ru
  · obtain ⟨o, es, ep, t, ho, hex, hd, _, _, hbd, hf, hn⟩ := hS
    have I2 : Inv X pins σ H1 { s1 with heap := h', toks := tk } := I1.kept fun b o e => hk b o (Heap.lt_size e) e
    refine call_len_set ho hex hd hf (by rw [hn] at hbd ⊢; unfold scanBound at hbd; omega) ⟨.int (ddK [] ks).length, H1, I2.tok _, ⟨_, by rw [hn]⟩, q1⟩
/-! ### the signs of a text -/
def signsD (x : Str) : List D := x.cps.toList.map fun c => D.str ⟨#[c]⟩
def sItStr (f : SE) : SA := fun e h => (f e h).bind fun d h1 => match d with
  | .str x => .ok (signsD x) h1
  | _ => .bad
theorem di_str {tg a : Expr} {f : SE} (ha : DE X W a f) : DI X W tg a (sItStr f) := PI.of (pi_str ha) fun σ H R => by
  rintro ⟨P, F, m, e, h, S, E, fin⟩
  refine rd_seq S E fin fun F1 m1 h1 H1 v d x S1 E1 r fin1 => ?_
  cases r with
  | str z =>
    refine ⟨z, rfl, FinG.ok fin1 S1 ?_⟩
    intro P2 F2 m2 h2 H2 i x2 S2
    have hl : (signsD z).length = z.cps.size := by simp [signsD]
    rw [hl]
    refine ⟨fun hi => ⟨hi, fun y H' yl => ?_⟩, fun hi => hi⟩
    obtain ⟨rfl, c, ec, rfl⟩ := yl
    refine ⟨F2, .refl, S2, .str ⟨#[c]⟩, ?_, .str _⟩
    simp [signsD, ec]
  | _ => exact fin1.bad_elim
/-! ### in -/
/-- one sign in a text -/
def opInS (neg : Bool) : D → D → OH → Res D
  | .str x, .str z, h => (match x.cps.toList with
    | [c] => .ok (.bl (if neg then !decide (c ∈ z.cps.toList) else decide (c ∈ z.cps.toList))) h
    | _ => .bad)
  | _, _, _ => .bad
theorem opInS_h (neg : Bool) : OpH X.K W (opInS neg) (fun x y H Q => ∃ (c : Nat) (z : Str), x = .str ⟨#[c]⟩ ∧ y = .str z ∧ Q (.bl (if neg then !decide (c ∈ z.cps.toList) else decide (c ∈ z.cps.toList))) H) := by
  intro P F m h H σ Q x y dx dy S r1 r2 fin
  unfold opInS at fin
  split at fin
  · rename_i a z
    cases den_str r1
    cases den_str r2
    split at fin
    · rename_i c hc
      have ea : a = ⟨#[c]⟩ := by
        obtain ⟨l⟩ := a
        obtain ⟨l⟩ := l
        simp only at hc
        subst hc
        rfl
      exact ⟨c, z, by rw [ea], rfl, fin.ok S (.bl _)⟩
    · exact fin.bad_elim
  · exact fin.bad_elim
theorem de_inS {a b : Expr} {pos : Pos} {fa fb : SE} (ha : DE X W a fa) (hb : DE X W b fb) (hm : behindInMarks .In b = false := by rfl) : DE X W (.Compare a [.In] [b] pos) (sBin (opInS false) fa fb) := de_cmp op_in_sign (opInS_h false) hm ha hb
theorem dt_ninS {a b : Expr} {pos : Pos} {fa fb : SE} (ha : DE X W a fa) (hb : DE X W b fb) (hm : behindInMarks .NotIn b = false := by rfl) : DT X W (.Compare a [.NotIn] [b] pos) (sTest (sBin (opInS true) fa fb)) := dt_cmp op_notIn_sign (opInS_h true) hm ha hb
/-- a flat value in a list or tuple of such -/
def flatD : D → Option V
  | .non => some .non
  | .int i => some (.int i)
  | .str x => some (.str x)
  | .bl b => some (.bl b)
  | _ => none
def flatsD : List D → Option (List V)
  | [] => some []
  | d :: r => match flatD d, flatsD r with
    | some v, some vs => some (v :: vs)
    | _, _ => none
theorem flatD_ok {K : PySem.W.Frag} {F : Hp} {m : List Addr} {v w : V} {d : D} (r : Den K F m v d) (e : flatD d = some w) : v = w := by
  cases r <;> simp only [flatD, Option.some.injEq, reduceCtorEq] at e <;> exact e
theorem flatsD_ok {K : PySem.W.Frag} {F : Hp} {m : List Addr} : ∀ {vs : List V} {ds : List D} {ws : List V}, DenL K F m vs ds → flatsD ds = some ws → vs = ws
  | _, _, _, .nil, e => by simp only [flatsD, Option.some.injEq] at e; exact e
  | _, d :: ds, _, .cons a t, e => by
    simp only [flatsD] at e
    cases q1 : flatD d with
    | none => rw [q1] at e; simp at e
    | some v =>
      cases q2 : flatsD ds with
      | none => rw [q1, q2] at e; simp at e
      | some vs =>
        rw [q1, q2] at e
        simp only [Option.some.injEq] at e
        rw [flatD_ok a q1, flatsD_ok t q2]
        exact e
def opInL (neg : Bool) : D → D → OH → Res D := fun a b h => match flatD a, (seqAt h b).bind flatsD with
  | some x, some xs => if flatV x && xs.all flatV then .ok (.bl (if neg then !inV x xs else inV x xs)) h else .bad
  | _, _ => .bad
theorem opInL_h (neg : Bool) : OpH X.K W (opInL neg) (rIn X.K neg) := by
  intro P F m h H σ Q x y dx dy S r1 r2 fin
  unfold opInL at fin
  cases q1 : flatD dx with
  | none => rw [q1] at fin; exact fin.bad_elim
  | some a =>
    cases q2 : seqAt h dy with
    | none => rw [q1, q2] at fin; exact fin.bad_elim
    | some xs =>
      rw [q1, q2] at fin
      simp only [Option.bind_some] at fin
      cases q3 : flatsD xs with
      | none => rw [q3] at fin; exact fin.bad_elim
      | some ws =>
        rw [q3] at fin
        dsimp only at fin
        obtain ⟨b, vs, rfl, hb, rl⟩ := seqAt_ok S r2 q2
        by_cases hz : (flatV a && ws.all flatV) = true
        · rw [if_pos hz] at fin
          obtain ⟨z1, z2⟩ := and2 hz
          obtain rfl := flatD_ok r1 q1
          obtain rfl := flatsD_ok rl q3
          exact ⟨b, vs, rfl, hb, z1, z2, fin.ok S (.bl _)⟩
        · rw [if_neg hz] at fin
          exact fin.bad_elim
theorem dt_ninL {a b : Expr} {pos : Pos} {fa fb : SE} (ha : DE X W a fa) (hb : DE X W b fb) (hm : behindInMarks .NotIn b = false := by rfl) : DT X W (.Compare a [.NotIn] [b] pos) (sTest (sBin (opInL true) fa fb)) := dt_cmp op_notIn_seq (opInL_h true) hm ha hb
end
end HR
set_option Elab.async false
set_option linter.all false
set_option maxRecDepth 100000
set_option maxHeartbeats 4000000
/-! LayI: iteration over any sequence or text; a def as its callers take it. -/
namespace HR
open PySem L2
open PyProof.Rows (envOfC)
section
variable {X : Cx} {W : WX}
/-- a list, a tuple, a text -/
def itAt : D → Option (List D)
  | .lst xs => some xs
  | .scr xs => some xs
  | .tup xs => some xs
  | .str x => some (signsD x)
  | _ => none
def sIt (f : SE) : SA := fun e h => (f e h).bind fun d h1 => match itAt d with
  | some xs => .ok xs h1
  | none => .bad
theorem di_any {tg a : Expr} {f : SE} (ha : DE X W a f) : DI X W tg a (sIt f) := PI.of (pi_or (di_seq ha) (di_str ha)) fun σ H R => by
  rintro ⟨P, F, m, e, h, S, E, fin⟩
  unfold sIt at fin
  cases q : f e h with
  | bad => rw [q] at fin; exact fin.elim
  | exc C p h1 =>
    rw [q] at fin
    exact .inl ⟨P, F, m, e, h, S, E, by unfold sItS; rw [q]; exact fin⟩
  | ok d h1 =>
    rw [q] at fin
    cases d with
    | str x => exact .inr ⟨P, F, m, e, h, S, E, by unfold sItStr; rw [q]; exact fin⟩
    | lst xs => exact .inl ⟨P, F, m, e, h, S, E, by unfold sItS; rw [q]; exact fin⟩
    | scr xs => exact .inl ⟨P, F, m, e, h, S, E, by unfold sItS; rw [q]; exact fin⟩
    | tup xs => exact .inl ⟨P, F, m, e, h, S, E, by unfold sItS; rw [q]; exact fin⟩
    | _ => exact False.elim fin
end
/-! ### a def as its callers take it -/
structure Def (P : Program) (w : World) (K : PySem.W.Frag) (mg : Str → Option Value) (base : Heap) (CX : CXT) (k : Nat) (f : Addr) (ps : List Str) (dvs : List V) (g : FN) : Prop where
  ex : ∃ fd dus, FnOk P w K mg base CX k f fd ps (spN K ps.length g) ∧ Binds K fd ps dus ∧ Vals dvs dus
  kp : PySem.W.keepIn K (.ref f) = true
structure DefG (P : Program) (w : World) (K : PySem.W.Frag) (mg : Str → Option Value) (base : Heap) (CX : CXT) (k : Nat) (f : Addr) (ps : List Str) (dvs : List V) (g : FN) : Prop where
  ex : ∃ fd dus, FnOkG P w K mg base CX k f fd ps (spN K ps.length g) ∧ Binds K fd ps dus ∧ Vals dvs dus
  kp : PySem.W.keepIn K (.ref f) = true
section
variable {P : Program} {w : World} {K : PySem.W.Frag} {mg : Str → Option Value} {base : Heap} {CX : CXT} {k : Nat} {f : Addr} {ps : List Str} {dvs : List V} {g : FN}
theorem Def.up {j : Nat} (d : Def P w K mg base CX j f ps dvs g) (h : j ≤ k) : Def P w K mg base CX k f ps dvs g := let ⟨fd, dus, a, b, c⟩ := d.ex; ⟨⟨fd, dus, a.mono h, b, c⟩, d.kp⟩
theorem Def.pure (d : Def P w K mg base CX k f ps dvs g) : Def P w K mg base CX k f ps dvs (pureF g) := let ⟨fd, dus, a, b, c⟩ := d.ex; ⟨⟨fd, dus, FnOk.pure a, b, c⟩, d.kp⟩
theorem DefG.up {j : Nat} (d : DefG P w K mg base CX j f ps dvs g) (h : j ≤ k) : DefG P w K mg base CX k f ps dvs g := let ⟨fd, dus, a, b, c⟩ := d.ex; ⟨⟨fd, dus, a.mono h, b, c⟩, d.kp⟩
theorem DefG.pure (d : DefG P w K mg base CX k f ps dvs g) : DefG P w K mg base CX k f ps dvs (pureF g) := let ⟨fd, dus, a, b, c⟩ := d.ex; ⟨⟨fd, dus, a.pure, b, c⟩, d.kp⟩
end
section
variable {X : Cx} {W : WX} {CX : CXT} {k : Nat} {f : Addr} {ps : List Str} {g : FN}
theorem de_callF {x : Str} {p pos : Pos} {a : Expr} {es : List Expr} {fa : SA} {dvs : List V} (dd : List D) (Fk : Def X.prog X.w X.K X.mg X.base CX k f ps dvs g) (hr : Room k X.A) (hm : X.mg x = some (.ref f))
    (hdd : ∀ F m, DenL X.K F m dvs dd) (hx : ∀ σ, PassesAt CX X σ fun cls od H => W cls od σ H) (ha : DA X W (a :: es) fa) (hl : ∀ e h ds h', fa e h = .ok ds h' → ds.length = (a :: es).length) (hn : (a :: es).length + dvs.length = ps.length := by rfl) (hg : Gl X x := by rfl) (hdb : (x == ("__debug__" : Str)) = false := by decide)
    (he : starEach (a :: es) X.env = (false, eval a X.env) :: starEach es X.env := by rfl) (hpl : (backTo pos (starEach es X.env)).any (·.1) = false := by rfl) : DE X W (.Call (.Name x p) (a :: es) [] pos) (sCall (withD dd g) fa) := by
  obtain ⟨fd, dus, F1, hb, hd⟩ := Fk.ex
  exact de_call dd F1 hr hm Fk.kp hb hd hdd hn hx ha hl hg hdb he hpl
end
end HR
set_option Elab.async false
set_option linter.all false
set_option maxRecDepth 20000
set_option maxHeartbeats 1000000
/-! what the plain functions give: the weakest demand -/
namespace HR
open PySem L2
section
variable {X : Cx} {W : WX}
/-! ### a list against [] -/
def rNil (K : PySem.W.Frag) (neg : Bool) : R2 := fun x y H Q => ∃ a b xs, x = .ref a ∧ y = .ref b ∧ SqL K H a xs ∧ SqL K H b [] ∧ Q (.bl (if neg then !xs.isEmpty else xs.isEmpty)) H
theorem op_nilE (hu : X.A.units + 64 < cLine) : OpR X (compareOp .Eq) (fun x y H Q => rNil X.K false x y H Q ∨ rEqD X.K x y H Q) := by
  intro pins s σ H x y v u Q I rx ry h
  rcases h with ⟨a, b, xs, rfl, rfl, ha, hb, q⟩ | h
  · cases (show v = Value.ref a from rx)
    cases (show u = Value.ref b from ry)
    obtain ⟨us, r1, p1, _⟩ := I.list ha
    obtain ⟨ws, r2, p2, _⟩ := I.list hb
    cases r2
    cases r1 with
    | nil => exact SeqAt.RcAt.lists (e := fun _ => true) p1.isList p2.isList rfl (by omega) (fun j h1 _ => absurd h1 (Nat.not_lt_zero j)) _ _ _ _ ⟨.bl true, H, I, rfl, q⟩
    | cons h t => exact SeqAt.RcAt.lists_lengths p1.isList p2.isList (by simp) (by omega) _ _ _ _ ⟨.bl false, H, I, rfl, q⟩
  · exact op_eqD hu pins s σ H x y v u Q I rx ry h
theorem op_nilN (hu : X.A.units + 64 < cLine) : OpR X (compareOp .NotEq) (fun x y H Q => rNil X.K true x y H Q ∨ rNeD X.K x y H Q) := by
  intro pins s σ H x y v u Q I rx ry h
  rcases h with ⟨a, b, xs, rfl, rfl, ha, hb, q⟩ | h
  · cases (show v = Value.ref a from rx)
    cases (show u = Value.ref b from ry)
    obtain ⟨us, r1, p1, _⟩ := I.list ha
    obtain ⟨ws, r2, p2, _⟩ := I.list hb
    cases r2
    cases r1 with
    | nil => exact SeqAt.RcNeAt.lists (e := fun _ => true) p1.isList p2.isList rfl (by omega) (fun j h1 _ => absurd h1 (Nat.not_lt_zero j)) _ _ _ _ ⟨.bl false, H, I, rfl, q⟩
    | cons h t => exact SeqAt.RcNeAt.lists_lengths p1.isList p2.isList (by simp) (by omega) _ _ _ _ ⟨.bl true, H, I, rfl, q⟩
  · exact op_neD hu pins s σ H x y v u Q I rx ry h
/-- == [], any list -/
def opNil (neg : Bool) : D → D → OH → Res D := fun a b h => match lsqAt h a, b with
  | some xs, .lst [] => .ok (.bl (if neg then !xs.isEmpty else xs.isEmpty)) h
  | _, _ => opEq neg a b h
theorem opNil_h (neg : Bool) : OpH X.K W (opNil neg) (fun x y H Q => rNil X.K neg x y H Q ∨ (if neg then rNeD X.K else rEqD X.K) x y H Q) := by
  intro P F m h H σ Q x y dx dy S r1 r2 fin
  have old := fun fin => opEq_h (X := X) (W := W) neg P F m h H σ Q x y dx dy S r1 r2 fin
  unfold opNil at fin
  split at fin
  · rename_i xs e
    obtain ⟨a, vs, rfl, ha, rl⟩ := lsqAt_ok S r1 e
    cases r2 with
    | @lst b ws _ q rb =>
      cases rb
      refine .inl ⟨a, b, vs, rfl, rfl, ha, .inl (.inl (S.sub _ _ q)), ?_⟩
      have e2 : vs.isEmpty = xs.isEmpty := by cases rl <;> rfl
      rw [e2]
      exact fin _ F m H (Ext.refl ..) S (.bl _)
  · exact .inr (old fin)
theorem de_eqN {a b : Expr} {pos : Pos} {fa fb : SE} (hu : X.A.units + 64 < cLine) (ha : DE X W a fa) (hb : DE X W b fb) : DE X W (.Compare a [.Eq] [b] pos) (sBin (opNil false) fa fb) := de_cmp (op_nilE hu) (opNil_h false) (nomark _) ha hb
theorem dt_eqN {a b : Expr} {pos : Pos} {fa fb : SE} (hu : X.A.units + 64 < cLine) (ha : DE X W a fa) (hb : DE X W b fb) : DT X W (.Compare a [.Eq] [b] pos) (sTest (sBin (opNil false) fa fb)) := dt_cmp (op_nilE hu) (opNil_h false) (nomark _) ha hb
theorem dt_neN {a b : Expr} {pos : Pos} {fa fb : SE} (hu : X.A.units + 64 < cLine) (ha : DE X W a fa) (hb : DE X W b fb) : DT X W (.Compare a [.NotEq] [b] pos) (sTest (sBin (opNil true) fa fb)) := dt_cmp (op_nilN hu) (opNil_h true) (nomark _) ha hb
end
def Res.W {α : Type} (r : Res α) (P : α → OH → Prop) : Prop := match r with
  | .ok a h => P a h
  | _ => False
/-- what follows; the loop's next round; behind the loop; the answer -/
def SRes.W (r : SRes) (N C B : Env' → OH → Prop) (R : D → OH → Prop) : Prop := match r with
  | .nx e h => N e h
  | .ct e h => C e h
  | .bk e h => B e h
  | .rt d h => R d h
  | _ => False
abbrev nov : Env' → OH → Prop := fun _ _ => False
section
variable {α β : Type} {P : α → OH → Prop} {N C B : Env' → OH → Prop} {R : D → OH → Prop} {PD : D → OH → Prop} {PL : List D → OH → Prop} {PB : Bool → OH → Prop}
theorem Res.W.out {r : Res α} (h : r.W P) : ∃ a h', r = .ok a h' ∧ P a h' := by
  cases r with
  | ok a h' => exact ⟨a, h', rfl, h⟩
  | exc _ _ _ => exact h.elim
  | bad => exact h.elim
theorem Res.W.of {r : Res α} {a : α} {h' : OH} (e : r = .ok a h') (p : P a h') : r.W P := by rw [e]; exact p
theorem Res.W.mono {r : Res α} {P' : α → OH → Prop} (h : r.W P) (m : ∀ a h', P a h' → P' a h') : r.W P' := by
  obtain ⟨a, h', e, p⟩ := h.out
  exact .of e (m a h' p)
theorem SRes.W.mono {r : SRes} {N' C' B' : Env' → OH → Prop} {R' : D → OH → Prop} (h : r.W N C B R) (m : ∀ e h', N e h' → N' e h') (m1 : ∀ e h', C e h' → C' e h') (m3 : ∀ e h', B e h' → B' e h') (m2 : ∀ d h', R d h' → R' d h') : r.W N' C' B' R' := by
  cases r with
  | nx e h' => exact m e h' h
  | rt d h' => exact m2 d h' h
  | bk e h' => exact m3 e h' h
  | ct e h' => exact m1 e h' h
  | exc _ _ _ _ => exact h.elim
  | bad => exact h.elim
@[simp] theorem W_ok (a : α) (h : OH) : (Res.ok a h).W P = P a h := rfl
@[simp] theorem W_bind (r : Res β) (f : β → OH → Res α) : (r.bind f).W P = r.W fun b h => (f b h).W P := by cases r <;> rfl
@[simp] theorem W_noX (r : Res α) : r.noX.W P = r.W P := by cases r <;> rfl
@[simp] theorem W_toS (r : Res β) (e : Env') (f : β → OH → SRes) : (r.toS e f).W N C B R = r.W fun b h => (f b h).W N C B R := by cases r <;> rfl
@[simp] theorem W_ite (c : Prop) [Decidable c] (a b : Res α) : (if c then a else b).W P = if c then a.W P else b.W P := by split <;> rfl
@[simp] theorem SW_ite (c : Prop) [Decidable c] (a b : SRes) : (if c then a else b).W N C B R = if c then a.W N C B R else b.W N C B R := by split <;> rfl
@[simp] theorem W_bad : (Res.bad : Res α).W P = False := rfl
/-! expressions -/
theorem W_sVar' (i : Nat) (e : Env') (h : OH) : (sVar i e h).W PD = match e[i]? with
  | some (some d) => PD d h
  | _ => False := by unfold sVar; split <;> simp_all
@[simp] theorem W_var0 (d : D) (e : Env') (h : OH) : (sVar 0 (some d :: e) h).W PD = PD d h := rfl
@[simp] theorem W_varS (i : Nat) (d : Option D) (e : Env') (h : OH) : (sVar (i + 1) (d :: e) h).W PD = (sVar i e h).W PD := by rw [W_sVar', W_sVar']; simp
@[simp] theorem W_c (d : D) (e : Env') (h : OH) : (sC d e h).W PD = PD d h := rfl
@[simp] theorem W_sBin (g : D → D → OH → Res D) (a b : SE) (e : Env') (h : OH) : (sBin g a b e h).W PD = (a e h).W fun x h1 => (b e h1).W fun y h2 => (g x y h2).W PD := by simp [sBin]
@[simp] theorem W_sUn (g : D → OH → Res D) (a : SE) (e : Env') (h : OH) : (sUn g a e h).W PD = (a e h).W fun x h1 => (g x h1).W PD := by simp [sUn]
@[simp] theorem W_sCall (g : List D → OH → Res D) (a : SA) (e : Env') (h : OH) : (sCall g a e h).W PD = (a e h).W fun x h1 => (g x h1).W PD := by simp [sCall]
@[simp] theorem W_sNil (e : Env') (h : OH) : (sNil e h).W PL = PL [] h := rfl
@[simp] theorem W_sCons (a : SE) (r : SA) (e : Env') (h : OH) : (sCons a r e h).W PL = (a e h).W fun x h1 => (r e h1).W fun xs h2 => PL (x :: xs) h2 := by simp [sCons]
@[simp] theorem W_sTup (a : SA) (e : Env') (h : OH) : (sTup a e h).W PD = (a e h).W fun xs h1 => if xs.length ≤ 1000000 then PD (.tup xs) h1 else False := by simp [sTup, big]
@[simp] theorem W_sLst (a : SA) (e : Env') (h : OH) : (sLst a e h).W PD = (a e h).W fun xs h1 => if xs.length ≤ 1000000 then PD (.lst xs) h1 else False := by simp [sLst, big]
@[simp] theorem W_sLstO (a : SA) (e : Env') (h : OH) : (sLstO a e h).W PD = (a e h).W fun xs h1 => if xs.length ≤ 1000000 then PD (.ref h1.length) (h1 ++ [.lst xs]) else False := by simp [sLstO, big]
theorem W_sTest' (f : SE) (e : Env') (h : OH) : (sTest f e h).W PB = (f e h).W fun d h1 => match d with
  | .bl b => PB b h1
  | _ => False := by
  unfold sTest; rw [W_bind]; congr; funext d h1; cases d <;> rfl
def isBl (d : D) (P : Bool → Prop) : Prop := match d with
  | .bl b => P b
  | _ => False
@[simp] theorem isBl_bl (b : Bool) (P : Bool → Prop) : isBl (.bl b) P = P b := rfl
@[simp] theorem W_sTest (f : SE) (e : Env') (h : OH) : (sTest f e h).W PB = (f e h).W fun d h1 => isBl d fun b => PB b h1 := by rw [W_sTest']; rfl
@[simp] theorem W_sAnd (a b : ST) (e : Env') (h : OH) : (sAnd a b e h).W PB = (a e h).W fun c h1 => if c then (b e h1).W PB else PB false h1 := by simp [sAnd]
@[simp] theorem W_sOr (a b : ST) (e : Env') (h : OH) : (sOr a b e h).W PB = (a e h).W fun c h1 => if c then PB true h1 else (b e h1).W PB := by simp [sOr]
@[simp] theorem W_sNot (a : ST) (e : Env') (h : OH) : (sNot a e h).W PB = (a e h).W fun c h1 => PB (!c) h1 := by simp [sNot]
@[simp] theorem W_sVal (a : ST) (e : Env') (h : OH) : (sVal a e h).W PD = (a e h).W fun c h1 => PD (.bl c) h1 := by simp [sVal]
@[simp] theorem W_sYes (e : Env') (h : OH) : (sYes e h).W PB = PB true h := rfl
@[simp] theorem W_sIf (c : ST) (a b : SE) (e : Env') (h : OH) : (sIf c a b e h).W PD = (c e h).W fun t h1 => if t then (a e h1).W PD else (b e h1).W PD := by simp [sIf]
@[simp] theorem W_sAndV (a b : SE) (e : Env') (h : OH) : (sAndV a b e h).W PD = (a e h).W fun d h1 => isBl d fun t => if t then (b e h1).W PD else PD (.bl false) h1 := by
  unfold sAndV; rw [W_bind]; congr; funext d h1
  cases d with
  | bl b => cases b <;> rfl
  | _ => rfl
@[simp] theorem W_sOrV (a b : SE) (e : Env') (h : OH) : (sOrV a b e h).W PD = (a e h).W fun d h1 => isBl d fun t => if t then PD (.bl true) h1 else (b e h1).W PD := by
  unfold sOrV; rw [W_bind]; congr; funext d h1
  cases d with
  | bl b => cases b <;> rfl
  | _ => rfl
@[simp] theorem W_sNotV (a : SE) (e : Env') (h : OH) : (sNotV a e h).W PD = (a e h).W fun d h1 => isBl d fun t => PD (.bl (!t)) h1 := by
  unfold sNotV; rw [W_bind]; congr; funext d h1
  cases d <;> rfl
@[simp] theorem W_frzE (f : SE) (e : Env') (h : OH) : (frzE f e h).W PD = (f e h).W fun d h1 => match d with
  | .ref i => (match h1[i]? with
    | some (.lst xs) => PD (.lst xs) (h1.set i .dead)
    | _ => False)
  | _ => False := by
  unfold frzE; rw [W_bind]; congr; funext d h1
  cases d with
  | ref i => dsimp only; split <;> simp_all
  | _ => rfl
/-! operators -/
@[simp] theorem W_opI2 (f : Int → Int → D) (c : Int → Int → Bool) (i j : Int) (h : OH) : (opI2 f c (.int i) (.int j) h).W PD = if c i j then PD (f i j) h else False := by simp [opI2]
@[simp] theorem W_addI (i j : Int) (h : OH) : (opAdd (.int i) (.int j) h).W PD = PD (.int (i + j)) h := rfl
@[simp] theorem W_mulI (i j : Int) (h : OH) : (opMul (.int i) (.int j) h).W PD = if mulOk i j then PD (.int (i * j)) h else False := by simp [opMul]
@[simp] theorem W_negI (i : Int) (h : OH) : (opNeg (.int i) h).W PD = PD (.int (-i)) h := rfl
@[simp] theorem W_absI (i : Int) (h : OH) : (opAbs (.int i) h).W PD = PD (.int (if i < 0 then -i else i)) h := rfl
@[simp] theorem W_divmod (i j : Int) (h : OH) : (opDivmod (.int i) (.int j) h).W PD = if divOk i j then PD (.tup [.int (i / j), .int (i % j)]) h else False := by simp [opDivmod]
@[simp] theorem W_b1 (f : D → OH → Res D) (d : D) (h : OH) : (b1 f [d] h).W PD = (f d h).W PD := rfl
@[simp] theorem W_b2 (f : D → D → OH → Res D) (d d2 : D) (h : OH) : (b2 f [d, d2] h).W PD = (f d d2 h).W PD := rfl
@[simp] theorem W_lenL (xs : List D) (h : OH) : (opLen (.lst xs) h).W PD = PD (.int xs.length) h := rfl
@[simp] theorem W_lenT (xs : List D) (h : OH) : (opLen (.tup xs) h).W PD = PD (.int xs.length) h := rfl
@[simp] theorem W_lenC (xs : List D) (h : OH) : (opLen (.scr xs) h).W PD = PD (.int xs.length) h := rfl
theorem W_lenS (x : Str) (h : OH) : (opLen (.str x) h).W PD = if x.length ≤ big then PD (.int x.length) h else False := by
  show (if x.length ≤ big then Res.ok (D.int x.length) h else Res.bad).W PD = _
  rw [W_ite]; rfl
@[simp] theorem W_withD (dd : List D) (g : FN) (xs : List D) (h : OH) : (withD dd g xs h).W PD = (g (xs ++ dd) h).W PD := rfl
theorem W_fn (n : Nat) (b : SS) (ds : List D) (h : OH) : (fnOf n b ds h).W PD = (b (ds.map some ++ List.replicate (n - ds.length) none) h).W (fun _ h1 => PD .non h1) nov nov PD := by
  unfold fnOf
  cases b (ds.map some ++ List.replicate (n - ds.length) none) h <;> rfl
/-! statements -/
@[simp] theorem SW_nx (e : Env') (h : OH) : (SRes.nx e h).W N C B R = N e h := rfl
@[simp] theorem SW_bad : SRes.bad.W N C B R = False := rfl
@[simp] theorem SW_rt (d : D) (h : OH) : (SRes.rt d h).W N C B R = R d h := rfl
@[simp] theorem SW_next (e : Env') (h : OH) : (sNext e h).W N C B R = N e h := rfl
@[simp] theorem SW_seq (f g : SS) (e : Env') (h : OH) : (sSeq f g e h).W N C B R = (f e h).W (fun e h => (g e h).W N C B R) C B R := by
  unfold sSeq; cases f e h <;> rfl
@[simp] theorem SW_set (i : Nat) (f : SE) (e : Env') (h : OH) : (sSet i f e h).W N C B R = (f e h).W fun d h1 => N (e.set i (some d)) h1 := by unfold sSet; rw [W_toS]; rfl
@[simp] theorem SW_ret (f : SE) (e : Env') (h : OH) : (sRet f e h).W N C B R = (f e h).W R := by unfold sRet; rw [W_toS]; rfl
@[simp] theorem SW_retN (e : Env') (h : OH) : (sRetN e h).W N C B R = R .non h := rfl
@[simp] theorem SW_expr (f : SE) (e : Env') (h : OH) : (sExpr f e h).W N C B R = (f e h).W fun _ h1 => N e h1 := by unfold sExpr; rw [W_toS]; rfl
@[simp] theorem SW_if (c : ST) (a b : SS) (e : Env') (h : OH) : (sIfS c a b e h).W N C B R = (c e h).W fun t h1 => if t then (a e h1).W N C B R else (b e h1).W N C B R := by
  unfold sIfS; rw [W_toS]; simp
@[simp] theorem SW_for (it : SA) (g : TF) (b : SS) (e : Env') (h : OH) : (sFor it g b e h).W N C B R = (it e h).W fun ds h1 => (forL g b ds e h1).W N C B R := by unfold sFor; rw [W_toS]
@[simp] theorem SW_asg (g : TF) (f : SE) (e : Env') (h : OH) : (sAsg g f e h).W N C B R = (f e h).W fun d h1 => match g d e h1 with
  | some e1 => N e1 h1
  | none => False := by
  unfold sAsg; rw [W_toS]; congr; funext d h1; split <;> simp_all
@[simp] theorem SW_brk (e : Env') (h : OH) : (sBreak e h).W N C B R = B e h := rfl
@[simp] theorem SW_cont (e : Env') (h : OH) : (sCont e h).W N C B R = C e h := rfl
@[simp] theorem gN_ev (i : Nat) (d : D) (e : Env') (h : OH) : gN i d e h = some (e.set i (some d)) := rfl
theorem W_forL {g : TF} {b : SS} (I : Nat → Env' → OH → Prop) : ∀ (ds : List D) (e : Env') (h : OH), I 0 e h → (∀ k d, ds[k]? = some d → ∀ e h, I k e h → ∃ e1, g d e h = some e1 ∧ (b e1 h).W (I (k + 1)) (I (k + 1)) N R) → (∀ e h, I ds.length e h → N e h) → (forL g b ds e h).W N C B R
  | [], e, h, i0, _, fin => fin e h i0
  | d :: ds, e, h, i0, st, fin => by
    obtain ⟨e1, q, w⟩ := st 0 d rfl e h i0
    have rest := fun e2 h2 (z : I 1 e2 h2) => W_forL (fun k => I (k + 1)) ds e2 h2 z (fun k d q => st (k + 1) d q) fin
    unfold forL
    rw [q]
    dsimp only
    cases q2 : b e1 h with
    | nx e2 h2 => rw [q2] at w; exact rest e2 h2 w
    | ct e2 h2 => rw [q2] at w; exact rest e2 h2 w
    | bk e2 h2 => rw [q2] at w; exact w
    | rt d h2 => rw [q2] at w; exact w
    | exc _ _ _ _ => rw [q2] at w; exact w.elim
    | bad => rw [q2] at w; exact w.elim
/-! reading the own heap -/
def lkL (o : Option OO) (P : List D → Prop) : Prop := match o with
  | some (.lst xs) => P xs
  | _ => False
@[simp] theorem lkL_lst (xs : List D) (P : List D → Prop) : lkL (some (.lst xs)) P = P xs := rfl
def lkS {α : Type} (o : Option α) (P : α → Prop) : Prop := match o with
  | some x => P x
  | none => False
@[simp] theorem lkS_some {α : Type} (x : α) (P : α → Prop) : lkS (some x) P = P x := rfl
theorem lkS_of {α : Type} {o : Option α} {x : α} {P : α → Prop} (e : o = some x) (p : P x) : lkS o P := by rw [e]; exact p
@[simp] theorem W_ixL (xs : List D) (i : Int) (h : OH) : (opIx (.lst xs) (.int i) h).W PD = lkS (atI xs i) fun d => PD d h := by
  simp only [opIx, seqAt]; split <;> simp_all [lkS]
@[simp] theorem W_ixT (xs : List D) (i : Int) (h : OH) : (opIx (.tup xs) (.int i) h).W PD = lkS (atI xs i) fun d => PD d h := by
  simp only [opIx, seqAt]; split <;> simp_all [lkS]
@[simp] theorem W_ixC (xs : List D) (i : Int) (h : OH) : (opIx (.scr xs) (.int i) h).W PD = lkS (atI xs i) fun d => PD d h := by
  simp only [opIx, seqAt]; split <;> simp_all [lkS]
@[simp] theorem W_ixR (n : Nat) (i : Int) (h : OH) : (opIx (.ref n) (.int i) h).W PD = lkL h[n]? fun xs => lkS (atI xs i) fun d => PD d h := by
  simp only [opIx, seqAt]
  cases h[n]? with
  | none => rfl
  | some o => cases o with
    | lst xs => simp only [lkL_lst]; split <;> simp_all [lkS]
    | _ => rfl
@[simp] theorem W_lenR (n : Nat) (h : OH) : (opLen (.ref n) h).W PD = lkL h[n]? fun xs => PD (.int xs.length) h := by
  simp only [opLen, seqAt]
  cases h[n]? with
  | none => rfl
  | some o => cases o <;> rfl
theorem ixN_z {n : Nat} {j : Int} (h0 : 0 ≤ j) (h : j < n) : ixN n j = some j.toNat := by simp [ixN, h0, h]
theorem atI_z {α : Type} {xs : List α} {j : Int} (h0 : 0 ≤ j) (h : j < xs.length) : atI xs j = xs[j.toNat]? := by simp [atI, ixN_z h0 h]
@[simp] theorem atI_0 {α : Type} (x : α) (xs : List α) : atI (x :: xs) 0 = some x := by rw [atI_z (by omega) (by simp)]; rfl
@[simp] theorem atI_1 {α : Type} (x y : α) (xs : List α) : atI (x :: y :: xs) 1 = some y := by rw [atI_z (by omega) (by simp; omega)]; rfl
@[simp] theorem atI_2 {α : Type} (x y z : α) (xs : List α) : atI (x :: y :: z :: xs) 2 = some z := by rw [atI_z (by omega) (by simp; omega)]; rfl
@[simp] theorem atI_3 {α : Type} (x y z u : α) (xs : List α) : atI (x :: y :: z :: u :: xs) 3 = some u := by rw [atI_z (by omega) (by simp; omega)]; rfl
@[simp] theorem ixN_0 (n : Nat) : ixN (n + 1) 0 = some 0 := ixN_z (by omega) (by omega)
@[simp] theorem ixN_1 (n : Nat) : ixN (n + 1 + 1) 1 = some 1 := ixN_z (by omega) (by omega)
@[simp] theorem ixN_2 (n : Nat) : ixN (n + 1 + 1 + 1) 2 = some 2 := ixN_z (by omega) (by omega)
@[simp] theorem SW_ixS (o i v : SE) (e : Env') (h : OH) : (sIxS o i v e h).W N C B R = (v e h).W fun y h1 => (o e h1).W fun x h2 => (i e h2).W fun k h3 => match x, k with
  | .ref n, .int j => lkL h3[n]? fun xs => lkS (ixN xs.length j) fun q => N e (h3.set n (.lst (xs.set q y)))
  | _, _ => False := by
  unfold sIxS
  simp only [W_toS]
  congr; funext y h1; congr; funext x h2; congr; funext k h3
  cases x <;> cases k <;> first | rfl | skip
  rename_i n j
  dsimp only
  cases h3[n]? with
  | none => rfl
  | some o => cases o with
    | lst xs => simp only [lkL_lst]; cases ixN xs.length j <;> rfl
    | _ => rfl
/-! sizes of numbers -/
def Small (i : Int) : Prop := i.natAbs < 2 ^ 4000
theorem log2_small {n k : Nat} (h : n < 2 ^ k) (hk : 0 < k) : n.log2 < k := by
  rcases Nat.eq_zero_or_pos n with h0 | h0
  · subst h0; simpa using hk
  · exact (Nat.log2_lt (by omega)).mpr h
theorem mulOk_l {i j : Int} (a : i.natAbs < 2 ^ 64) : mulOk i j = true := by simp [mulOk, a]
theorem mulOk_r {i j : Int} (a : j.natAbs < 2 ^ 64) : mulOk i j = true := by simp [mulOk, a]
theorem divOk_small {i j : Int} (a : Small j) (b : 0 < j) : divOk i j = true := by
  have h1 := log2_small a (by decide)
  simp only [divOk, Bool.and_eq_true, decide_eq_true_eq]
  omega
theorem small_of {i : Int} {k : Nat} (h : i.natAbs < 2 ^ k) (hk : k ≤ 4000) : Small i := Nat.lt_of_lt_of_le h (Nat.pow_le_pow_right (by decide) hk)
theorem small_64 {i : Int} (h : i.natAbs < 18446744073709551616) : Small i := small_of (k := 64) h (by decide)
theorem small_lt {i : Int} (k : Nat) (h0 : 0 ≤ i) (h : i < (2 ^ k : Nat)) (hk : k ≤ 4000 := by decide) : Small i := small_of (k := k) (by omega) hk
/-! parts -/
def isI (d : D) (P : Int → Prop) : Prop := match d with
  | .int b => P b
  | _ => False
@[simp] theorem isI_int (b : Int) (P : Int → Prop) : isI (.int b) P = P b := rfl
@[simp] theorem W_rng1 (a : SE) (e : Env') (h : OH) : (sRng1 a e h).W PL = (a e h).W fun d h1 => isI d fun j => if rngOk j then PL (rngD 0 j.toNat) h1 else False := by
  unfold sRng1; rw [W_bind]; congr; funext d h1
  cases d <;> first | rfl | simp
@[simp] theorem W_rng2 (a b : SE) (e : Env') (h : OH) : (sRng2 a b e h).W PL = (a e h).W fun d h1 => (b e h1).W fun d2 h2 => isI d fun i => isI d2 fun j => if rngOk i && rngOk j then PL (rngD i (j - i).toNat) h2 else False := by
  unfold sRng2; rw [W_bind]; congr; funext d h1; rw [W_bind]; congr; funext d2 h2
  cases d <;> cases d2 <;> first | rfl | simp
@[simp] theorem W_it (f : SE) (e : Env') (h : OH) : (sIt f e h).W PL = (f e h).W fun d h1 => lkS (itAt d) fun xs => PL xs h1 := by
  unfold sIt; rw [W_bind]; congr; funext d h1
  cases itAt d <;> rfl
@[simp] theorem itAt_lst (xs : List D) : itAt (.lst xs) = some xs := rfl
@[simp] theorem itAt_tup (xs : List D) : itAt (.tup xs) = some xs := rfl
@[simp] theorem itAt_scr (xs : List D) : itAt (.scr xs) = some xs := rfl
@[simp] theorem itAt_str (x : Str) : itAt (.str x) = some (signsD x) := rfl
theorem rngD_at {lo : Int} {n k : Nat} {d : D} (h : (rngD lo n)[k]? = some d) : k < n ∧ d = .int (lo + k) := by
  simp only [rngD, List.getElem?_map, Option.map_eq_some_iff] at h
  obtain ⟨j, e1, e2⟩ := h
  obtain ⟨h1, h2⟩ := List.getElem?_eq_some_iff.mp e1
  rw [List.getElem_range] at h2
  rw [List.length_range] at h1
  subst h2
  exact ⟨h1, e2.symm⟩
@[simp] theorem rngD_len (lo : Int) (n : Nat) : (rngD lo n).length = n := by simp [rngD]
variable {PO : Option Int → OH → Prop}
@[simp] theorem W_noPart (e : Env') (h : OH) : (sNoPart e h).W PO = PO none h := rfl
@[simp] theorem W_part (f : SE) (e : Env') (h : OH) : (sPart f e h).W PO = (f e h).W fun d h1 => isI d fun j => PO (some j) h1 := by
  unfold sPart; rw [W_bind]; congr; funext d h1
  cases d <;> rfl
@[simp] theorem W_sCut (own : Bool) (a : SE) (lo hi : SO) (e : Env') (h : OH) : (sCut own a lo hi e h).W PD = (a e h).W fun x h1 => (lo e h1).W fun l h2 => (hi e h2).W fun u h3 => (opCut own x l u h3).W PD := by simp [sCut]
@[simp] theorem W_cutL (own : Bool) (xs : List D) (lo hi : Option Int) (h : OH) : (opCut own (.lst xs) lo hi h).W PD = if own then PD (.ref h.length) (h ++ [.lst (cutD xs lo hi)]) else PD (.lst (cutD xs lo hi)) h := by
  simp [opCut, lsqAt, seqAt]
@[simp] theorem W_cutC (own : Bool) (xs : List D) (lo hi : Option Int) (h : OH) : (opCut own (.scr xs) lo hi h).W PD = if own then PD (.ref h.length) (h ++ [.lst (cutD xs lo hi)]) else PD (.lst (cutD xs lo hi)) h := by
  simp [opCut, lsqAt, seqAt]
theorem cutD_take (xs : List D) (k : Int) (hk : 0 ≤ k) : cutD xs none (some k) = xs.take k.toNat := by
  have e : ¬ k < 0 := by omega
  simp only [cutD, HT.sIx, e, if_false, List.drop_zero, Nat.sub_zero]
  rw [List.take_eq_take_iff]
  omega
theorem cutD_drop (xs : List D) (k : Int) (hk : 0 ≤ k) : cutD xs (some k) none = xs.drop k.toNat := by
  have e : ¬ k < 0 := by omega
  simp only [cutD, HT.sIx, e, if_false]
  rw [List.take_of_length_le (by simp)]
  rcases Nat.le_total k.toNat xs.length with h | h
  · rw [Nat.min_eq_left h]
  · rw [Nat.min_eq_right h, List.drop_length, List.drop_eq_nil_of_le h]
/-! methods of own lists -/
@[simp] theorem W_sMtO (g : Nat → List D → List D → OH → Res D) (o : SE) (a : SA) (e : Env') (h : OH) : (sMtO g o a e h).W PD = (o e h).W fun x h1 => match x with
  | .ref i => lkL h1[i]? fun _ => (a e h1).W fun ys h2 => lkL h2[i]? fun xs => (g i xs ys h2).W PD
  | _ => False := by
  unfold sMtO
  rw [W_bind]; congr; funext x h1
  cases x with
  | ref i =>
    rcases q : h1[i]? with _ | o
    · simp [isOwn, q, lkL]
    · cases o with
      | lst xs =>
        simp only [isOwn, q, lkL_lst, if_true, W_bind]
        congr; funext ys h2
        rcases q2 : h2[i]? with _ | o
        · rfl
        · cases o <;> rfl
      | _ => simp [isOwn, q, lkL]
  | _ => rfl
@[simp] theorem W_append (i : Nat) (xs : List D) (y : D) (h : OH) : (gAppend i xs [y] h).W PD = if xs.length < 1000000 then PD .non (h.set i (.lst (xs ++ [y]))) else False := by simp [gAppend, big]
theorem W_popAt {i : Nat} {xs : List D} {k : Int} {h : OH} {y : D} (h0 : 0 ≤ k) (hy : xs[k.toNat]? = some y) (hb : k < 2 ^ 63) (p : PD y (h.set i (.lst (xs.eraseIdx k.toNat)))) : (gPopAt i xs [.int k] h).W PD := by
  have hl := (List.getElem?_eq_some_iff.mp hy).1
  have e : seqIndex? k xs.length = some k.toNat := by
    have : ¬ k < 0 := by omega
    have : k < xs.length := by omega
    simp [seqIndex?, *]
  have b : -(2 ^ 63) ≤ k ∧ k < 2 ^ 63 := ⟨by omega, hb⟩
  simp only [gPopAt, if_pos b, e, hy]
  exact p
/-! comprehensions -/
@[simp] theorem W_sLc (own : Bool) (it : SA) (g : TF) (tt : ST) (el : SE) (vs : List Nat) (e : Env') (h : OH) : (sLc own it g tt el vs e h).W PD = (it e h).W fun ds h1 => (lcGo g tt el (wipeD e vs) ds h1 []).W fun acc h2 => if own then PD (.ref h2.length) (h2 ++ [.lst acc]) else PD (.lst acc) h2 := by
  simp [sLc]
theorem W_lcGo {g : TF} {tt : ST} {el : SE} {e : Env'} (I : Nat → List D → OH → Prop) : ∀ (ds : List D) (h : OH) (acc : List D), I 0 acc h → (∀ k d, ds[k]? = some d → ∀ acc h, I k acc h → ∃ e1, g d e h = some e1 ∧ (tt e1 h).W fun b h1 => if b then (el e1 h1).W fun y h2 => acc.length < 1000000 ∧ I (k + 1) (acc ++ [y]) h2 else I (k + 1) acc h1) →
    (∀ acc h, I ds.length acc h → PL acc h) → (lcGo g tt el e ds h acc).W PL
  | [], h, acc, i0, _, fin => fin acc h i0
  | d :: ds, h, acc, i0, st, fin => by
    obtain ⟨e1, q, w⟩ := st 0 d rfl acc h i0
    have rest := fun acc2 h2 (z : I 1 acc2 h2) => W_lcGo (fun k => I (k + 1)) ds h2 acc2 z (fun k d q => st (k + 1) d q) fin
    unfold lcGo
    rw [q]
    dsimp only
    rw [W_bind, W_noX]
    refine w.mono fun b h1 hw => ?_
    cases b with
    | true =>
      simp only [if_true] at hw ⊢
      rw [W_bind, W_noX]
      refine hw.mono fun y h2 hw2 => ?_
      rw [if_pos hw2.1]
      exact rest _ _ hw2.2
    | false => exact rest _ _ hw
/-- nothing is changed on the way -/
theorem W_lcMap {ξ : Type} {g : TF} {tt : ST} {el : SE} {e : Env'} (xs : List ξ) (emb : ξ → D) (p : ξ → Bool) (f : ξ → D) (h : OH) (hb : xs.length ≤ big)
    (st : ∀ x ∈ xs, ∃ e1, g (emb x) e h = some e1 ∧ (tt e1 h).W fun b h1 => b = p x ∧ h1 = h ∧ (p x = true → (el e1 h1).W fun y h2 => y = f x ∧ h2 = h)) (fin : PL ((xs.filter p).map f) h) : (lcGo g tt el e (xs.map emb) h []).W PL := by
  refine W_lcGo (fun k acc h' => h' = h ∧ acc = ((xs.take k).filter p).map f) _ _ _ ⟨rfl, rfl⟩ (fun k d hd acc h' hI => ?_) (fun acc h' hI => ?_)
  · obtain ⟨rfl, rfl⟩ := hI
    rw [List.getElem?_map, Option.map_eq_some_iff] at hd
    obtain ⟨x, hx, rfl⟩ := hd
    have hk := (List.getElem?_eq_some_iff.mp hx).1
    obtain ⟨e1, q, w⟩ := st x (List.mem_of_getElem? hx)
    refine ⟨e1, q, w.mono fun b h1 z => ?_⟩
    obtain ⟨rfl, rfl, z⟩ := z
    have ht : xs.take (k + 1) = xs.take k ++ [x] := by
      rw [List.take_succ, hx]; rfl
    cases hp : p x with
    | true =>
      rw [if_pos rfl]
      refine (z hp).mono fun y h2 z => ?_
      obtain ⟨rfl, rfl⟩ := z
      refine ⟨?_, rfl, ?_⟩
      · have a1 := List.length_filter_le p (xs.take k)
        have a2 : (xs.take k).length ≤ k := List.length_take_le ..
        have hb' : xs.length ≤ 1000000 := hb
        rw [List.length_map]
        omega
      · rw [ht]; simp [hp]
    | false => exact ⟨rfl, by rw [ht]; simp [hp]⟩
  · obtain ⟨rfl, rfl⟩ := hI
    simpa using fin
end
end HR
set_option Elab.async false
set_option linter.all false
set_option maxRecDepth 20000
set_option maxHeartbeats 1000000
/-! more of what the plain functions give -/
namespace HR
open PySem L2
section
variable {α β : Type} {P : α → OH → Prop} {N C B : Env' → OH → Prop} {R : D → OH → Prop} {PD : D → OH → Prop} {PL : List D → OH → Prop} {PB : Bool → OH → Prop}
theorem pure_eq {f : FN} {ds : List D} {x : D} (h : OH) (hp : D.pureL ds = true) (hx : x.pure = true) (w : (f ds []).W fun d _ => d = x) : pureF f ds h = .ok x h := by
  obtain ⟨a, h', e, rfl⟩ := w.out
  simp [pureF, hp, e, hx]
theorem pureL_map {ξ : Type} (f : ξ → D) (hf : ∀ x, (f x).pure = true) : ∀ l : List ξ, D.pureL (l.map f) = true
  | [] => rfl
  | x :: l => by simp [D.pureL, hf x, pureL_map f hf l]
@[simp] theorem pureL_nil : D.pureL [] = true := rfl
@[simp] theorem pureL_cons (x : D) (l : List D) : D.pureL (x :: l) = (x.pure && D.pureL l) := rfl
@[simp] theorem pureF_nil : D.pureF [] = true := rfl
@[simp] theorem pureF_cons (x : String × D) (l : List (String × D)) : D.pureF (x :: l) = (x.2.pure && D.pureF l) := rfl
@[simp] theorem pure_non : D.non.pure = true := rfl
@[simp] theorem pure_int (i : Int) : (D.int i).pure = true := rfl
@[simp] theorem pure_str (i : Str) : (D.str i).pure = true := rfl
@[simp] theorem pure_bl (i : Bool) : (D.bl i).pure = true := rfl
@[simp] theorem pure_lst (l : List D) : (D.lst l).pure = D.pureL l := rfl
@[simp] theorem pure_tup (l : List D) : (D.tup l).pure = D.pureL l := rfl
@[simp] theorem pure_scr (l : List D) : (D.scr l).pure = D.pureL l := rfl
@[simp] theorem pure_obj (C : String) (l : List (String × D)) : (D.obj C l).pure = D.pureF l := rfl
@[simp] theorem pureL_ints (l : List Int) : D.pureL (l.map D.int) = true := pureL_map _ (fun _ => rfl) l
@[simp] theorem pureL_strs (l : List Str) : D.pureL (l.map D.str) = true := pureL_map _ (fun _ => rfl) l
/-! == -/
@[simp] theorem W_eqI (neg : Bool) (i j : Int) (h : OH) : (opEq neg (.int i) (.int j) h).W PD = PD (.bl (if neg then !(i == j) else i == j)) h := by
  simp [opEq, SeqAt.shaped, PyData.canLay0, PyData.depth, PyData.eqv]
theorem W_eqS (neg : Bool) (x y : Str) (h : OH) (hx : PyData.strOk x = true) (hy : PyData.strOk y = true) : (opEq neg (.str x) (.str y) h).W PD = PD (.bl (if neg then !(x == y) else x == y)) h := by
  simp [opEq, SeqAt.shaped, PyData.canLay0, PyData.depth, PyData.eqv, hx, hy]
@[simp] theorem W_nilL (neg : Bool) (xs : List D) (h : OH) : (opNil neg (.lst xs) (.lst []) h).W PD = PD (.bl (if neg then !xs.isEmpty else xs.isEmpty)) h := by simp [opNil, lsqAt, seqAt]
@[simp] theorem W_isNon (neg : Bool) (h : OH) : (opIs neg .non .non h).W PD = PD (.bl (!neg)) h := by simp [opIs]
@[simp] theorem W_isInt (neg : Bool) (i : Int) (h : OH) : (opIs neg (.int i) .non h).W PD = PD (.bl neg) h := by simp [opIs]
@[simp] theorem W_isStr (neg : Bool) (i : Str) (h : OH) : (opIs neg (.str i) .non h).W PD = PD (.bl neg) h := by simp [opIs]
@[simp] theorem W_isLst (neg : Bool) (i : List D) (h : OH) : (opIs neg (.lst i) .non h).W PD = PD (.bl neg) h := by simp [opIs]
@[simp] theorem W_isTup (neg : Bool) (i : List D) (h : OH) : (opIs neg (.tup i) .non h).W PD = PD (.bl neg) h := by simp [opIs]
@[simp] theorem W_sChain (g g' : D → D → OH → Res D) (a b c : SE) (e : Env') (h : OH) : (sChain g g' a b c e h).W PD = (a e h).W fun x h1 => (b e h1).W fun y h2 => (g x y h2).W fun z h3 => isBl z fun t => if t then (c e h3).W fun u h4 => (g' y u h4).W PD else PD (.bl false) h3 := by
  unfold sChain
  rw [W_bind]; congr; funext x h1; rw [W_bind]; congr; funext y h2; rw [W_bind]; congr; funext z h3
  cases z with
  | bl t => cases t <;> simp
  | _ => rfl
@[simp] theorem W_sIsi (ts : List String) (f : SE) (e : Env') (h : OH) : (sIsi ts f e h).W PD = (f e h).W fun d h1 => lkS (tyAt h1 d) fun t => PD (.bl (ts.any fun T => isiB t T)) h1 := by
  unfold sIsi; rw [W_bind]; congr; funext d h1
  cases tyAt h1 d <;> rfl
@[simp] theorem ty_non (h : OH) : tyAt h .non = some "NoneType" := rfl
@[simp] theorem ty_bl (h : OH) (b : Bool) : tyAt h (.bl b) = some "bool" := rfl
@[simp] theorem ty_int (h : OH) (i : Int) : tyAt h (.int i) = some "int" := rfl
@[simp] theorem ty_str (h : OH) (x : Str) : tyAt h (.str x) = some "str" := rfl
@[simp] theorem ty_lst (h : OH) (xs : List D) : tyAt h (.lst xs) = some "list" := rfl
@[simp] theorem ty_scr (h : OH) (xs : List D) : tyAt h (.scr xs) = some "list" := rfl
@[simp] theorem ty_tup (h : OH) (xs : List D) : tyAt h (.tup xs) = some "tuple" := rfl
@[simp] theorem isi_ss : isiB "str" "str" = true := by decide
@[simp] theorem isi_ii : isiB "int" "int" = true := by decide
@[simp] theorem isi_bi : isiB "bool" "int" = true := by decide
@[simp] theorem isi_ib : isiB "int" "bool" = false := by decide
@[simp] theorem isi_ll : isiB "list" "list" = true := by decide
@[simp] theorem isi_lt : isiB "list" "tuple" = false := by decide
@[simp] theorem isi_tl : isiB "tuple" "list" = false := by decide
@[simp] theorem isi_tt : isiB "tuple" "tuple" = true := by decide
@[simp] theorem isi_si : isiB "str" "int" = false := by decide
@[simp] theorem isi_is : isiB "int" "str" = false := by decide
@[simp] theorem isi_sl : isiB "str" "list" = false := by decide
@[simp] theorem isi_st : isiB "str" "tuple" = false := by decide
@[simp] theorem isi_il : isiB "int" "list" = false := by decide
@[simp] theorem isi_it : isiB "int" "tuple" = false := by decide
@[simp] theorem W_inS (neg : Bool) (c : Nat) (z : Str) (h : OH) : (opInS neg (.str ⟨#[c]⟩) (.str z) h).W PD = PD (.bl (if neg then !decide (c ∈ z.cps.toList) else decide (c ∈ z.cps.toList))) h := by simp [opInS]
/-! all, any, sum, tuple, list -/
@[simp] theorem W_allL (xs : List D) (h : OH) : (opAll (.lst xs) h).W PD = lkS (bsOf xs) fun bs => PD (.bl (bs.all id)) h := by
  simp only [opAll, lsqAt, seqAt, Option.bind_some]; split <;> simp_all [lkS]
@[simp] theorem W_anyL (xs : List D) (h : OH) : (opAny (.lst xs) h).W PD = lkS (bsOf xs) fun bs => PD (.bl (bs.any id)) h := by
  simp only [opAny, lsqAt, seqAt, Option.bind_some]; split <;> simp_all [lkS]
@[simp] theorem W_sumL (xs : List D) (h : OH) : (opSum (.lst xs) h).W PD = lkS (intsOf xs) fun ns => PD (.int ns.sum) h := by
  simp only [opSum, lsqAt, seqAt, Option.bind_some]; split <;> simp_all [lkS]
@[simp] theorem bs_nil : bsOf [] = some [] := rfl
@[simp] theorem bs_cons (b : Bool) (l : List D) : bsOf (.bl b :: l) = (bsOf l).map (b :: ·) := rfl
theorem bs_mapF {ξ : Type} (f : ξ → Bool) : ∀ l : List ξ, bsOf (l.map fun x => .bl (f x)) = some (l.map f)
  | [] => rfl
  | x :: l => by simp [bs_mapF f l]
@[simp] theorem W_tupT (xs : List D) (h : OH) : (opTuple (.tup xs) h).W PD = PD (.tup xs) h := rfl
@[simp] theorem W_tupL (xs : List D) (h : OH) : (opTuple (.lst xs) h).W PD = PD (.tup xs) h := rfl
/-! comprehensions over what is written -/
@[simp] theorem W_lc_nil (g : TF) (tt : ST) (el : SE) (e : Env') (h : OH) (acc : List D) : (lcGo g tt el e [] h acc).W PL = PL acc h := rfl
@[simp] theorem W_lc_cons (g : TF) (tt : ST) (el : SE) (e : Env') (d : D) (ds : List D) (h : OH) (acc : List D) : (lcGo g tt el e (d :: ds) h acc).W PL = lkS (g d e h) fun e1 => (tt e1 h).W fun b h1 => if b then (el e1 h1).W fun y h2 => if acc.length < 1000000 then (lcGo g tt el e ds h2 (acc ++ [y])).W PL else False else (lcGo g tt el e ds h1 acc).W PL := by
  rw [lcGo]
  cases g d e h with
  | none => rfl
  | some e1 =>
    simp only [lkS_some, W_bind, W_noX]
    congr; funext b h1
    cases b <;> simp [big]
theorem W_lcMap1 {ξ : Type} {g : TF} {tt : ST} {el : SE} {e : Env'} (xs : List ξ) (emb : ξ → D) (f : ξ → D) (h : OH) (hb : xs.length ≤ big)
    (st : ∀ x ∈ xs, ∃ e1, g (emb x) e h = some e1 ∧ (tt e1 h).W fun b h1 => b = true ∧ h1 = h ∧ (el e1 h1).W fun y h2 => y = f x ∧ h2 = h) (fin : PL (xs.map f) h) : (lcGo g tt el e (xs.map emb) h []).W PL :=
  W_lcMap xs emb (fun _ => true) f h hb (fun x hx => by
    obtain ⟨e1, q, w⟩ := st x hx
    exact ⟨e1, q, w.mono fun b h1 z => ⟨z.1, z.2.1, fun _ => z.2.2⟩⟩) (by rw [List.filter_eq_self.mpr (fun _ _ => rfl)]; exact fin)
/-! objects -/
@[simp] theorem W_fld (f : String) (d : D) (h : OH) : (opFld f d h).W PD = lkS (insAt h d) fun q => lkS (q.2.lookup f) fun x => PD x h := by
  unfold opFld
  cases insAt h d with
  | none => rfl
  | some q => simp only [lkS_some]; cases q.2.lookup f <;> rfl
@[simp] theorem ins_obj (C : String) (fs : List (String × D)) (h : OH) : insAt h (.obj C fs) = some (C, fs) := rfl
theorem ins_ref {i : Nat} {h : OH} {C : String} {fs : List (String × D)} (e : h[i]? = some (.ins C fs)) : insAt h (.ref i) = some (C, fs) := by simp [insAt, e]
@[simp] theorem ins_ref0 (C : String) (fs : List (String × D)) (h : OH) : insAt (.ins C fs :: h) (.ref 0) = some (C, fs) := rfl
def lkI (o : Option OO) (P : String → List (String × D) → Prop) : Prop := match o with
  | some (.ins C fs) => P C fs
  | _ => False
@[simp] theorem lkI_ins (C : String) (fs : List (String × D)) (P : String → List (String × D) → Prop) : lkI (some (.ins C fs)) P = P C fs := rfl
def isR (d : D) (P : Nat → Prop) : Prop := match d with
  | .ref i => P i
  | _ => False
@[simp] theorem isR_ref (i : Nat) (P : Nat → Prop) : isR (.ref i) P = P i := rfl
@[simp] theorem SW_fldS (K f : String) (o v : SE) (e : Env') (h : OH) : (sFldS K f o v e h).W N C B R = (v e h).W fun y h1 => (o e h1).W fun x h2 => isR x fun i => lkI h2[i]? fun K' fs => if K' = K ∧ fs.length < 900 then N e (h2.set i (.ins K (putS f y fs))) else False := by
  unfold sFldS
  simp only [W_toS]
  congr; funext y h1; congr; funext x h2
  cases x <;> first | rfl | skip
  rename_i i
  simp only [isR_ref]
  rcases h2[i]? with _ | o
  · rfl
  · cases o <;> first | rfl | simp
@[simp] theorem putS_nil (f : String) (d : D) : putS f d [] = [(f, d)] := rfl
@[simp] theorem putS_cons (f : String) (d : D) (q : String × D) (r : List (String × D)) : putS f d (q :: r) = if q.1 = f then (q.1, d) :: r else q :: putS f d r := by
  obtain ⟨g, x⟩ := q; rfl
/-- no field hides the method -/
def hasNo (fs : List (String × D)) (mt : String) : Prop := fs.lookup mt = none
@[simp] theorem W_sMeth (K mt : String) (g : FN) (o : SE) (a : SA) (e : Env') (h : OH) : (sMeth K mt g o a e h).W PD = (o e h).W fun x h1 => lkS (insAt h1 x) fun q => q.1 = K ∧ hasNo q.2 mt ∧ (a e h1).W fun ys h2 => (g (x :: ys) h2).W PD := by
  unfold sMeth
  rw [W_bind]; congr; funext x h1
  cases insAt h1 x with
  | none => rfl
  | some q =>
    simp only [lkS_some]
    by_cases hz : q.1 = K ∧ q.2.lookup mt = none
    · have h1 : q.1 = K := hz.1
      have h2 : hasNo q.2 mt := hz.2
      rw [if_pos hz]
      simp [h1, h2]
    · rw [if_neg hz]
      exact propext ⟨fun z => z.elim, fun z => absurd ⟨z.1, z.2.1⟩ hz⟩
end
/-! keys -/
theorem keys_strs : ∀ l : List Str, keysOf (l.map D.str) = some (l.map Sum.inr)
  | [] => rfl
  | x :: l => by simp [keysOf, keys_strs l]
end HR
set_option Elab.async false
set_option linter.all false
set_option maxRecDepth 20000
set_option maxHeartbeats 1000000
/-! range with the step -1, enumerate, zip -/
namespace HR
open PySem L2 RZ
section
variable {X : Cx} {W : WX}
def rngS (lo c : Int) (n : Nat) : List D := (List.range n).map fun (k : Nat) => D.int (lo + k * c)
@[simp] theorem rngS_len (lo c : Int) (n : Nat) : (rngS lo c n).length = n := by simp [rngS]
/-- range(a, b, -1) -/
def sRngN (a : SA) : SA := fun e h => (a e h).bind fun ds h1 => match ds with
  | [.int i, .int j, .int k] => if rngOk i && (rngOk j && decide (k = -1)) then .ok (rngS i (-1) (i - j).toNat) h1 else .bad
  | _ => .bad
/-! enumerate(list), zip(a, b) -/
def enumD (xs : List D) : List D := xs.mapIdx fun i x => .tup [.int (i : Nat), x]
theorem walks_enum {K : PySem.W.Frag} {F : Hp} {m : List Addr} {a : Addr} {vs : List V} {xs : List D} (q : SqL K F a vs) (r : DenL K F m vs xs) : Walks K F m (Ite K a) (enumD xs) := by
  intro P F2 m2 h H i x S
  have q2 : SqL K H a vs := S.sub.seq (x.s.seq q)
  have hl : (enumD xs).length = xs.length := by simp [enumD]
  rw [hl]
  refine ⟨fun hi => ?_, fun hi => ⟨vs, q2, by rw [r.length]; exact hi⟩⟩
  have hv : i < vs.length := by rw [r.length]; exact hi
  refine ⟨⟨vs, vs[i], q2, List.getElem?_eq_getElem hv⟩, fun y H' yl => ?_⟩
  obtain ⟨T, z, rfl, hT, rfl, yl⟩ := yl
  obtain ⟨d, e1, r1⟩ := r.getV (yl vs q2)
  have x2 := S.extF (o := .tup [.int (i : Nat), z]) hT
  exact ⟨_, x2, S.frozen hT, .tup [.int (i : Nat), d], by simp [enumD, e1], .tup (.inl (.inl upd_same)) (.cons (.int _) (.cons (r1.mono (x.trans x2)) .nil))⟩
def sEnum (f : SA) : SA := fun e h => (f e h).bind fun ds h1 => match ds with
  | [d] => (match frzAt d with
    | some xs => .ok (enumD xs) h1
    | none => .bad)
  | _ => .bad
theorem di_enum {elts : List Expr} {kk : Nat} {tpos : Pos} {a : Expr} {f : SE} {p pos : Pos} (hg : Gl X "enumerate") (hm : X.mg "enumerate" = none) (ha : DE X W a f) (he : starEach [a] X.env = (false, eval a X.env) :: starEach [] X.env := by rfl) (hs : starEach [a] X.env = [(false, eval a X.env)] := by rfl) :
    DI X W (.Tuple elts kk tpos) (.Call (.Name "enumerate" p) [a] [] pos) (sEnum (sCons f sNil)) :=
  PI.of (pi_enum hg hm (da_cons ha da_nil he) hs) fun σ H R => by
    rintro ⟨P, F, m, e, h, S, E, fin⟩
    refine ⟨P, F, m, e, h, S, E, ?_⟩
    unfold sEnum at fin
    cases q : (sCons f sNil) e h with
    | bad => rw [q] at fin; exact fin.elim
    | exc C p h1 => rw [q] at fin; exact fin
    | ok ds h1 =>
      rw [q] at fin
      simp only [Res.bind_ok] at fin
      intro vs F1 m1 H1 x S1 r
      match ds, fin, r with
      | [d], fin, r =>
        obtain ⟨v, rfl, r1⟩ := denL1 r
        dsimp only at fin
        cases q3 : frzAt d with
        | none => rw [q3] at fin; exact fin.elim
        | some xs =>
          rw [q3] at fin
          obtain ⟨b, ws, rfl, hb, rl⟩ := den_sq r1 q3
          exact ⟨b, ws, rfl, S1.sub.seq hb, FinG.okX fin x S1 (walks_enum hb rl)⟩
def zipD (xs ys : List D) : List D := List.zipWith (fun x y => D.tup [x, y]) xs ys
def zipAt : D → D → Option (List D)
  | .tup xs, .tup ys => some (zipD xs ys)
  | a, b => match frzAt a, frzAt b with
    | some xs, some ys => some (zipD xs ys)
    | _, _ => none
def sZip (f : SA) : SA := fun e h => (f e h).bind fun ds h1 => match ds with
  | [d, d2] => (match zipAt d d2 with
    | some xs => .ok xs h1
    | none => .bad)
  | _ => .bad
end
section
variable {PL : List D → OH → Prop}
theorem W_rngN (a : SA) (e : Env') (h : OH) : (sRngN a e h).W PL = (a e h).W fun ds h1 => match ds with
  | [.int i, .int j, .int k] => if rngOk i && (rngOk j && decide (k = -1)) then PL (rngS i (-1) (i - j).toNat) h1 else False
  | _ => False := by
  unfold sRngN; rw [W_bind]; congr; funext ds h1
  split
  · split <;> rfl
  · rfl
@[simp] theorem W_rngN3 (f g k : SE) (e : Env') (h : OH) : (sRngN (sCons f (sCons g (sCons k sNil))) e h).W PL = (f e h).W fun a h1 => (g e h1).W fun b h2 => (k e h2).W fun c h3 => isI a fun i => isI b fun j => isI c fun l => if rngOk i && (rngOk j && decide (l = -1)) then PL (rngS i (-1) (i - j).toNat) h3 else False := by
  rw [W_rngN]; simp only [W_sCons, W_sNil]
  congr; funext a h1; congr; funext b h2; congr; funext c h3
  cases a <;> cases b <;> cases c <;> rfl
@[simp] theorem W_enum (f : SE) (e : Env') (h : OH) : (sEnum (sCons f sNil) e h).W PL = (f e h).W fun d h1 => lkS (frzAt d) fun xs => PL (enumD xs) h1 := by
  unfold sEnum; rw [W_bind]; simp only [W_sCons, W_sNil]; congr; funext d h1
  cases frzAt d <;> rfl
@[simp] theorem W_zip (f g : SE) (e : Env') (h : OH) : (sZip (sCons f (sCons g sNil)) e h).W PL = (f e h).W fun d h1 => (g e h1).W fun d2 h2 => lkS (zipAt d d2) fun xs => PL xs h2 := by
  unfold sZip; rw [W_bind]; simp only [W_sCons, W_sNil]; congr; funext d h1; congr; funext d2 h2
  cases zipAt d d2 <;> rfl
@[simp] theorem frz_lst (xs : List D) : frzAt (.lst xs) = some xs := rfl
@[simp] theorem frz_scr (xs : List D) : frzAt (.scr xs) = some xs := rfl
@[simp] theorem zipAt_ll (xs ys : List D) : zipAt (.lst xs) (.lst ys) = some (zipD xs ys) := rfl
@[simp] theorem zipAt_tt (xs ys : List D) : zipAt (.tup xs) (.tup ys) = some (zipD xs ys) := rfl
end
/-! ### while -/
end HR
set_option Elab.async false
set_option linter.all false
set_option maxRecDepth 100000
set_option maxHeartbeats 2000000
/-! repr; a law's end where the def is called with no guards -/
namespace HR
open PySem L2 RZ PySem.Spec PyProof.Rows
section
variable {X : Cx} {W : WX}
def isRf : D → Bool
  | .lst _ | .tup _ | .scr _ | .ref _ => true
  | _ => false
theorem isRf_ref {K : PySem.W.Frag} {F : Hp} {m : List Addr} {v : V} {d : D} (r : Den K F m v d) (q : isRf d = true) : ∃ a, v = .ref a := by
  cases r <;> first | exact ⟨_, rfl⟩ | cases q
end
/-! ### the law's end: the caller has no guards -/
/-- the script alone is tracked, and not even that where it is the module's own -/
def scrH (K : PySem.W.Frag) (a : Addr) (o : Obj) (xs : List V) : Hp := fun b => if b = a ∧ K.lookup a = none then some (.frz o (.lst xs)) else none
section
variable {K : PySem.W.Frag} {a b : Addr} {o : Obj} {xs : List V}
theorem scrH_some {u : HO} (e : scrH K a o xs b = some u) : b = a ∧ K.lookup a = none ∧ u = .frz o (.lst xs) := by
  unfold scrH at e
  by_cases c : b = a ∧ K.lookup a = none
  · rw [if_pos c] at e
    exact ⟨c.1, c.2, (Option.some.inj e).symm⟩
  · rw [if_neg c] at e
    cases e
theorem scrH_only : Only (scrH K a o xs) := fun b => by
  cases e : scrH K a o xs b with
  | none => exact .inl rfl
  | some u => obtain ⟨_, _, rfl⟩ := scrH_some e; exact .inr ⟨_, _, rfl⟩
end
section
variable {P : Program} {w : World} {K : PySem.W.Frag} {mg : Str → Option Value} {k : Nat} {f a : Addr} {fd : FuncData} {x : Str} {sp : Sp} {st : Shared} {vs : List Value} {ns : List Int}
theorem end_run (hgd : callerA.guards = some []) (kin : K.In st.heap) (gl : st.heap.Ns mainGlobals mg) (bl : ∃ mb, st.heap.Ns builtinsNs mb ∧ ∀ y : Str, y ≠ "__name__" → mb y = bootBuiltins y) (nl : st.heap.NoLimit) (gn : st.gens = #[])
    (oa : st.heap.get? a = some { cls := .type "list", data := .seq vs.toArray }) (whl : IntsAre vs ns) (len : ns.length ≤ sizeLine) (room : Room k callerA)
    (F : ∀ bs : Heap, K.In bs → bs.Ns mainGlobals mg → FnOkG P w K mg bs CX0 k f fd [x] sp) (bind : ∀ (s : Shared) (u : Value), BindsTo s fd ⟨[u], []⟩ [(x, u)])
    (prom : ∀ H : Hp, Only H → SqL K H a (ns.map V.int) → sp [.ref a] H (fun v _ => v = .bl true) fun _ _ _ => False) :
    codeAny (model P w) callerA (.call (.ref f) ⟨[.ref a], []⟩) (fun r t => r = .ok (.ret (.bool true)) ∧ OldK st.heap t.heap ∧ t.os = st.os ∧ AllBare t.gens) st := by
  have rel := vals_ints whl
  obtain ⟨H, hH⟩ : ∃ H : Hp, H = scrH K a { cls := .type "list", data := .seq vs.toArray } (ns.map V.int) := ⟨_, rfl⟩
  have some_ : ∀ {b : Addr} {u : HO}, H b = some u → b = a ∧ K.lookup a = none ∧ u = .frz { cls := .type "list", data := .seq vs.toArray } (.lst (ns.map V.int)) := fun e => scrH_some (hH ▸ e)
  have only : Only H := hH ▸ scrH_only
  -- what is no list stays in sight, and what the module's frag tells
  have sight : ∀ {b : Addr} {u : Obj}, st.heap.get? b = some u → (b = a → K.lookup a ≠ none) → (hidT st.heap H).get? b = some u := fun {b u} e n => hidT_get e (by
    cases q : H b with
    | none => rfl
    | some z => obtain ⟨z1, z2, _⟩ := some_ q; exact absurd z2 (n z1))
  have dicts : ∀ {b : Addr} {m : Str → Option Value}, st.heap.Ns b m → (hidT st.heap H).Ns b m := fun {b m} ⟨u, es, ep, e, d, rest⟩ => ⟨u, es, ep, sight e (fun z => by
    subst z
    rw [oa] at e
    cases e
    exact nomatch (show Data.seq vs.toArray _ = Data.dict es ep from d)), d, rest⟩
  have kin' : K.In (hidT st.heap H) := fun b u e => sight (kin b u e) (fun z => by subst z; rw [e]; exact fun q => nomatch q)
  have seq : SqL K H a (ns.map V.int) := by
    cases q : K.lookup a with
    | some u =>
      have e := kin a u q
      rw [oa] at e
      cases e
      exact .inr ⟨_, vs.toArray, _, q, rfl, rfl, rfl, by rw [List.size_toArray, whl.length]; exact len, by simpa using rel⟩
    | none => exact .inl (.inr ⟨{ cls := .type "list", data := .seq vs.toArray }, by rw [hH]; exact if_pos ⟨rfl, q⟩⟩)
  have hok : HOk P w H st.heap := fun b u e => by
    obtain ⟨rfl, _, rfl⟩ := some_ e
    exact ⟨oa, by rw [List.length_map]; exact len, vs, _, rel, oa⟩
  have env : Env0 P w K mg (hidT st.heap H) callerA [] st H :=
    ⟨rfl, ⟨kin', dicts gl, bl.imp fun mb q => ⟨dicts q.1, q.2⟩, nl.imp fun mc q => ⟨dicts q.1, q.2⟩⟩, fun b u e => of_hidT e, Nat.le_of_eq (hidT_size _ _), trivial, fun b m => absurd (show b ∈ ([] : List Addr) from m) (by simp), hok, .of_eq gn⟩
  refine codeAny_mono ((F _ kin' (dicts gl)).run callerA [] st H ⟨[.ref a], []⟩ [.ref a] [.ref a] _ _ room hgd env (bind st (.ref a)) (.cons rfl .nil) (prom H only seq)) fun r t q => ?_
  match r, q with
  | .ok (.ret u), q =>
    obtain ⟨v, H2, os, bare, un, hok2, rv, (rfl : v = V.bl true)⟩ := q
    obtain rfl : u = Value.bool true := rv
    refine ⟨rfl, OldK.of_keep (fun b u e => ?_), os, bare⟩
    have none_ : ¬ b ∈ ([] : List Addr) := by simp
    cases q : H b with
    | none => exact un.keep b u e q none_ none_
    | some z =>
      obtain ⟨rfl, _, rfl⟩ := some_ q
      have two := (hok2 _ _ (un.frzs _ _ _ q)).1
      have one := (hok _ _ q).1
      rw [e] at one
      cases one
      exact two
end
theorem walk_ofG {l : PySem.W.OpenLaw} {n k : Nat} {q : Program} {loose : List Str} {XP : (Str → Option Value) → Heap → Prop} {YP : World → Heap → Prop} {d : DefRec} {CX : CXT} {x : Str} (mst : l.most = some n) (mle : n ≤ sizeLine) (dfl : d.params.defaults = []) (room : Room k callerA)
    (F : ∀ (w : World) (mg : Str → Option Value) (f : Addr) (h : Heap), YP w h → h.Ns mainGlobals mg → mg d.name = some (.ref f) → ∃ (K : PySem.W.Frag) (fd : FuncData) (sp : Sp), K.In h ∧ (∀ (s : Shared) (u : Value), BindsTo s fd ⟨[u], []⟩ [(x, u)]) ∧ (∀ (H : Hp) (a : Addr) (ns : List Int), ns.length ≤ n → Only H → SqL K H a (ns.map V.int) → sp [.ref a] H (fun v _ => v = .bl true) fun _ _ _ => False) ∧ ∀ bs : Heap, K.In bs → bs.Ns mainGlobals mg → FnOkG l.prog w K mg bs CX0 k f fd [x] sp)
    (_ : ∀ (H : Hp) (s : Shared) (e : Value) (s' : Shared), CX0 [] H s (fun _ _ _ => False) e s' → False) : PySem.W.WalkO q loose XP YP l.row.toRowW d [] (fun f vs => PySem.call f vs) := by
  refine Att.attach_call mst dfl fun w s0 st mg mb f o pm cd doc a vs ns G Y ho hd hcd name obj whl len gn => ?_
  obtain ⟨K, fd, sp, kin, bind, prom, fok⟩ := F w mg f _ Y G.T.g name
  exact end_run rfl kin G.T.g ⟨mb, G.T.b, G.T.builtins⟩ G.T.nolimit gn obj whl (Nat.le_trans len mle) room fok bind fun H oH sH => prom H a ns len oH sH
end HR
set_option Elab.async false
set_option linter.all false
set_option maxRecDepth 20000
set_option maxHeartbeats 1000000
/-! recursion: no call at all -/
set_option Elab.async false
set_option linter.all false
set_option maxRecDepth 20000
set_option maxHeartbeats 1000000
/-! lending: own lists are read as frozen trees for a call that changes nothing -/
namespace HR
open PySem L2 RZ
mutual
def snapG (get : Nat → Option (List D)) : D → Option D
  | .non => some .non
  | .bl b => some (.bl b)
  | .int i => some (.int i)
  | .str x => some (.str x)
  | .lst xs => (snapGL get xs).map .lst
  | .scr xs => (snapGL get xs).map .scr
  | .tup xs => (snapGL get xs).map .tup
  | .ref i => (get i).map .lst
  | .dct _ => none
  | .obj _ _ => none
  | .exc _ => none
  | .excf _ _ _ => none
def snapGL (get : Nat → Option (List D)) : List D → Option (List D)
  | [] => some []
  | x :: xs => match snapG get x, snapGL get xs with
    | some d, some ds => some (d :: ds)
    | _, _ => none
end
def snapGet (h : OH) : Nat → Nat → Option (List D)
  | 0, _ => none
  | n + 1, i => match h[i]? with
    | some (.lst xs) => snapGL (snapGet h n) xs
    | _ => none
def deadL : OO → OO
  | .lst _ => .dead
  | o => o
section
variable {K : PySem.W.Frag} {P : Pins} {F : Hp} {m : List Addr} {h : OH} {H : Hp}
def Lent (F : Hp) (m : List Addr) (h : OH) (b : Addr) : Prop := F b = none ∧ ∃ (i : Nat) (xs : List D), m[i]? = some b ∧ h[i]? = some (OO.lst xs)
open Classical in
noncomputable def lentF (F : Hp) (m : List Addr) (h : OH) (H : Hp) : Hp := fun b => if Lent F m h b then H b else F b
theorem lentF_same : Same F (lentF F m h H) := fun b u e => by
  unfold lentF
  rw [if_neg fun z => by have := z.1; rw [this] at e; cases e]
  exact e
theorem lentF_sub (S : Sim K P F m h H) : Same (lentF F m h H) H := fun b u e => by
  unfold lentF at e
  split at e
  · exact e
  · exact S.sub b u e
theorem lent_uniq (S : Sim K P F m h H) {i j : Nat} {a : Addr} (e1 : m[i]? = some a) (e2 : m[j]? = some a) : i = j := by
  obtain ⟨h1, q1⟩ := List.getElem?_eq_some_iff.mp e1
  obtain ⟨h2, q2⟩ := List.getElem?_eq_some_iff.mp e2
  exact (List.getElem_inj S.nd).mp (q1.trans q2.symm)
theorem lentF_lst (S : Sim K P F m h H) {i : Nat} {a : Addr} {xs : List D} (e1 : m[i]? = some a) (e2 : h[i]? = some (.lst xs)) : ∃ vs, lentF F m h H a = some (.lst vs) ∧ H a = some (.lst vs) ∧ DenL K F m vs xs := by
  obtain ⟨vs, h1, h2, h3⟩ := S.at_ i a _ e1 e2
  refine ⟨vs, ?_, h1, h2⟩
  unfold lentF
  rw [if_pos ⟨h3, i, xs, e1, e2⟩]
  exact h1
theorem lentF_none {a : Addr} (e : F a = none) (n : ¬ Lent F m h a) : lentF F m h H a = none := by
  unfold lentF
  rw [if_neg n]
  exact e
/-- the own lists lent -/
theorem Sim.lend (S : Sim K P F m h H) : Sim K P (lentF F m h H) m (h.map deadL) H where
  sub := lentF_sub S
  len := by rw [List.length_map]; exact S.len
  nd := S.nd
  live := S.live
  at_ := fun i a o e1 e2 => by
    rw [List.getElem?_map, Option.map_eq_some_iff] at e2
    obtain ⟨u, q1, rfl⟩ := e2
    have x : Ext F m (lentF F m h H) m := ⟨lentF_same, List.prefix_rfl⟩
    have nl : (∀ xs, u ≠ .lst xs) → ¬ Lent F m h a := fun n z => by
      obtain ⟨_, j, xs, z1, z2⟩ := z
      have := lent_uniq S e1 z1
      subst this
      rw [q1] at z2
      exact n xs (Option.some.inj z2)
    have old := S.at_ i a u e1 q1
    cases u with
    | lst xs => trivial
    | ins C fs =>
      obtain ⟨dx, fv, h1, h2, h3, h4⟩ := old
      exact ⟨dx, fv, h1, h2, h3.mono x, lentF_none h4 (nl fun _ => nofun)⟩
    | dct kvs =>
      obtain ⟨ks, h1, h2, h3⟩ := old
      exact ⟨ks, h1, h2.mono x, lentF_none h3 (nl fun _ => nofun)⟩
    | dead => trivial
  pin := fun p hp => by
    obtain ⟨h1, h2, h3⟩ := S.pin p hp
    exact ⟨h1, lentF_none h2 (fun z => by
      obtain ⟨_, j, xs, z1, _⟩ := z
      exact h3 (List.mem_of_getElem? z1)), h3⟩
  pnd := S.pnd
open Classical in
/-- .. and given back -/
noncomputable def backF (F F1 : Hp) (m : List Addr) : Hp := fun b => if b ∈ m ∧ F b = none then none else F1 b
theorem backF_same (s : Same F F1) : Same F (backF F F1 m) := fun b u e => by
  unfold backF
  rw [if_neg fun z => by rw [z.2] at e; cases e]
  exact s b u e
theorem Sim.giveBack {F1 : Hp} {m1 : List Addr} {h1 : OH} {H1 : Hp} (S : Sim K P F m h H) (x : Same (lentF F m h H) F1) (S1 : Sim K (hidP (lentF F m h H) m H ++ P) F1 m1 h1 H1) : Sim K P (backF F F1 m) m h H1 := by
  have none_ : ∀ {a : Addr}, a ∈ m → F a = none → backF F F1 m a = none := fun ha z => if_pos ⟨ha, z⟩
  have stay : ∀ {a : Addr}, a ∈ m → ∀ o, H a = some o → H1 a = some o := fun {a} ha o e => by
    cases q : lentF F m h H a with
    | some u =>
      have := lentF_sub S a u q
      rw [e] at this
      cases this
      exact S1.sub _ _ (x _ _ q)
    | none => exact (S1.pin (a, o) (List.mem_append_left _ (mem_hidP.mpr ⟨ha, q, e⟩))).1
  have xs : Ext F m (backF F F1 m) m := ⟨backF_same (lentF_same.trans x), List.prefix_rfl⟩
  refine ⟨fun b u e => ?_, S.len, S.nd, fun a ha => ?_, fun i a o e1 e2 => ?_, fun p hp => ?_, S.pnd⟩
  · unfold backF at e
    split at e
    · cases e
    · exact S1.sub b u e
  · obtain ⟨o, e⟩ := S.live a ha
    exact ⟨o, stay ha o e⟩
  · have ha := List.mem_of_getElem? e1
    have old := S.at_ i a o e1 e2
    cases o with
    | lst ys =>
      obtain ⟨vs, h1, h2, h3⟩ := old
      exact ⟨vs, stay ha _ h1, h2.mono xs, none_ ha h3⟩
    | ins C fs =>
      obtain ⟨dx, fv, h1, h2, h3, h4⟩ := old
      exact ⟨dx, fv, stay ha _ h1, h2, h3.mono xs, none_ ha h4⟩
    | dct kvs =>
      obtain ⟨ks, h1, h2, h3⟩ := old
      exact ⟨ks, stay ha _ h1, h2.mono xs, none_ ha h3⟩
    | dead => trivial
  · obtain ⟨h1, h2, _⟩ := S1.pin p (List.mem_append_right _ hp)
    refine ⟨h1, ?_, (S.pin p hp).2.2⟩
    unfold backF
    split
    · rfl
    · exact h2
theorem snap_den {m1 : List Addr} {F1 : Hp} (x : Same F F1) {get : Nat → Option (List D)} (hg : ∀ i a ds, m[i]? = some a → get i = some ds → ∃ vs, F1 a = some (.lst vs) ∧ DenL K F1 m1 vs ds) {v : V} {d : D} (r : Den K F m v d) : ∀ d', snapG get d = some d' → Den K F1 m1 v d' :=
  Den.rec (motive_1 := fun v d _ => ∀ d', snapG get d = some d' → Den K F1 m1 v d') (motive_2 := fun vs ds _ => ∀ ds', snapGL get ds = some ds' → DenL K F1 m1 vs ds') (motive_3 := fun _ _ _ => True) (motive_4 := fun _ _ _ => True)
    (fun d' e => by simp only [snapG, Option.some.injEq] at e; subst e; exact .non) (fun b d' e => by simp only [snapG, Option.some.injEq] at e; subst e; exact .bl b)
    (fun i d' e => by simp only [snapG, Option.some.injEq] at e; subst e; exact .int i) (fun y d' e => by simp only [snapG, Option.some.injEq] at e; subst e; exact .str y)
    (fun q _ ih d' e => by
      simp only [snapG, Option.map_eq_some_iff] at e
      obtain ⟨ps, e1, rfl⟩ := e
      exact .lst (x _ _ q) (ih ps e1))
    (fun q _ ih d' e => by
      simp only [snapG, Option.map_eq_some_iff] at e
      obtain ⟨ps, e1, rfl⟩ := e
      exact .scr (x.seq q) (ih ps e1))
    (fun q _ ih d' e => by
      simp only [snapG, Option.map_eq_some_iff] at e
      obtain ⟨ps, e1, rfl⟩ := e
      exact .tup (Same.sqT x q) (ih ps e1))
    (fun _ _ _ d' e => by simp only [snapG] at e; cases e) (fun _ _ _ _ d' e => by simp only [snapG] at e; cases e)
    (fun {a i} q d' e => by
      simp only [snapG, Option.map_eq_some_iff] at e
      obtain ⟨ps, e1, rfl⟩ := e
      obtain ⟨vs, k1, k2⟩ := hg i a ps q e1
      exact .lst k1 k2)
    (fun _ d' e => by simp only [snapG] at e; cases e) (fun _ _ _ _ d' e => by simp only [snapG] at e; cases e)
    (fun ds' e => by simp only [snapGL, Option.some.injEq] at e; subst e; exact .nil)
    (fun {v d vs ds} _ _ ih1 ih2 ds' e => by
      simp only [snapGL] at e
      cases e1 : snapG get d with
      | none => rw [e1] at e; simp at e
      | some p =>
        cases e2 : snapGL get ds with
        | none => rw [e1, e2] at e; simp at e
        | some qs =>
          rw [e1, e2] at e
          simp only [Option.some.injEq] at e
          subst e
          exact .cons (ih1 p e1) (ih2 qs e2))
    trivial (fun _ _ _ _ => trivial) trivial (fun _ _ _ _ => trivial) r
theorem snapL_den {m1 : List Addr} {F1 : Hp} (x : Same F F1) {get : Nat → Option (List D)} (hg : ∀ i a ds, m[i]? = some a → get i = some ds → ∃ vs, F1 a = some (.lst vs) ∧ DenL K F1 m1 vs ds) : ∀ {vs : List V} {ds ds' : List D}, DenL K F m vs ds → snapGL get ds = some ds' → DenL K F1 m1 vs ds'
  | _, _, _, .nil, e => by simp only [snapGL, Option.some.injEq] at e; subst e; exact .nil
  | _, d :: ds, _, .cons a b, e => by
    simp only [snapGL] at e
    cases e1 : snapG get d with
    | none => rw [e1] at e; simp at e
    | some p =>
      cases e2 : snapGL get ds with
      | none => rw [e1, e2] at e; simp at e
      | some qs =>
        rw [e1, e2] at e
        simp only [Option.some.injEq] at e
        subst e
        exact .cons (snap_den x hg a p e1) (snapL_den x hg b e2)
theorem snapGet_ok (S : Sim K P F m h H) : ∀ (n i : Nat) (a : Addr) (ds : List D), m[i]? = some a → snapGet h n i = some ds → ∃ vs, lentF F m h H a = some (.lst vs) ∧ DenL K (lentF F m h H) [] vs ds
  | 0, _, _, _, _, e => by simp [snapGet] at e
  | n + 1, i, a, ds, e1, e => by
    simp only [snapGet] at e
    cases q : h[i]? with
    | none => rw [q] at e; cases e
    | some o =>
      rw [q] at e
      cases o with
      | lst xs =>
        obtain ⟨vs, k1, _, k2⟩ := lentF_lst S e1 q
        exact ⟨vs, k1, snapL_den lentF_same (fun j b es q1 q2 => snapGet_ok S n j b es q1 q2) k2 e⟩
      | _ => cases e
def flatS : D → Bool
  | .non | .bl _ | .int _ | .str _ => true
  | _ => false
/-- no address, or a tuple of such -/
def flatT : D → Bool
  | .non | .bl _ | .int _ | .str _ => true
  | .tup xs => xs.all flatS
  | _ => false
theorem flat1 {F1 F2 : Hp} {m1 m2 : List Addr} {v : V} {d : D} (r : Den K F1 m1 v d) (q : flatS d = true) : Den K F2 m2 v d := by
  cases r <;> first | exact .non | exact .bl _ | exact .int _ | exact .str _ | cases q
theorem flatL {F1 F2 : Hp} {m1 m2 : List Addr} : ∀ {vs : List V} {ds : List D}, DenL K F1 m1 vs ds → ds.all flatS = true → DenL K F2 m2 vs ds
  | _, _, .nil, _ => .nil
  | _, _, .cons a b, e => by
    rw [List.all_cons, Bool.and_eq_true] at e
    exact .cons (flat1 a e.1) (flatL b e.2)
theorem back_keep {F1 : Hp} {m1 : List Addr} {u0 : HO} {a : Addr} (hu : ∀ vs, u0 ≠ .lst vs) (S : Sim K P F m h H) (x : Same (lentF F m h H) F1) (hp : ∀ a o, a ∈ m → lentF F m h H a = none → H a = some o → F1 a = none) (e : F1 a = some u0) : backF F F1 m a = some u0 := by
  unfold backF
  rw [if_neg fun z => ?_]
  · exact e
  · obtain ⟨z1, z2⟩ := z
    cases k : lentF F m h H a with
    | none =>
      obtain ⟨o, ho⟩ := S.live a z1
      have := hp a o z1 k ho
      rw [e] at this
      cases this
    | some u =>
      have k2 := x _ _ k
      rw [e] at k2
      cases k2
      unfold lentF at k
      split at k
      · rename_i ln
        obtain ⟨_, i, xs, q1, q2⟩ := ln
        obtain ⟨vs, w1, _, _⟩ := S.at_ i a _ q1 q2
        rw [k] at w1
        exact hu vs (Option.some.inj w1)
      · rw [z2] at k; cases k
theorem back_tup {F1 : Hp} {m1 : List Addr} {a : Addr} {vs : List V} (S : Sim K P F m h H) (x : Same (lentF F m h H) F1) (hp : ∀ a o, a ∈ m → lentF F m h H a = none → H a = some o → F1 a = none) (e : SqT K F1 a vs) : SqT K (backF F F1 m) a vs := by
  rcases e with (e | ⟨o, e⟩) | e
  · exact .inl (.inl (back_keep (m1 := m1) (fun _ z => nomatch z) S x hp e))
  · exact .inl (.inr ⟨o, back_keep (m1 := m1) (fun _ z => nomatch z) S x hp e⟩)
  · exact .inr e
theorem flat_back {F1 : Hp} {m1 : List Addr} (S : Sim K P F m h H) (x : Same (lentF F m h H) F1) (hp : ∀ a o, a ∈ m → lentF F m h H a = none → H a = some o → F1 a = none) {v : V} {d : D} (r : Den K F1 m1 v d) (q : flatT d = true) : Den K (backF F F1 m) m v d := by
  cases r with
  | tup e t =>
    rename_i a vs ds
    exact .tup (back_tup (m1 := m1) S x hp e) (flatL t q)
  | non => exact .non
  | bl b => exact .bl b
  | int i => exact .int i
  | str y => exact .str y
  | _ => cases q
end
/-- a def that reads own lists as frozen trees, its answer flat -/
def lendF (g : FN) : FN := fun ds h => match snapGL (snapGet h 5) ds with
  | some ds' => (match g ds' [] with
    | .ok d _ => if flatT d then .ok d h else .bad
    | .exc C none _ => .exc C none h
    | _ => .bad)
  | none => .bad
theorem lend_sp {K : PySem.W.Frag} {np : Nat} {g : FN} {vs : List V} {H : Hp} {Q : VK} {E : XK} (q : spN K np (lendF g) vs H Q E) : spN K np g vs H Q E := by
  obtain ⟨hl, P, F, m, ds, h, S, r, fin⟩ := q
  unfold lendF at fin
  cases e1 : snapGL (snapGet h 5) ds with
  | none => rw [e1] at fin; exact fin.elim
  | some ds' =>
    rw [e1] at fin
    dsimp only at fin
    have r' := snapL_den lentF_same (fun j b es q1 q2 => snapGet_ok S 5 j b es q1 q2) r e1
    have S' := S.lend.hide
    refine ⟨hl, _, _, [], ds', [], S', r', ?_⟩
    have pins : ∀ {F1 : Hp} {m1 : List Addr} {h1 : OH} {H1 : Hp}, Sim K (hidP (lentF F m h H) m H ++ P) F1 m1 h1 H1 → ∀ a o, a ∈ m → lentF F m h H a = none → H a = some o → F1 a = none := fun S1 a o ha n e => (S1.pin (a, o) (List.mem_append_left _ (mem_hidP.mpr ⟨ha, n, e⟩))).2.1
    cases e2 : g ds' [] with
    | bad => rw [e2] at fin; exact fin.elim
    | ok d h2 =>
      rw [e2] at fin
      dsimp only at fin
      by_cases hf : flatT d = true
      · rw [if_pos hf] at fin
        intro v F1 m1 H1 x S1 rv
        have S2 := S.giveBack x.s S1
        exact fin v _ m H1 ⟨backF_same (lentF_same.trans x.s), List.prefix_rfl⟩ S2 (flat_back S x.s (pins S1) rv hf)
      · rw [if_neg hf] at fin
        exact fin.elim
    | exc C p h2 =>
      rw [e2] at fin
      cases p with
      | none =>
        dsimp only at fin
        intro od F1 m1 H1 x S1 pd
        have S2 := S.giveBack x.s S1
        exact fin od _ m H1 ⟨backF_same (lentF_same.trans x.s), List.prefix_rfl⟩ S2 pd
      | some q => exact fin.elim
theorem FnOk.lend {P : Program} {w : World} {K : PySem.W.Frag} {mg : Str → Option Value} {base : Heap} {CX : CXT} {k : Nat} {f : Addr} {fd : FuncData} {ps : List Str} {g : FN} (F : FnOk P w K mg base CX k f fd ps (spN K ps.length g)) : FnOk P w K mg base CX k f fd ps (spN K ps.length (lendF g)) := L2.FnOk.imp F fun _ _ _ _ h => lend_sp h
theorem Def.lend {P : Program} {w : World} {K : PySem.W.Frag} {mg : Str → Option Value} {base : Heap} {CX : CXT} {k : Nat} {f : Addr} {ps : List Str} {dvs : List V} {g : FN} (d : Def P w K mg base CX k f ps dvs g) : Def P w K mg base CX k f ps dvs (lendF g) := let ⟨fd, dus, a, b, c⟩ := d.ex; ⟨⟨fd, dus, FnOk.lend a, b, c⟩, d.kp⟩
end HR
set_option Elab.async false
set_option linter.all false
set_option maxRecDepth 100000
set_option maxHeartbeats 2000000
/-! exceptions: raise, a try whose except clause keeps what it caught, isinstance of what was kept -/
namespace HR
open PySem L2 PySem.Spec PyProof.Rows
/-! ### a caught exception becomes an object of ours -/
/-- the same, with or without a dict -/
def HexZ (cls : Value) (d : Option Addr) (a : Addr) : HO := .ext fun hp => ∃ (ob : Obj) (ws : Array Value), hp.get? a = some ob ∧ Zc cls d ob ∧ ob.data = .fields ws
theorem hexZ_ok {P : Program} {w : World} {H : Hp} {hp : Heap} {a : Addr} {cls : Value} {d : Option Addr} {ob : Obj} {ws : Array Value} (e : hp.get? a = some ob) (z : Zc cls d ob) (dt : ob.data = .fields ws) : ObjOk P w H hp a (HexZ cls d a) :=
  ⟨⟨ob, ws, e, z, dt⟩, ⟨ob, e⟩, fun _ _ ⟨ob1, ws1, e1, z1, d1⟩ stay => ⟨ob1, ws1, stay ob1 e1, z1, d1⟩⟩
/-! ### as plain functions -/
/-! ### isinstance of a kept exception -/
/-- what the class at D must say -/
def excCB (K : PySem.W.Frag) (D : Addr) : Bool :=
  decide (PySem.W.findIn K (.ref D) "__getattribute__" = some (some (.builtin "BaseException.__getattribute__"))) && (decide (PySem.W.findIn K (.ref D) "__getattr__" = some none) && (decide (PySem.W.subIn K (.ref D) (.type "BaseException") = some true) && (PySem.W.hasDictIn K D &&
  (decide (PySem.W.findIn K (.ref D) "__class__" = some (some (.builtin "object.__class__"))) && (decide (PySem.W.specialIn K (.builtin "object.__class__") "__get__" = some (some (.builtin "getset_descriptor.__get__"))) && (decide (PySem.W.takesIn K (.builtin "object.__class__") = some true) &&
  decide (PySem.W.mroIn K D (.type "object") = some true)))))))
theorem excCB_ok {K : PySem.W.Frag} {D : Addr} (h : excCB K D = true) : ExcC K D := by
  unfold excCB at h
  simp only [Bool.and_eq_true, decide_eq_true_eq] at h
  obtain ⟨h1, h2, h3, h4, h5, h6, h7, h8⟩ := h
  exact ⟨h1, h2, h3, h4, h5, h6, h7, h8⟩
/-- is the class C below the class c, as names -/
def excB (C c : String) : Bool := C == c || (c == "HushError" || c == "ValueError")
/-! ### what is asked of a class with its own __init__ -/
def oexK (K : PySem.W.Frag) (C : Addr) : Bool := match K.lookup C with
  | some ⟨.type "type", _, .cls cd, sl⟩ => (match cd.mro, sl.toList with
    | .ref C2 :: bm, [_, _, _, _, some (.builtin n), _] => decide (C2 = C) && (decide (n = "ValueError.__new__") && (!cd.hasDel && (cd.hasDict && PySem.HandSPX.refsVE bm)))
    | _, _ => false)
  | _ => false
theorem oexK_ok {K : PySem.W.Frag} {C : Addr} (h : oexK K C = true) : ∃ nm q N bs bm sn sub ab col dd k0 k1 k2 k3 k5, K.lookup C = some (excClassObj nm q C N bs bm true sn sub ab col dd k0 k1 k2 k3 k5 "ValueError.__new__") ∧ PySem.HandSPX.refsVE bm = true := by
  unfold oexK at h
  split at h
  · rename_i dd cd sl e
    split at h
    · rename_i C2 bm k0 k1 k2 k3 n k5 e1 e2
      simp only [Bool.and_eq_true, decide_eq_true_eq, Bool.not_eq_true'] at h
      obtain ⟨rfl, rfl, h3, h4, h5⟩ := h
      obtain ⟨nm, bs, mro, ns, qn, hd, sn, sub, ab, col, del⟩ := cd
      dsimp only at e1 h3 h4
      subst e1 h3 h4
      obtain ⟨l⟩ := sl
      dsimp only at e2
      subst e2
      exact ⟨nm, qn, ns, bs, bm, sn, sub, ab, col, dd, k0, k1, k2, k3, k5, e, h5⟩
    · cases h
  · cases h
/-- the facts of one class C with the field f -/
def oexF (K : PySem.W.Frag) (C f : String) : Bool :=
  oexK K (He.ga K (Str.ofString C)) && (decide (PySem.W.findIn K (.ref (He.ga K (Str.ofString C))) "__setattr__" = some (some (.builtin "object.__setattr__"))) && (decide (PySem.W.subIn K (.ref (He.ga K (Str.ofString C))) (.type "BaseException") = some true) &&
  (decide (PySem.W.typeIn K (.ref (He.ga K (Str.ofString C))) = some (.type "type")) && (PySem.W.keepIn K (.ref (He.ga K (Str.ofString C))) && (decide (PySem.W.findIn K (.ref (He.ga K (Str.ofString C))) "__init__" = some (some (.ref (He.ma K (He.ga K (Str.ofString C)) "__init__")))) &&
  (decide (PySem.W.typeIn K (.ref (He.ma K (He.ga K (Str.ofString C)) "__init__")) = some (.type "function")) && (decide (PySem.W.findIn K (.ref (He.ga K (Str.ofString C))) (Str.ofString f) = some none) &&
  (PySem.W.readsIn K (He.ga K (Str.ofString "HushError")) (.type "type") && (decide (PySem.W.specialIn K (.ref (He.ga K (Str.ofString "HushError"))) "__getattribute__" = some (some (.builtin "type.__getattribute__"))) &&
  (match PySem.W.findCls K (.ref (He.ga K (Str.ofString "HushError"))) (.type "type") "__init__" with
    | some (.val v) => decide (v = .builtin "ValueError.__init__")
    | _ => false))))))))))
structure OexF (K : PySem.W.Frag) (C f : String) : Prop where
  oc : OexC K (He.ga K (Str.ofString C))
  iC : PySem.W.findIn K (.ref (He.ga K (Str.ofString C))) "__init__" = some (some (.ref (He.ma K (He.ga K (Str.ofString C)) "__init__")))
  tI : PySem.W.typeIn K (.ref (He.ma K (He.ga K (Str.ofString C)) "__init__")) = some (.type "function")
  no : PySem.W.findIn K (.ref (He.ga K (Str.ofString C))) (Str.ofString f) = some none
  rB : PySem.W.readsIn K (He.ga K (Str.ofString "HushError")) (.type "type") = true
  sB : PySem.W.specialIn K (.ref (He.ga K (Str.ofString "HushError"))) "__getattribute__" = some (some (.builtin "type.__getattribute__"))
  vB : PySem.W.findCls K (.ref (He.ga K (Str.ofString "HushError"))) (.type "type") "__init__" = some (.val (.builtin "ValueError.__init__"))
theorem oexF_ok {K : PySem.W.Frag} {C f : String} (h : oexF K C f = true) : OexF K C f := by
  unfold oexF at h
  simp only [Bool.and_eq_true, decide_eq_true_eq] at h
  obtain ⟨h1, h2, h3, h4, h5, h6, h7, h8, h9, h10, h11⟩ := h
  refine ⟨⟨oexK_ok h1, h2, h3, h4, h5⟩, h6, h7, h8, h9, h10, ?_⟩
  split at h11
  · rename_i v e
    cases of_decide_eq_true h11
    exact e
  · cases h11
/-- the field of a class with its own __init__ -/
def fieldOf (C : String) : Option String := if C = "TooMany" then some "count" else if C = "Inconsistent" then some "tick" else if C = "InvalidText" then some "line" else none
/-- facts of the classes xs (caught) and ys (asked for) -/
def excFacts (K : PySem.W.Frag) (xs ys : List String) : Bool :=
  xs.all fun C => excCB K (He.ga K (Str.ofString C)) && (decide (PySem.W.exmOne K (.ref (He.ga K (Str.ofString C))) (.ref (He.ga K (Str.ofString "HushError"))) = some true) &&
    (decide (PySem.W.kitOne K (.ref (He.ga K (Str.ofString C))) (.type "ValueError") = some true) && ((ys.all fun c => decide (PySem.W.kitOne K (.ref (He.ga K (Str.ofString C))) (.ref (He.ga K (Str.ofString c))) = some (excB C c))) && (match fieldOf C with
    | some f => oexF K C f
    | none => true))))
structure XF (K : PySem.W.Frag) (xs ys : List String) : Prop where
  cls : ∀ C ∈ xs, ExcC K (He.ga K (Str.ofString C))
  exm : ∀ C ∈ xs, PySem.W.exmOne K (.ref (He.ga K (Str.ofString C))) (.ref (He.ga K (Str.ofString "HushError"))) = some true
  kitV : ∀ C ∈ xs, PySem.W.kitOne K (.ref (He.ga K (Str.ofString C))) (.type "ValueError") = some true
  kit : ∀ C ∈ xs, ∀ c ∈ ys, PySem.W.kitOne K (.ref (He.ga K (Str.ofString C))) (.ref (He.ga K (Str.ofString c))) = some (excB C c)
  oex : ∀ C ∈ xs, ∀ f, fieldOf C = some f → OexF K C f
theorem excFacts_ok {K : PySem.W.Frag} {xs ys : List String} (h : excFacts K xs ys = true) : XF K xs ys := by
  unfold excFacts at h
  rw [List.all_eq_true] at h
  have g : ∀ C ∈ xs, _ := fun C hC => h C hC
  simp only [Bool.and_eq_true, decide_eq_true_eq, List.all_eq_true] at g
  exact ⟨fun C hC => excCB_ok (g C hC).1, fun C hC => (g C hC).2.1, fun C hC => (g C hC).2.2.1, fun C hC => (g C hC).2.2.2.1, fun C hC f e => oexF_ok (by have z := (g C hC).2.2.2.2; rw [e] at z; exact z)⟩
/-- isinstance of a kept exception, one class or a tuple of classes -/
def HxAt (H : Hp) (a C : Addr) : Prop := Rd H a (HexO (.ref C) a) ∨ ∃ dx fs, Rd H a (HexP (.ref C) dx a) ∧ H dx = some (.xd fs)
theorem rd_ok {P : Program} {w : World} {H : Hp} {hp : Heap} {a : Addr} {u : HO} (k : HOk P w H hp) (q : Rd H a u) : ObjOk P w H hp a u := by
  rcases q with q | ⟨o, q⟩
  · exact k a _ q
  · exact (show ObjOk P w H hp a (.frz o u) from k a _ q).2
def rIsK (K : PySem.W.Frag) : List V → Hp → VK → Prop := fun vs H Q => ∃ (a C : Addr) (c : V) (cv : Value) (b : Bool), vs = [.ref a, c] ∧ HxAt H a C ∧ ExcC K C ∧ ClsV c cv ∧ PySem.W.kitOne K (.ref C) cv = some b ∧ Q (.bl b) H
def rIsKT (K : PySem.W.Frag) : List V → Hp → VK → Prop := fun vs H Q => ∃ (a C tp : Addr) (cs : List V) (us : List Value) (b : Bool), vs = [.ref a, .ref tp] ∧ HxAt H a C ∧ ExcC K C ∧ H tp = some (.tup cs) ∧ Paired ClsV cs us ∧ PySem.W.kitAny K (.ref C) us = some b ∧ Q (.bl b) H
section
variable {X : Cx} {W : WX}
theorem hxAt_inst {pn : List (Addr × Obj)} {σ : L2.St} {H : Hp} {s : Shared} {a C : Addr} (I : Inv X pn σ H s) (e : HxAt H a C) : ∃ ob od, PySem.W.InstAt s.heap a ob C od := by
  rcases e with e | ⟨dx, fs, e, e0⟩
  · obtain ⟨⟨⟨oc, od, dt, sl⟩, ws, e1, ⟨e2, e3⟩, e4⟩, _⟩ := rd_ok I.hok e
    dsimp only at e2 e3 e4
    subst e2 e3 e4
    exact ⟨_, none, e1, rfl, rfl, trivial⟩
  · obtain ⟨⟨⟨oc, od, dt, sl⟩, ws, e1, ⟨e2, e3⟩, e4⟩, _⟩ := rd_ok I.hok e
    dsimp only at e2 e3 e4
    subst e2 e3 e4
    obtain ⟨mA, hns, _⟩ := (show ObjOk X.prog X.w H s.heap dx (.xd fs) from I.hok dx _ e0)
    obtain ⟨o2, ho, _⟩ := lookIn_ns hns
    exact ⟨_, some o2, e1, rfl, rfl, ho⟩
theorem exc_kitx {C : Addr} {a : Addr} {ob : Obj} {od : Option Obj} (ex : ExcC X.K C) : PySem.W.KitX X.K (.ref a) (.ref C) (fun h => PySem.W.InstAt h a ob C od) := by
  obtain ⟨cd, hc, _⟩ := PySem.W.any_some ex.hd
  exact PySem.W.kitx_exc (by rw [hc]; rfl) ex.hg ex.hk ex.hs ex.ha ex.hn ex.ht ex.hm
theorem call_isK : CallR X (.builtin "isinstance") (rIsK X.K) := by
  intro pn s σ H vs us Q I r h
  obtain ⟨a, C, c, cv, b, rfl, e, ex, k, q1, q2⟩ := h
  obtain ⟨u1, u2, rfl, r1, r2⟩ := vals2 r
  cases k.eq r2
  cases (show u1 = Value.ref a from r1)
  obtain ⟨ob, od, J⟩ := hxAt_inst I e
  exact PySem.W.kia_one (exc_kitx ex) I.kIn J q1 (fun z => nomatch z) fun tk => ⟨.bl b, H, I.tok tk, rfl, q2⟩
theorem call_isKT : CallR X (.builtin "isinstance") (rIsKT X.K) := by
  intro pn s σ H vs us Q I r h
  obtain ⟨a, C, tp, cs, ws, b, rfl, e, ex, et, k, q1, q2⟩ := h
  obtain ⟨u1, u2, rfl, r1, r2⟩ := vals2 r
  cases (show u1 = Value.ref a from r1)
  cases (show u2 = Value.ref tp from r2)
  obtain ⟨ob, od, J⟩ := hxAt_inst I e
  obtain ⟨_, its, rv, ⟨oc, od, dt, sl⟩, e1, e2, k1, e3⟩ := (show ObjOk X.prog X.w H s.heap tp (.tup cs) from I.hok tp _ et)
  cases ClsV.all k rv
  dsimp only at e2 e3
  subst e2 e3
  exact PySem.W.kia_tup (exc_kitx ex) I.kIn J e1 q1 (fun z => nomatch z) fun tk => ⟨.bl b, H, I.tok tk, rfl, q2⟩
/-- isinstance(e, (c, ..)), e a kept exception -/
def sIsK (xs cs : List String) (f : SE) : SE := fun e h => (f e h).bind fun d h1 => match d with
  | .exc C => if C ∈ xs then .ok (.bl (cs.any fun c => excB C c)) h1 else .bad
  | .excf C _ _ => if C ∈ xs then .ok (.bl (cs.any fun c => excB C c)) h1 else .bad
  | _ => .bad
theorem de_isK {xs ys : List String} (c : String) {p p2 pos : Pos} {a : Expr} {fa : SE} (T : XF X.K xs ys) (hc : c ∈ ys) (hx : Gl X "isinstance") (hm : X.mg "isinstance" = none) (hx2 : Gl X (Str.ofString c)) (hm2 : X.mg (Str.ofString c) = some (.ref (He.ga X.K (Str.ofString c)))) (ha : DE X W a fa) (hd : (Str.ofString c == ("__debug__" : Str)) = false := by decide)
    (he : starEach [a, .Name (Str.ofString c) p2] X.env = (false, eval a X.env) :: starEach [.Name (Str.ofString c) p2] X.env := by rfl) (he2 : starEach [.Name (Str.ofString c) p2] X.env = (false, eval (.Name (Str.ofString c) p2) X.env) :: starEach [] X.env := by rfl)
    (hpl : (backTo pos (starEach [.Name (Str.ofString c) p2] X.env)).any (·.1) = false := by rfl) : DE X W (.Call (.Name "isinstance" p) [a, .Name (Str.ofString c) p2] [] pos) (sIsK xs [c] fa) :=
  PE.of (pe_callB call_isK hx hm (by decide +kernel) (pa_cons ha (pa_cons (pe_glob (v := .ref (He.ga X.K (Str.ofString c))) hx2 hm2 rfl hd) pa_nil he2) he) (he := he) (hpl := hpl)) fun σ H Q => by
    rintro ⟨P, F, m, e, h, S, E, fin⟩
    refine rd_seq S E fin fun F1 m1 h1 H1 v d x1 S1 E1 r1 fin1 => ?_
    cases r1 with
    | exc q =>
      rename_i ad C
      dsimp only at fin1
      by_cases hC : C ∈ xs
      · rw [if_pos hC] at fin1
        exact ⟨ad, _, _, _, excB C c, rfl, .inl (rd_same S1.sub q), T.cls C hC, .own _, T.kit C hC c hc, fin1.ok S1 (by simp only [List.any_cons, List.any_nil, Bool.or_false]; exact .bl _)⟩
      · rw [if_neg hC] at fin1
        exact fin1.bad_elim
    | excf q q2 rv =>
      rename_i ad dx C f v d
      dsimp only at fin1
      by_cases hC : C ∈ xs
      · rw [if_pos hC] at fin1
        exact ⟨ad, _, _, _, excB C c, rfl, .inr ⟨_, _, rd_same S1.sub q, S1.sub _ _ q2⟩, T.cls C hC, .own _, T.kit C hC c hc, fin1.ok S1 (by simp only [List.any_cons, List.any_nil, Bool.or_false]; exact .bl _)⟩
      · rw [if_neg hC] at fin1
        exact fin1.bad_elim
    | _ => exact fin1.bad_elim
theorem de_isKV {xs ys : List String} {p p2 pos : Pos} {a : Expr} {fa : SE} (T : XF X.K xs ys) (hx : Gl X "isinstance") (hm : X.mg "isinstance" = none) (hx2 : Gl X "ValueError") (hm2 : X.mg "ValueError" = none) (ha : DE X W a fa)
    (he : starEach [a, .Name "ValueError" p2] X.env = (false, eval a X.env) :: starEach [.Name "ValueError" p2] X.env := by rfl) (he2 : starEach [.Name "ValueError" p2] X.env = (false, eval (.Name "ValueError" p2) X.env) :: starEach [] X.env := by rfl)
    (hpl : (backTo pos (starEach [.Name "ValueError" p2] X.env)).any (·.1) = false := by rfl) : DE X W (.Call (.Name "isinstance" p) [a, .Name "ValueError" p2] [] pos) (sIsK xs ["ValueError"] fa) :=
  PE.of (pe_callB call_isK hx hm (by decide +kernel) (pa_cons ha (pa_cons (pe_bltn (v := .ty "ValueError") hx2 hm2 (by decide +kernel) rfl (by decide) (by decide)) pa_nil he2) he) (he := he) (hpl := hpl)) fun σ H Q => by
    rintro ⟨P, F, m, e, h, S, E, fin⟩
    refine rd_seq S E fin fun F1 m1 h1 H1 v d x1 S1 E1 r1 fin1 => ?_
    cases r1 with
    | exc q =>
      rename_i ad C
      dsimp only at fin1
      by_cases hC : C ∈ xs
      · rw [if_pos hC] at fin1
        exact ⟨ad, _, _, _, true, rfl, .inl (rd_same S1.sub q), T.cls C hC, .ty _, T.kitV C hC, fin1.ok S1 (by simp only [List.any_cons, List.any_nil, excB, Bool.or_false, beq_self_eq_true, Bool.or_true]; exact .bl _)⟩
      · rw [if_neg hC] at fin1
        exact fin1.bad_elim
    | excf q q2 rv =>
      rename_i ad dx C f v d
      dsimp only at fin1
      by_cases hC : C ∈ xs
      · rw [if_pos hC] at fin1
        exact ⟨ad, _, _, _, true, rfl, .inr ⟨_, _, rd_same S1.sub q, S1.sub _ _ q2⟩, T.cls C hC, .ty _, T.kitV C hC, fin1.ok S1 (by simp only [List.any_cons, List.any_nil, excB, Bool.or_false, beq_self_eq_true, Bool.or_true]; exact .bl _)⟩
      · rw [if_neg hC] at fin1
        exact fin1.bad_elim
    | _ => exact fin1.bad_elim
/-- names of own classes as values -/
theorem pa_cls : ∀ {cs : List String} {ps : List Pos}, (∀ c ∈ cs, Gl X (Str.ofString c) ∧ X.mg (Str.ofString c) = some (.ref (He.ga X.K (Str.ofString c))) ∧ (Str.ofString c == ("__debug__" : Str)) = false) → cs.length = ps.length →
    PA X ((cs.zip ps).map fun q => Expr.Name (Str.ofString q.1) q.2) (fun σ H Q => Q (cs.map fun c => V.ref (He.ga X.K (Str.ofString c))) H)
  | [], _, _, _ => by
    exact PA.of pa_nil fun σ H Q q => q
  | c :: cs, [], _, e => by cases e
  | c :: cs, p :: ps, hk, e => by
    obtain ⟨k1, k2, k3⟩ := hk c List.mem_cons_self
    exact PA.of (pa_cons (pe_glob (v := .ref (He.ga X.K (Str.ofString c))) k1 k2 rfl k3) (pa_cls (fun y hy => hk y (List.mem_cons_of_mem _ hy)) (Nat.succ.inj e)) (by rfl)) fun σ H Q q => q
theorem kitAny_cls {K : PySem.W.Frag} {xs ys : List String} {C : String} (T : XF K xs ys) (hC : C ∈ xs) : ∀ {cs : List String}, (∀ c ∈ cs, c ∈ ys) → PySem.W.kitAny K (.ref (He.ga K (Str.ofString C))) (cs.map fun c => Value.ref (He.ga K (Str.ofString c))) = some (cs.any fun c => excB C c)
  | [], _ => rfl
  | c :: cs, hk => by
    refine kitAny_cons (T.kit C hC c (hk c List.mem_cons_self)) (fun e => ?_) (fun e => by rw [List.any_cons, e, Bool.true_or])
    rw [List.any_cons, e, Bool.false_or]
    exact kitAny_cls T hC fun y hy => hk y (List.mem_cons_of_mem _ hy)
theorem paired_cls {K : PySem.W.Frag} : ∀ cs : List String, Paired ClsV (cs.map fun c => V.ref (He.ga K (Str.ofString c))) (cs.map fun c => Value.ref (He.ga K (Str.ofString c)))
  | [] => .nil
  | _ :: cs => .cons (.own _) (paired_cls cs)
theorem de_isKT {xs ys cs : List String} {ps : List Pos} {p p4 pos : Pos} {j : Nat} {a : Expr} {es : List Expr} {fa : SE} (T : XF X.K xs ys) (hc : ∀ c ∈ cs, c ∈ ys) (hl : cs.length = ps.length) (hl2 : cs.length ≤ sizeLine) (ee : (cs.zip ps).map (fun q => Expr.Name (Str.ofString q.1) q.2) = es) (hx : Gl X "isinstance") (hm : X.mg "isinstance" = none)
    (hk : ∀ c ∈ cs, Gl X (Str.ofString c) ∧ X.mg (Str.ofString c) = some (.ref (He.ga X.K (Str.ofString c))) ∧ (Str.ofString c == ("__debug__" : Str)) = false) (ha : DE X W a fa)
    (he : starEach [a, .Tuple es j p4] X.env = (false, eval a X.env) :: starEach [.Tuple es j p4] X.env := by rfl) (he2 : starEach [.Tuple es j p4] X.env = (false, eval (.Tuple es j p4) X.env) :: starEach [] X.env := by rfl)
    (hpl : (backTo pos (starEach [.Tuple es j p4] X.env)).any (·.1) = false := by rfl) : DE X W (.Call (.Name "isinstance" p) [a, .Tuple es j p4] [] pos) (sIsK xs cs fa) := by
  subst ee
  refine PE.of (pe_callB call_isKT hx hm (by decide +kernel) (pa_cons ha (pa_cons (pe_tup (pa_cls hk hl)) pa_nil he2) he) (he := he) (hpl := hpl)) fun σ H Q => ?_
  rintro ⟨P, F, m, e, h, S, E, fin⟩
  refine rd_seq S E fin fun F1 m1 h1 H1 v d x1 S1 E1 r1 fin1 => ?_
  refine ⟨by rw [List.length_map]; exact hl2, fun tp hp => ?_⟩
  cases r1 with
  | exc q =>
    rename_i ad C
    dsimp only at fin1
    by_cases hC : C ∈ xs
    · rw [if_pos hC] at fin1
      have S2 := S1.other (o := .tup (cs.map fun c => V.ref (He.ga X.K (Str.ofString c)))) hp
      exact ⟨ad, _, tp, _, _, _, rfl, .inl (rd_same S2.sub q), T.cls C hC, upd_same, paired_cls cs, kitAny_cls T hC hc, fin1.ok S2 (.bl _)⟩
    · rw [if_neg hC] at fin1
      exact fin1.bad_elim
  | excf q q2 rv =>
    rename_i ad dx C f v d
    dsimp only at fin1
    by_cases hC : C ∈ xs
    · rw [if_pos hC] at fin1
      have S2 := S1.other (o := .tup (cs.map fun c => V.ref (He.ga X.K (Str.ofString c)))) hp
      exact ⟨ad, _, tp, _, _, _, rfl, .inr ⟨_, _, rd_same S2.sub q, S2.sub _ _ q2⟩, T.cls C hC, upd_same, paired_cls cs, kitAny_cls T hC hc, fin1.ok S2 (.bl _)⟩
    · rw [if_neg hC] at fin1
      exact fin1.bad_elim
  | _ => exact fin1.bad_elim
end
/-! ### a def that lets nothing out -/
def noXF (g : FN) : FN := fun ds h => (g ds h).noX
@[simp] theorem noX_ok {α : Type} (a : α) (h : OH) : (Res.ok a h).noX = .ok a h := rfl
@[simp] theorem noXF_at (g : FN) (ds : List D) (h : OH) : noXF g ds h = (g ds h).noX := rfl
/-! ### {} -/
def sDct0 : SE := fun _ h => .ok (.dct []) h
theorem de_dct0 {X : Cx} {W : WX} {pos : Pos} : DE X W (.Dict [] [] pos) sDct0 := PE.of pe_dnewK fun σ H Q => by
  rintro ⟨P, F, m, e, h, S, E, fin⟩
  intro p hp
  exact fin.okX (S.extF hp) (S.frozen hp) (.dct upd_same .nil)
/-! ### a + b, to be an own list -/
end HR
set_option Elab.async false
set_option linter.all false
set_option maxRecDepth 100000
set_option maxHeartbeats 2000000
/-! repr of values in which an empty dict may stand; the head's facts for laws with exceptions -/
namespace HR
open PySem L2 RZ PySem.Spec PyProof.Rows
/-! ### facts of the head -/
def modOk (K : PySem.W.Frag) : Bool := match K.lookup sysModules with
  | some o => decide (o.cls = .type "dict")
  | none => false
def obsX (fa : List He.Fa) (fn : List He.DefD) (xs ys : List String) (K : PySem.W.Frag) : He.AlD × Bool := (He.obsD fa fn K, excFacts K xs ys && modOk K)
def SaysX (fa : List He.Fa) (fn : List He.DefD) (xs ys : List String) (K : PySem.W.Frag) : Prop := obsX fa fn xs ys K = (He.valD fn, true)
section
variable {fa : List He.Fa} {fn : List He.DefD} {xs ys : List String} {K : PySem.W.Frag}
theorem SaysX.d (c : SaysX fa fn xs ys K) : He.SaysD fa fn K := congrArg (fun z : He.AlD × Bool => z.1) c
theorem SaysX.fact (c : SaysX fa fn xs ys K) (i : Nat) {f : He.Fa} (h : fa[i]? = some f := by rfl) : f.ok K = true := c.d.fact i h
theorem SaysX.def_ (c : SaysX fa fn xs ys K) (i : Nat) {d : He.DefD} (h : fn[i]? = some d := by rfl) : ∃ fd, FunD K d.name d.qual d.params d.body d.scope (d.dvs K) (d.kws K) (He.fAd K d.at_) fd := c.d.def_ i h
theorem SaysX.both (c : SaysX fa fn xs ys K) : (excFacts K xs ys && modOk K) = true := congrArg (fun z : He.AlD × Bool => z.2) c
theorem SaysX.xf (c : SaysX fa fn xs ys K) : XF K xs ys := excFacts_ok (and2 c.both).1
theorem SaysX.sm (c : SaysX fa fn xs ys K) : modOk K = true := (and2 c.both).2
end
/-! ### what is read of a value, as data -/
mutual
inductive Rv (K : PySem.W.Frag) (H : Hp) : V → PyData → Prop
  | non : Rv K H .non .none
  | bl (b : Bool) : Rv K H (.bl b) (.bool b)
  | int (i : Int) : Rv K H (.int i) (.int i)
  | str (x : Str) : Rv K H (.str x) (.str x)
  | lst {a : Addr} {vs : List V} {ps : List PyData} (q : SqL K H a vs) (r : RvL K H vs ps) : Rv K H (.ref a) (.list ps)
  | tup {a : Addr} {vs : List V} {ps : List PyData} (q : SqT K H a vs) (r : RvL K H vs ps) : Rv K H (.ref a) (.tuple ps)
  | dct {a : Addr} (q : H a = some (.dK [])) : Rv K H (.ref a) (.dict [])
inductive RvL (K : PySem.W.Frag) (H : Hp) : List V → List PyData → Prop
  | nil : RvL K H [] []
  | cons {v : V} {p : PyData} {vs : List V} {ps : List PyData} (a : Rv K H v p) (b : RvL K H vs ps) : RvL K H (v :: vs) (p :: ps)
end
section
variable {X : Cx} {pn : List (Addr × Obj)} {σ : L2.St} {H : Hp} {s : Shared}
theorem sm_base (I : Inv X pn σ H s) (hm : modOk X.K = true) : ∃ o, X.K.lookup sysModules = some o ∧ o.cls = .type "dict" ∧ X.base.get? sysModules = some o := by
  unfold modOk at hm
  cases q : X.K.lookup sysModules with
  | none => rw [q] at hm; cases hm
  | some o =>
    rw [q] at hm
    exact ⟨o, rfl, of_decide_eq_true hm, I.ok.mod.kin _ _ q⟩
theorem sm_free (I : Inv X pn σ H s) (hm : modOk X.K = true) : H sysModules = none := by
  obtain ⟨o, _, _, q⟩ := sm_base I hm
  exact (I.bs _ _ q).2
theorem sm_sqL (I : Inv X pn σ H s) (hm : modOk X.K = true) {a : Addr} {vs : List V} (q : SqL X.K H a vs) : sysModules ≠ a := fun z => by
  subst z
  have f := sm_free I hm
  rcases q with (q | ⟨o, q⟩) | ⟨o, its, n, q, c, _⟩
  · rw [f] at q; cases q
  · rw [f] at q; cases q
  · obtain ⟨o2, q2, c2, _⟩ := sm_base I hm
    rw [q] at q2
    cases q2
    rw [c] at c2
    exact absurd c2 (by decide)
mutual
theorem rv_reads (I : Inv X pn σ H s) (hm : modOk X.K = true) : ∀ (p : PyData) (v : V) (u : Value), Rv X.K H v p → RelV v u → ∃ as, Reads s.heap u p as ∧ sysModules ∉ as
  | .none, _, _, .non, r => by cases r; exact ⟨[], .none, List.not_mem_nil⟩
  | .bool b, _, _, .bl _, r => by cases r; exact ⟨[], .bool b, List.not_mem_nil⟩
  | .int i, _, _, .int _, r => by obtain ⟨t, rfl⟩ := r; exact ⟨[], .int i t, List.not_mem_nil⟩
  | .str x, _, _, .str _, r => by obtain ⟨t, rfl⟩ := r; exact ⟨[], .str x t, List.not_mem_nil⟩
  | .list ps, _, _, .lst q rv, r => by
    cases r
    obtain ⟨its, ra, ⟨o, n, e1, e2, _, e3⟩, _⟩ := I.list q
    obtain ⟨as, r1, r2⟩ := rvL_reads I hm ps _ its rv ra
    exact ⟨_, .list e1 e2 e3 r1, fun z => (List.mem_cons.mp z).elim (sm_sqL I hm q) r2⟩
  | .tuple ps, _, _, .tup q rv, r => by
    cases r
    obtain ⟨its, ra, ⟨o, e1, e2, n, e3⟩, _⟩ := I.tuple q
    obtain ⟨as, r1, r2⟩ := rvL_reads I hm ps _ its rv ra
    exact ⟨_, .tuple e1 e2 e3 r1, r2⟩
  | .dict _, _, _, .dct q, r => by
    cases r
    rename_i ad
    obtain ⟨_, ns, vs, kv, o, es, ep, e1, e2, e3, _, e4, _⟩ := (show ObjOk X.prog X.w H s.heap ad (.dK []) from I.hok _ _ q)
    cases kv
    have en : es.toList = [] := by
      generalize es.toList = l at e4
      cases e4
      rfl
    refine ⟨_, .dict (as := []) (bs := []) (kvs := []) e1 e2.1 e3 ?_ ?_, fun z => ?_⟩
    · rw [en]; exact .nil
    · rw [en]; exact .nil
    · simp only [List.append_nil, List.mem_singleton] at z
      subst z
      exact absurd ns (by decide)
theorem rvL_reads (I : Inv X pn σ H s) (hm : modOk X.K = true) : ∀ (ps : List PyData) (vs : List V) (us : List Value), RvL X.K H vs ps → Vals vs us → ∃ as, ReadsAll s.heap us ps as ∧ sysModules ∉ as
  | [], _, _, .nil, r => by cases r; exact ⟨[], .nil, List.not_mem_nil⟩
  | p :: ps, _, _, .cons a b, .cons r1 r2 => by
    obtain ⟨as, q1, q2⟩ := rv_reads I hm p _ _ a r1
    obtain ⟨bs, q3, q4⟩ := rvL_reads I hm ps _ _ b r2
    exact ⟨_, .cons q1 q3, fun z => (List.mem_append.mp z).elim q2 q4⟩
end
end
mutual
def pyR (get : Nat → Option (List PyData)) : D → Option PyData
  | .non => some .none
  | .bl b => some (.bool b)
  | .int i => some (.int i)
  | .str x => some (.str x)
  | .lst xs => (pyRL get xs).map .list
  | .scr xs => (pyRL get xs).map .list
  | .tup xs => (pyRL get xs).map .tuple
  | .ref i => (get i).map .list
  | .dct [] => some (.dict [])
  | .dct (_ :: _) => none
  | .obj _ _ => none
  | .exc _ => none
  | .excf _ _ _ => none
def pyRL (get : Nat → Option (List PyData)) : List D → Option (List PyData)
  | [] => some []
  | x :: xs => match pyR get x, pyRL get xs with
    | some d, some ds => some (d :: ds)
    | _, _ => none
end
def pyRGet (h : OH) : Nat → Nat → Option (List PyData)
  | 0, _ => none
  | n + 1, i => match h[i]? with
    | some (.lst xs) => pyRL (pyRGet h n) xs
    | _ => none
def pyRAt (h : OH) (d : D) : Option PyData := pyR (pyRGet h 5) d
section
variable {K : PySem.W.Frag} {P : Pins} {F : Hp} {m : List Addr} {h : OH} {H : Hp}
theorem rv_of (S : Sim K P F m h H) {get : Nat → Option (List PyData)} (hg : ∀ i a ps, m[i]? = some a → get i = some ps → ∃ vs, H a = some (.lst vs) ∧ RvL K H vs ps) {v : V} {d : D} (r : Den K F m v d) : ∀ p, pyR get d = some p → Rv K H v p :=
  Den.rec (motive_1 := fun v d _ => ∀ p, pyR get d = some p → Rv K H v p) (motive_2 := fun vs ds _ => ∀ ps, pyRL get ds = some ps → RvL K H vs ps) (motive_3 := fun _ _ _ => True) (motive_4 := fun _ _ _ => True)
    (fun p e => by simp only [pyR, Option.some.injEq] at e; subst e; exact .non) (fun b p e => by simp only [pyR, Option.some.injEq] at e; subst e; exact .bl b)
    (fun i p e => by simp only [pyR, Option.some.injEq] at e; subst e; exact .int i) (fun x p e => by simp only [pyR, Option.some.injEq] at e; subst e; exact .str x)
    (fun q _ ih p e => by
      simp only [pyR, Option.map_eq_some_iff] at e
      obtain ⟨ps, e1, rfl⟩ := e
      exact .lst (.inl (.inl (S.sub _ _ q))) (ih ps e1))
    (fun q _ ih p e => by
      simp only [pyR, Option.map_eq_some_iff] at e
      obtain ⟨ps, e1, rfl⟩ := e
      exact .lst (S.sub.seq q) (ih ps e1))
    (fun q _ ih p e => by
      simp only [pyR, Option.map_eq_some_iff] at e
      obtain ⟨ps, e1, rfl⟩ := e
      exact .tup (Same.sqT S.sub q) (ih ps e1))
    (fun {a kvs ks} q r _ p e => by
      cases ks with
      | nil =>
        simp only [pyR, Option.some.injEq] at e
        subst e
        cases r
        exact .dct (S.sub _ _ q)
      | cons _ _ => simp only [pyR] at e; cases e) (fun _ _ _ _ p e => by simp only [pyR] at e; cases e)
    (fun {a i} q p e => by
      simp only [pyR, Option.map_eq_some_iff] at e
      obtain ⟨ps, e1, rfl⟩ := e
      obtain ⟨vs, k1, k2⟩ := hg i a ps q e1
      exact .lst (.inl (.inl k1)) k2)
    (fun _ p e => by simp only [pyR] at e; cases e) (fun _ _ _ _ p e => by simp only [pyR] at e; cases e)
    (fun ps e => by simp only [pyRL, Option.some.injEq] at e; subst e; exact .nil)
    (fun {v d vs ds} _ _ ih1 ih2 ps e => by
      simp only [pyRL] at e
      cases e1 : pyR get d with
      | none => rw [e1] at e; simp at e
      | some p =>
        cases e2 : pyRL get ds with
        | none => rw [e1, e2] at e; simp at e
        | some qs =>
          rw [e1, e2] at e
          simp only [Option.some.injEq] at e
          subst e
          exact .cons (ih1 p e1) (ih2 qs e2))
    trivial (fun _ _ _ _ => trivial) trivial (fun _ _ _ _ => trivial) r
theorem rvL_of (S : Sim K P F m h H) {get : Nat → Option (List PyData)} (hg : ∀ i a ps, m[i]? = some a → get i = some ps → ∃ vs, H a = some (.lst vs) ∧ RvL K H vs ps) : ∀ {vs : List V} {ds : List D}, DenL K F m vs ds → ∀ ps, pyRL get ds = some ps → RvL K H vs ps
  | _, _, .nil, ps, e => by simp only [pyRL, Option.some.injEq] at e; subst e; exact .nil
  | _, d :: ds, .cons a b, ps, e => by
    simp only [pyRL] at e
    cases e1 : pyR get d with
    | none => rw [e1] at e; simp at e
    | some p =>
      cases e2 : pyRL get ds with
      | none => rw [e1, e2] at e; simp at e
      | some qs =>
        rw [e1, e2] at e
        simp only [Option.some.injEq] at e
        subst e
        exact .cons (rv_of S hg a p e1) (rvL_of S hg b qs e2)
theorem pyRGet_ok (S : Sim K P F m h H) : ∀ (n i : Nat) (a : Addr) (ps : List PyData), m[i]? = some a → pyRGet h n i = some ps → ∃ vs, H a = some (.lst vs) ∧ RvL K H vs ps
  | 0, _, _, _, _, e => by simp [pyRGet] at e
  | n + 1, i, a, ps, e1, e => by
    simp only [pyRGet] at e
    cases q : h[i]? with
    | none => rw [q] at e; cases e
    | some o =>
      rw [q] at e
      cases o with
      | lst xs =>
        obtain ⟨vs, k1, k2, _⟩ := S.at_ i a _ e1 q
        exact ⟨vs, k1, rvL_of S (fun j b es q1 q2 => pyRGet_ok S n j b es q1 q2) k2 _ e⟩
      | _ => cases e
end
/-! ### repr -/
def reprOkX (p : PyData) : Bool := p.showable && (decide (p.depth ≤ 60) && decide (p.shown.length ≤ big))
def opReprX : D → OH → Res D := fun d h => if isRf d then (match pyRAt h d with
  | some p => if reprOkX p then .ok (.str p.shown) h else .bad
  | none => .bad) else .bad
section
variable {X : Cx} {W : WX}
def rReprX (K : PySem.W.Frag) : List V → Hp → VK → Prop := fun vs H Q => ∃ a p, vs = [.ref a] ∧ Rv K H (.ref a) p ∧ reprOkX p = true ∧ Q (.str p.shown) H
theorem call_reprX (hm : modOk X.K = true) (hu : X.A.units + 64 < cLine) (hgd : X.A.guards = some []) : CallR X (.builtin "repr") (rReprX X.K) := by
  intro pn s σ H vs us Q I r h
  obtain ⟨a, p, rfl, rv, ok, q⟩ := h
  obtain ⟨u, rfl, rx⟩ := vals1 r
  cases (show u = Value.ref a from rx)
  obtain ⟨as, rd, ns⟩ := rv_reads I hm p _ _ rv rx
  obtain ⟨o1, o2⟩ := and2 ok
  obtain ⟨o3, o4⟩ := and2 o2
  have o3 := of_decide_eq_true o3
  have o4 := of_decide_eq_true o4
  have hz : sizeLine = 16777216 := sizeLine_eq
  exact repr_of_reads' rd o1 (fun _ => ns) hgd (by omega) (fun _ _ e => e) (fun h' u tk hk => ⟨.str _, H, I.kept (t' := tk) hk, ⟨_, rfl⟩, q⟩) (by simp only [big] at o4; omega)
theorem bReprX_h : ClH X.K W (b1 opReprX) (rReprX X.K) := by
  intro P F m h H σ Q vs ds S r fin
  obtain ⟨v, d, rfl, r1, fin⟩ := b1_inv r fin
  unfold opReprX at fin
  by_cases hr : isRf d = true
  · rw [if_pos hr] at fin
    obtain ⟨a, rfl⟩ := isRf_ref r1 hr
    cases e : pyRAt h d with
    | none => rw [e] at fin; exact fin.bad_elim
    | some p =>
      rw [e] at fin
      dsimp only at fin
      by_cases hk : reprOkX p = true
      · rw [if_pos hk] at fin
        exact ⟨a, p, rfl, rv_of S (fun i b ps q1 q2 => pyRGet_ok S 5 i b ps q1 q2) r1 p e, hk, fin.ok S (.str _)⟩
      · rw [if_neg hk] at fin
        exact fin.bad_elim
  · rw [if_neg hr] at fin
    exact fin.bad_elim
theorem de_reprX {p pos : Pos} {a : Expr} {fa : SE} (hm : modOk X.K = true) (hu : X.A.units + 64 < cLine) (hgd : X.A.guards = some []) (hx : Gl X "repr") (hmg : X.mg "repr" = none) (ha : DE X W a fa) (he : starEach [a] X.env = (false, eval a X.env) :: starEach [] X.env := by rfl) : DE X W (.Call (.Name "repr" p) [a] [] pos) (sCall (b1 opReprX) (sCons fa sNil)) :=
  de_blt (call_reprX hm hu hgd) bReprX_h hx hmg boot_repr (da_cons ha da_nil he) (he := he)
end
/-! ### texts of any signs compared -/
def opEqT (neg : Bool) : D → D → OH → Res D := fun a b h => match a, b with
  | .str x, .str y => .ok (.bl (if neg then !(x == y) else x == y)) h
  | _, _ => opEq neg a b h
section
variable {X : Cx} {W : WX}
abbrev rEqT (K : PySem.W.Frag) (neg : Bool) : R2 := fun x y H Q => (if neg then rNe else rEq) x y H Q ∨ (if neg then rNeD K else rEqD K) x y H Q
theorem opEqT_h (neg : Bool) : OpH X.K W (opEqT neg) (rEqT X.K neg) := by
  intro P F m h H σ Q x y dx dy S r1 r2 fin
  have old := fun fin => opEq_h (X := X) (W := W) neg P F m h H σ Q x y dx dy S r1 r2 fin
  unfold opEqT at fin
  split at fin
  · rename_i a b
    cases den_str r1
    cases den_str r2
    refine .inl ?_
    cases neg with
    | true => exact ⟨rfl, by rw [dec_str]; exact fin _ F m H (Ext.refl ..) S (.bl _)⟩
    | false => exact ⟨rfl, by rw [dec_str]; exact fin _ F m H (Ext.refl ..) S (.bl _)⟩
  · exact .inr (old fin)
theorem op_eqTE (hu : X.A.units + 64 < cLine) : OpR X (compareOp .Eq) (rEqT X.K false) := op_eq.or (op_eqD hu)
theorem op_eqTN (hu : X.A.units + 64 < cLine) : OpR X (compareOp .NotEq) (rEqT X.K true) := op_ne.or (op_neD hu)
theorem de_neT {a b : Expr} {pos : Pos} {fa fb : SE} (hu : X.A.units + 64 < cLine) (ha : DE X W a fa) (hb : DE X W b fb) : DE X W (.Compare a [.NotEq] [b] pos) (sBin (opEqT true) fa fb) := de_cmp (op_eqTN hu) (opEqT_h true) (nomark _) ha hb
theorem dt_eqT {a b : Expr} {pos : Pos} {fa fb : SE} (hu : X.A.units + 64 < cLine) (ha : DE X W a fa) (hb : DE X W b fb) : DT X W (.Compare a [.Eq] [b] pos) (sTest (sBin (opEqT false) fa fb)) := dt_cmp (op_eqTE hu) (opEqT_h false) (nomark _) ha hb
theorem dt_neT {a b : Expr} {pos : Pos} {fa fb : SE} (hu : X.A.units + 64 < cLine) (ha : DE X W a fa) (hb : DE X W b fb) : DT X W (.Compare a [.NotEq] [b] pos) (sTest (sBin (opEqT true) fa fb)) := dt_cmp (op_eqTN hu) (opEqT_h true) (nomark _) ha hb
variable {PD : D → OH → Prop}
@[simp] theorem W_eqT (neg : Bool) (x y : Str) (h : OH) : (opEqT neg (.str x) (.str y) h).W PD = PD (.bl (if neg then !(x == y) else x == y)) h := rfl
end
end HR
set_option Elab.async false
set_option linter.all false
set_option maxRecDepth 20000
set_option maxHeartbeats 1000000
/-! what the head of a text with live halls tells; early, since its run wants room -/
namespace HR
open PySem PySem.Spec PyProof.Rows L2
/-! what the module's names reach, a mark for each address that was seen: cheaper than He.asD -/
/-- an empty tuple that stands in the written part -/
def tup0 (K : PySem.W.Frag) (a : Addr) : Bool := match K.lookup a with
  | some ⟨.type t, _, .seq its _, _⟩ => decide (t = "tuple") && decide (its.size = 0)
  | _ => false
def tysB : List String := ["NoneType", "bool", "int", "str", "list", "tuple", "dict"]
def insB (K : PySem.W.Frag) (C : Addr) : Bool := decide (PySem.W.findIn K (.ref C) "__class__" = some (some (.builtin "object.__class__"))) && decide (PySem.W.specialIn K (.builtin "object.__class__") "__get__" = some (some (.builtin "getset_descriptor.__get__"))) &&
  (decide (PySem.W.takesIn K (.builtin "object.__class__") = some true) && (decide (PySem.W.mroIn K C (.type "object") = some true) && (decide (PySem.W.findIn K (.ref C) "__ne__" = some (some (.builtin "object.__ne__"))) && tysB.all fun t => decide (PySem.W.kitOne K (.type t) (.ref C) = some false))))
/-! ### the head's facts with a default that is the empty tuple -/
def SaysL (fa : List He.Fa) (fn : List He.DefD) (xs ys : List String) (p : PySem.W.Frag → Addr) (K : PySem.W.Frag) : Prop := SaysX fa fn xs ys K ∧ tup0 K (p K) = true
section
variable {fa : List He.Fa} {fn : List He.DefD} {xs ys : List String} {p : PySem.W.Frag → Addr} {K : PySem.W.Frag}
theorem SaysL.fact (c : SaysL fa fn xs ys p K) (i : Nat) {f : He.Fa} (h : fa[i]? = some f := by rfl) : f.ok K = true := c.1.fact i h
theorem SaysL.def_ (c : SaysL fa fn xs ys p K) (i : Nat) {d : He.DefD} (h : fn[i]? = some d := by rfl) : ∃ fd, FunD K d.name d.qual d.params d.body d.scope (d.dvs K) (d.kws K) (He.fAd K d.at_) fd := c.1.def_ i h
theorem SaysL.xf (c : SaysL fa fn xs ys p K) : XF K xs ys := c.1.xf
theorem SaysL.sm (c : SaysL fa fn xs ys p K) : modOk K = true := c.1.sm
end
/-! the head's facts with those of the class LiveHall -/
def clsL (K : PySem.W.Frag) : Addr := He.ga K (Str.ofString "LiveHall")
def SaysM (fa : List He.Fa) (fn : List He.DefD) (xs ys : List String) (p : PySem.W.Frag → Addr) (K : PySem.W.Frag) : Prop := SaysL fa fn xs ys p K ∧ insB K (clsL K) = true
section
variable {fa : List He.Fa} {fn : List He.DefD} {xs ys : List String} {p : PySem.W.Frag → Addr} {K : PySem.W.Frag}
theorem SaysM.fact (c : SaysM fa fn xs ys p K) (i : Nat) {f : He.Fa} (h : fa[i]? = some f := by rfl) : f.ok K = true := c.1.fact i h
theorem SaysM.def_ (c : SaysM fa fn xs ys p K) (i : Nat) {d : He.DefD} (h : fn[i]? = some d := by rfl) : ∃ fd, FunD K d.name d.qual d.params d.body d.scope (d.dvs K) (d.kws K) (He.fAd K d.at_) fd := c.1.def_ i h
theorem SaysM.xf (c : SaysM fa fn xs ys p K) : XF K xs ys := c.1.xf
theorem SaysM.sm (c : SaysM fa fn xs ys p K) : modOk K = true := c.1.sm
end
end HR
set_option Elab.async false
set_option linter.all false
set_option maxRecDepth 100000
set_option maxHeartbeats 2000000
/-! texts: join, split -/
namespace HR
open PySem L2
def strsOf : List D → Option (List Str)
  | [] => some []
  | .str x :: r => (strsOf r).map (x :: ·)
  | _ => none
theorem strsOf_ok {K : PySem.W.Frag} {F : Hp} {m : List Addr} : ∀ {ds : List D} {vs : List V} {ys : List Str}, DenL K F m vs ds → strsOf ds = some ys → vs = ys.map V.str
  | [], _, _, .nil, e => by simp only [strsOf, Option.some.injEq] at e; subst e; rfl
  | d :: ds, _, ys, .cons a b, e => by
    cases d with
    | str x =>
      simp only [strsOf, Option.map_eq_some_iff] at e
      obtain ⟨zs, e1, rfl⟩ := e
      cases a
      rw [strsOf_ok b e1]
      rfl
    | _ => simp [strsOf] at e
theorem strs_den {K : PySem.W.Frag} {F : Hp} {m : List Addr} : ∀ ys : List Str, DenL K F m (ys.map V.str) (ys.map D.str)
  | [] => .nil
  | y :: ys => .cons (.str y) (strs_den ys)
@[simp] theorem strsOf_map : ∀ ys : List Str, strsOf (ys.map D.str) = some ys
  | [] => rfl
  | y :: ys => by simp [strsOf, strsOf_map ys]
/-- o.f(a), o a text -/
def sM1 (g : Str → D → OH → Res D) (o a : SE) : SE := fun e h => (o e h).bind fun x h1 => match x with
  | .str s => (a e h1).bind fun d h2 => g s d h2
  | _ => .bad
def opJoin : Str → D → OH → Res D := fun s d h => match (lsqAt h d).bind strsOf with
  | some ys => if (ys.map (·.length)).sum + ys.length * s.length ≤ big then .ok (.str (Txt.join s ys)) h else .bad
  | none => .bad
def opSplit : Str → D → OH → Res D := fun s d h => match d with
  | .str b => if (b.length == 0) = false ∧ s.length + 2 ≤ big then .ok (.lst ((Txt.split s b).map D.str)) h else .bad
  | _ => .bad
section
variable {X : Cx} {W : WX}
theorem de_join {o a : Expr} {apos pos : Pos} {fo fa : SE} (ho : DE X W o fo) (ha : DE X W a fa) (hs : starEach [a] X.env = [(false, eval a X.env)] := by rfl) (hbase : attributeBase o "join" X.env (eval o X.env) = eval o X.env := by rfl) (hline : (apos.endLine == pos.line) = true := by rfl) :
    DE X W (.Call (.Attribute o "join" apos) [a] [] pos) (sM1 opJoin fo fa) := PE.of (pe_join ho ha hs hbase hline) fun σ H Q => by
  rintro ⟨P, F, m, e, h, S, E, fin⟩
  refine rd_seq S E fin fun F1 m1 h1 H1 x dx x1 S1 E1 r1 fin1 => ?_
  cases dx with
  | str s =>
    cases den_str r1
    refine ⟨⟨s, rfl⟩, rd_seq S1 E1 fin1 fun F2 m2 h2 H2 y dy x2 S2 E2 r2 fin2 => ?_⟩
    unfold opJoin at fin2
    cases q : lsqAt h2 dy with
    | none => rw [q] at fin2; exact fin2.bad_elim
    | some xs =>
      rw [q, Option.bind_some] at fin2
      cases q2 : strsOf xs with
      | none => rw [q2] at fin2; exact fin2.bad_elim
      | some ys =>
        rw [q2] at fin2
        dsimp only at fin2
        obtain ⟨p, vs, rfl, hp, rl⟩ := lsqAt_ok S2 r2 q
        by_cases hz : (ys.map (·.length)).sum + ys.length * s.length ≤ big
        · rw [if_pos hz] at fin2
          exact ⟨s, p, ys, rfl, rfl, .inl (strsOf_ok rl q2 ▸ hp), Nat.le_trans hz (by decide), fin2.ok S2 (.str _)⟩
        · rw [if_neg hz] at fin2
          exact fin2.bad_elim
  | _ => exact fin1.bad_elim
theorem de_split {o a : Expr} {apos pos : Pos} {fo fa : SE} (ho : DE X W o fo) (ha : DE X W a fa) (hs : starEach [a] X.env = [(false, eval a X.env)] := by rfl) (hbase : attributeBase o "split" X.env (eval o X.env) = eval o X.env := by rfl) (hline : (apos.endLine == pos.line) = true := by rfl) :
    DE X W (.Call (.Attribute o "split" apos) [a] [] pos) (sM1 opSplit fo fa) := PE.of (pe_split ho ha hs hbase hline) fun σ H Q => by
  rintro ⟨P, F, m, e, h, S, E, fin⟩
  refine rd_seq S E fin fun F1 m1 h1 H1 x dx x1 S1 E1 r1 fin1 => ?_
  cases dx with
  | str s =>
    cases den_str r1
    refine ⟨⟨s, rfl⟩, rd_seq S1 E1 fin1 fun F2 m2 h2 H2 y dy x2 S2 E2 r2 fin2 => ?_⟩
    unfold opSplit at fin2
    cases dy with
    | str b =>
      cases den_str r2
      dsimp only at fin2
      by_cases hz : (b.length == 0) = false ∧ s.length + 2 ≤ big
      · rw [if_pos hz] at fin2
        exact ⟨s, b, rfl, rfl, hz.1, big_line hz.2, fun p hp => fin2.newL S2 (strs_den _) hp⟩
      · rw [if_neg hz] at fin2
        exact fin2.bad_elim
    | _ => exact fin2.bad_elim
  | _ => exact fin1.bad_elim
end
end HR
set_option Elab.async false
set_option linter.all false
set_option maxRecDepth 100000
set_option maxHeartbeats 2000000
/-! instances that change: C(..) as an own object, o.f += e -/
namespace HR
open PySem L2
section
variable {X : Cx} {W : WX} {k : Nat} {f : Addr} {fd : FuncData} {ps : List Str} {g : FN}
/-- o.f += e, ints -/
def sFldA (C f : String) (o v : SE) : SS := fun e h => (o e h).toS e fun x h1 => match x with
  | .ref n => (match h1[n]? with
    | some (.ins C1 fs) => if C1 = C then (match fs.lookup f with
      | some (.int i) => (v e h1).toS e fun y h2 => (match y, h2[n]? with
        | .int j, some (.ins C2 fs2) => if C2 = C ∧ fs2.length < 900 then .nx e (h2.set n (.ins C (putS f (.int (i + j)) fs2))) else .bad
        | _, _ => .bad)
      | _ => .bad) else .bad
    | _ => .bad)
  | _ => .bad
end
end HR
set_option Elab.async false
set_option linter.all false
set_option maxRecDepth 100000
set_option maxHeartbeats 2000000
/-! exceptions as values: C('..'), C(e) where C keeps e in one field, raise C(e), x.f -/
namespace HR
open PySem L2 PySem.Spec PyProof.Rows
/-! ### the __init__ -/
/-- HushError.__init__(self, '..'); self.f = x -/
def spInit (K : PySem.W.Frag) (C f : String) : Sp := fun vs H Q _ => ∃ (a : Addr) (v : V), vs = [.ref a, v] ∧ H a = some (exo a (He.ga K (Str.ofString C)) none) ∧
  ∀ dx, H dx = none → dx ≠ a → Q .non (upd (upd H dx (exd dx [(Str.ofString f, v)])) a (exo a (He.ga K (Str.ofString C)) (some dx)))
section
variable {X : Cx}
theorem pe_hinit {C f : String} {p1 p2 pos : Pos} {a : Expr} {es : List Expr} {ta : TA} {pl : Sem Bool} (T : OexF X.K C f) (hg : Gl X "HushError") (hm : X.mg "HushError" = some (.ref (He.ga X.K (Str.ofString "HushError")))) (ha : PA X (a :: es) ta)
    (hc : eval (.Call (.Attribute (.Name "HushError" p1) "__init__" p2) (a :: es) [] pos) X.env = (do
      let ov ← eval (.Name "HushError" p1) X.env
      standAt p2.atName
      let (g, first) ← holding [ov] (getMethod ov "__init__" pl)
      callWith pos g first (backTo pos (starEach (a :: es) X.env)) (backToKw pos (keywordEach [] X.env))) := by rfl)
    (he : starEach (a :: es) X.env = (false, eval a X.env) :: starEach es X.env := by rfl) (hpl : (backTo pos (starEach es X.env)).any (·.1) = false := by rfl) :
    PE X (.Call (.Attribute (.Name "HushError" p1) "__init__" p2) (a :: es) [] pos) (tVeI X.K ta) := by
  constructor
  intro pn s σ H Q I h
  refine PySem.W.methodCall_KW (ld_glob I hg hm ?_ (by decide)) hc
  refine PySem.W.method_cls I.kIn T.sB (PySem.W.cls_value I.kIn T.rB T.vB (by decide +kernel) ?_)
  show wpAny _ _ (callWith pos (Value.builtin "ValueError.__init__") [] (backTo pos (starEach (a :: es) X.env)) []) _ _ _
  refine PyProof.Rows.callWith_method1 (thn (ha.run pos pn _ σ H _ (I.tok _) h) ?_) he hpl
  rintro us s1 ⟨vs, H1, J, r, x, D, ws, rfl, hl, TD, ex, q⟩
  cases r with
  | cons r1 r2 =>
    cases (show _ = Value.ref x from r1)
    refine oinit_ok TD J ex ?_ fun s2 J2 => ⟨.non, H1, J2, rfl, q⟩
    rw [sizeLine_eq, ← Paired.length r2]
    exact Nat.le_trans hl (by decide)
end
section
variable {P : Program} {w : World} {K : PySem.W.Frag} {mg : Str → Option Value} {base : Heap} {k : Nat}
/-- the body of such an __init__ -/
def tIni (K : PySem.W.Frag) (f m : Str) : TS := fun Dn σ H => tVeI K (tCons (tVar 0) (tCons (tC (.str m)) tNil)) σ H fun _ H1 => tOst K f (tVar 0) (tVar 1) Dn σ H1
theorem init_ok {x qual : Str} {params : Arguments} {body : List Stmt} {scope : Scope} {dvs : List V} {kws : List (Str × V)} {fI : Addr} {fd : FuncData} {C f : String} {m : Str} {y s0 : Str}
    (Fu : FunD K x qual params body scope dvs kws fI fd) (S : FnScope [s0, y] [s0, y] scope) (T : OexF K C f)
    (hb : ∀ (cdv : Value) (A : Around) (outer : List Env) (s : Shared) (H : Hp) (E : XK), PSs (cxOf CX0 P w K mg base [s0, y] qual scope fI cdv A outer s H E) body (tIni K (Str.ofString f) m)) :
    FnOk P w K mg base CX0 (k + 1) fI fd [s0, y] (spInit K C f) := by
  refine Fu.ok S ?_ ?_
  · rintro vs H Q E ⟨a, v, rfl, _⟩
    rfl
  · rintro cdv A outer s H vs Q E hr ⟨a, v, rfl, e, q⟩
    refine ⟨_, hb cdv A outer s H E, ?_⟩
    refine ⟨.ref a, rfl, a, He.ga K (Str.ofString C), [.str m], rfl, by show 1 ≤ 1000; omega, T.oc, e, ?_⟩
    refine ⟨v, rfl, .ref a, rfl, a, He.ga K (Str.ofString C), rfl, T.oc, T.no, .inl ⟨e, fun dx n ne => ?_⟩⟩
    exact q dx n ne
end
section
variable {X : Cx}
theorem pss_ini {C f : String} {s0 y m : Str} {j : Nat} {p1 p2 p3 p4 p5 p6 p7 p8 p9 p10 : Pos} {pl : Sem Bool} (T : OexF X.K C f) (hN : X.N = [s0, y]) (hv0 : Vis X.env.scope s0) (hv1 : Vis X.env.scope y) (hg : Gl X "HushError") (hm : X.mg "HushError" = some (.ref (He.ga X.K (Str.ofString "HushError"))))
    (d0 : (s0 == ("__debug__" : Str)) = false) (c0 : (s0 == ("__classdict__" : Str)) = false) (d1 : (y == ("__debug__" : Str)) = false) (c1 : (y == ("__classdict__" : Str)) = false)
    (hc : eval (.Call (.Attribute (.Name "HushError" p1) "__init__" p2) [.Name s0 p3, .Constant (.str m) j p4] [] p5) X.env = (do
      let ov ← eval (.Name "HushError" p1) X.env
      standAt p2.atName
      let (g, first) ← holding [ov] (getMethod ov "__init__" pl)
      callWith p5 g first (backTo p5 (starEach [.Name s0 p3, .Constant (.str m) j p4] X.env)) (backToKw p5 (keywordEach [] X.env))) := by rfl)
    (hs1 : swapsWith (.Call (.Attribute (.Name "HushError" p1) "__init__" p2) [.Name s0 p3, .Constant (.str m) j p4] [] p5) none p6.line X.env = pure false := by rfl)
    (hs2 : swapsWith (.Name y p9) (some (.Attribute (.Name s0 p7) (Str.ofString f) p8)) p10.line X.env = pure false := by rfl) :
    PSs X [.Expr (.Call (.Attribute (.Name "HushError" p1) "__init__" p2) [.Name s0 p3, .Constant (.str m) j p4] [] p5) p6, .Assign [.Attribute (.Name s0 p7) (Str.ofString f) p8] (.Name y p9) p10] (tIni X.K (Str.ofString f) m) :=
  PSs.of (pss_cons (ps_expr (pe_hinit T hg hm (pa_cons (pe_var (by rw [hN]; rfl) hv0 d0 c0) (pa_cons pe_str pa_nil (by rfl)) (by rfl)) hc) hs1) (pss_one (ps_ost (pe_var (by rw [hN]; rfl) hv0 d0 c0) (pe_var (by rw [hN]; rfl) hv1 d1 c1) hs2))) fun Dn σ H q => q
end
/-! ### made, as a value; raised -/
def sRaiseF (C f : String) (fe : SE) : SS := fun e h => (fe e h).toS e fun d h1 => .exc C (some (f, d)) e h1
/-- x.f of an exception -/
def sXfl (xs : List String) (f : String) (o : SE) : SE := fun e h => (o e h).bind fun d h1 => match d with
  | .excf C f1 d1 => if C ∈ xs ∧ f1 = f ∧ fieldOf C = some f then .ok d1 h1 else .bad
  | _ => .bad
structure DefI (P : Program) (w : World) (K : PySem.W.Frag) (mg : Str → Option Value) (base : Heap) (k : Nat) (C f : String) : Prop where
  ex : ∃ fd s0 y, FnOk P w K mg base CX0 k (He.ma K (He.ga K (Str.ofString C)) "__init__") fd [s0, y] (spInit K C f) ∧ Binds K fd [s0, y] []
  T : OexF K C f
/-! ### a field of an exception -/
section
variable {X : Cx} {W : WX} {o : Expr} {pos : Pos}
theorem pe_xfl {n : Str} {to : TE} (ho : PE X o to) (hb : attributeBase o n X.env (eval o X.env) = eval o X.env) : PE X (.Attribute o n pos) (fun σ H Q => to σ H fun x H1 => ∃ (a C dx : Addr) (fs : List (Str × V)) (v : V),
    x = .ref a ∧ Rd H1 a (HexP (.ref C) dx a) ∧ H1 dx = some (.xd fs) ∧ fs.lookup n = some v ∧ ExcC X.K C ∧ PySem.W.findIn X.K (.ref C) n = some none ∧ Q v H1) := by
  constructor
  intro pn s σ H Q I q
  refine attr_of hb (thn (ho.run pn s σ H _ I q) ?_)
  rintro u s1 ⟨x, H1, J, r, a, C, dx, fs, v, rfl, ea, ed, lk, ex, no, fin⟩
  cases (show u = Value.ref a from r)
  obtain ⟨⟨⟨oc, od, dt, sl⟩, ws, e1, ⟨e2, e3⟩, e4⟩, _⟩ := rd_ok J.hok ea
  dsimp only at e2 e3 e4
  subst e2 e3 e4
  obtain ⟨mA, hns, hr⟩ := (show ObjOk X.prog X.w H1 s1.heap dx (.xd fs) from J.hok dx _ ed)
  obtain ⟨o2, ho2, hl⟩ := lookIn_ns hns
  obtain ⟨u2, hu, ru⟩ := RelO.some_of (v := v) (o := mA n) (by rw [← lk]; exact hr n)
  have T : PySem.W.InstAt s1.heap a ⟨.ref C, some dx, .fields ws, sl⟩ C (some o2) := ⟨e1, rfl, rfl, ho2⟩
  exact HandSPX.exc_get J.kIn T ex.hg ex.hk ex.hs (PySem.W.findObj_own ex.hd no rfl (by rw [hl, hu])) (handed_of ru) ⟨v, H1, J.tok _, ru, fin⟩
theorem de_xfl {xs ys : List String} {f : String} {fo : SE} (T : XF X.K xs ys) (ho : DE X W o fo) (hb : attributeBase o (Str.ofString f) X.env (eval o X.env) = eval o X.env := by rfl) : DE X W (.Attribute o (Str.ofString f) pos) (sXfl xs f fo) := PE.of (pe_xfl ho hb) fun σ H Q => by
  rintro ⟨P, F, m, e, h, S, E, fin⟩
  refine rd_seq S E fin fun F1 m1 h1 H1 v d x1 S1 E1 r1 fin1 => ?_
  cases r1 with
  | excf q q2 rv =>
    rename_i a dx C f1 v1 d1
    dsimp only at fin1
    by_cases hC : C ∈ xs ∧ f1 = f ∧ fieldOf C = some f
    · rw [if_pos hC] at fin1
      obtain ⟨h1, rfl, h3⟩ := hC
      exact ⟨a, _, dx, _, v1, rfl, rd_same S1.sub q, S1.sub _ _ q2, by simp [List.lookup], T.cls C h1, (T.oex C h1 _ h3).no, fin1.ok S1 rv⟩
    · rw [if_neg hC] at fin1
      exact fin1.bad_elim
  | _ => exact fin1.bad_elim
end
end HR
set_option Elab.async false
set_option linter.all false
set_option maxRecDepth 20000
set_option maxHeartbeats 1000000
/-! walks over an own list, which keeps its length meanwhile -/
namespace HR
open PySem L2 RZ
section
variable {X : Cx} {W : WX}
/-- the place of an own list -/
def sRefL (f : SE) : Env' → OH → Res Nat := fun e h => (f e h).bind fun d h1 => match d with
  | .ref i => (match h1[i]? with
    | some (.lst _) => .ok i h1
    | _ => .bad)
  | _ => .bad
abbrev relOw (K : PySem.W.Frag) : Rel It Nat := fun _ m J i => ∃ a, m[i]? = some a ∧ J = Itl K a
/-- j rounds are left of n -/
def forO (g : TF) (b : SS) (i n : Nat) : Nat → SS
  | 0 => fun e h => match h[i]? with
    | some (.lst ys) => if ys.length = n then .nx e h else .bad
    | _ => .bad
  | j + 1 => fun e h => match h[i]? with
    | some (.lst ys) => if ys.length = n then (match ys[n - (j + 1)]? with
      | some d => (match g d e h with
        | none => .bad
        | some e1 => (match b e1 h with
          | .nx e2 h2 => forO g b i n j e2 h2
          | .ct e2 h2 => forO g b i n j e2 h2
          | .bk e2 h2 => .nx e2 h2
          | r => r))
      | none => .bad) else .bad
    | _ => .bad
def sForO (f : SE) (g : TF) (b : SS) : SS := fun e h => (sRefL f e h).toS e fun i h1 => match h1[i]? with
  | some (.lst xs) => forO g b i xs.length xs.length e h1
  | _ => .bad
/-! comprehensions -/
def lcGoO (g : TF) (tt : ST) (el : SE) (e : Env') (i n : Nat) : Nat → OH → List D → Res (List D)
  | 0, h, acc => (match h[i]? with
    | some (.lst ys) => if ys.length = n then .ok acc h else .bad
    | _ => .bad)
  | j + 1, h, acc => match h[i]? with
    | some (.lst ys) => if ys.length = n then (match ys[n - (j + 1)]? with
      | some d => (match g d e h with
        | none => .bad
        | some e1 => (tt e1 h).noX.bind fun b h1 => if b then (el e1 h1).noX.bind fun y h2 => if acc.length < big then lcGoO g tt el e i n j h2 (acc ++ [y]) else .bad else lcGoO g tt el e i n j h1 acc)
      | none => .bad) else .bad
    | _ => .bad
def sLcO (own : Bool) (f : SE) (g : TF) (tt : ST) (el : SE) (vs : List Nat) : SE := fun e h => (sRefL f e h).bind fun i h1 => match h1[i]? with
  | some (.lst xs) => (lcGoO g tt el (wipeD e vs) i xs.length xs.length h1 []).bind fun acc h2 => if own then .ok (.ref h2.length) (h2 ++ [.lst acc]) else .ok (.lst acc) h2
  | _ => .bad
theorem wipe_idem (σ : St) (vs : List Nat) : L2.wipe (L2.wipe σ vs) vs = L2.wipe σ vs := by
  have key : ∀ (us : List Nat) (τ : St), (∀ u ∈ us, ∀ z, τ[u]? = some z → z = none) → L2.wipe τ us = τ := by
    intro us
    induction us with
    | nil => intro τ _; rfl
    | cons u us ih =>
      intro τ hz
      show (L2.wipe τ us).set u none = τ
      rw [ih τ fun w hw => hz w (List.mem_cons_of_mem _ hw)]
      apply List.ext_getElem?
      intro j
      by_cases hj : u = j
      · subst hj
        rw [List.getElem?_set]
        simp only [if_true]
        by_cases hu : u < τ.length
        · rw [if_pos hu, List.getElem?_eq_getElem hu, hz u List.mem_cons_self τ[u] (List.getElem?_eq_getElem hu)]
        · rw [if_neg hu, List.getElem?_eq_none (Nat.le_of_not_lt hu)]
      · rw [List.getElem?_set_ne hj]
  refine key vs _ fun u hu z hz => ?_
  have cl : ∀ (us : List Nat) (τ : St), u ∈ us → (L2.wipe τ us)[u]? = some z → z = none := by
    intro us
    induction us with
    | nil => intro τ h; simp at h
    | cons w us ih =>
      intro τ h hz
      have hz : ((L2.wipe τ us).set w none)[u]? = some z := hz
      by_cases hw : w = u
      · subst hw
        rw [List.getElem?_set] at hz
        simp only [if_true] at hz
        split at hz
        · simpa using hz.symm
        · cases hz
      · rw [List.getElem?_set_ne hw] at hz
        rcases List.mem_cons.mp h with h | h
        · exact absurd h.symm hw
        · exact ih τ h hz
  exact cl vs σ hu hz
theorem lcO_rd {f : SE} {g : TF} {tt : ST} {el : SE} {vs : List Nat} (own : Bool) {σ : St} {H : Hp} {Q : VK} (q : rdG X.K W (Den X.K) (sLcO own f g tt el vs) σ H Q) :
    tLc (rdG X.K W (relOw X.K) (sRefL f)) (rdTG X.K vs g) (rdG X.K W0 relB tt) (rdG X.K W0 (Den X.K) el) vs σ H Q := by
  obtain ⟨P0, F0, m0, e0, h0, S0, E0, fin0⟩ := q
  refine rd_seq S0 E0 fin0 fun F1 m1 h1 H1 J t x1 S1 E1 wk fin1 => ?_
  obtain ⟨a, ea, rfl⟩ := wk
  intro D0 hD
  cases q0 : h1[t]? with
  | none => rw [q0] at fin1; exact fin1.bad_elim
  | some ob0 =>
    rw [q0] at fin1
    cases ob0 with
    | lst xs =>
      dsimp only at fin1
      let go := lcGoO g tt el (wipeD e0 vs) t xs.length
      let fl : List D → OH → Res D := fun acc h2 => if own then .ok (.ref h2.length) (h2 ++ [.lst acc]) else .ok (.lst acc) h2
      let Wd : Nat → Nat → Hp → Prop := fun i n H => ∃ F m h acc ws, Sim X.K ((D0, .lst ws) :: P0) F m h H ∧ Ext F1 m1 F m ∧ DenL X.K F m ws acc ∧ acc.length ≤ big ∧ i + n = xs.length ∧ FinG X.K P0 W σ (Den X.K) Q F m ((go n h acc).bind fl)
      refine ⟨Wd, ⟨xs.length, F1, m1, h1, [], [], S1.hid hD, .refl, .nil, Nat.zero_le _, by omega, fin1⟩, ?_⟩
      rintro i n H ⟨F, m, h, acc, ws, S, x, ra, hl, hn, fin⟩
      have ea2 := pre_get x.p ea
      obtain ⟨ob, k1, k2⟩ := S.own ea2
      cases n with
      | zero =>
        simp only [go, lcGoO, k1] at fin
        cases ob with
        | lst ys =>
          dsimp only at fin
          obtain ⟨vs2, k3, k4, k5⟩ := k2
          by_cases hy : ys.length = xs.length
          · rw [if_pos hy] at fin
            refine .inl ⟨⟨vs2, .inl (.inl k3), by rw [k4.length]; omega⟩, ?_⟩
            simp only [Res.bind_ok, fl] at fin
            cases own with
            | true => exact FinG.okX fin ext_new (S.hidOwn ra) (.ref (by rw [← S.len]; simp))
            | false =>
              obtain ⟨k1, k2, k3⟩ := S.pin _ List.mem_cons_self
              exact FinG.okX fin (ext_frz k2) S.hidFrz (.lst upd_same (ra.mono (ext_frz k2)))
          · rw [if_neg hy] at fin
            exact fin.bad_elim
        | _ => exact fin.bad_elim
      | succ j =>
        simp only [go, lcGoO, k1] at fin
        cases ob with
        | lst ys =>
          dsimp only at fin
          obtain ⟨vs2, k3, k4, k5⟩ := k2
          by_cases hy : ys.length = xs.length
          · rw [if_pos hy] at fin
            have hi : xs.length - (j + 1) = i := by omega
            rw [hi] at fin
            cases q1 : ys[i]? with
            | none => rw [q1] at fin; exact fin.bad_elim
            | some d =>
              rw [q1] at fin
              dsimp only at fin
              obtain ⟨v, e3, rv⟩ := k4.get q1
              refine .inr ⟨⟨vs2, v, .inl (.inl k3), e3⟩, fun H' => Wd (i + 1) j H', fun H' q => ⟨j, Nat.lt_succ_self _, q⟩, fun y H' hy2 => ?_⟩
              obtain ⟨rfl, yl⟩ := hy2
              have e4 := yl vs2 (.inl (.inl k3))
              rw [e3] at e4
              cases e4
              have E2 : EnvR X.K F m (L2.wipe σ vs) (wipeD e0 vs) := (E1.mono x).wipe vs
              cases q : g d (wipeD e0 vs) h with
              | none => rw [q] at fin; exact fin.bad_elim
              | some e2 =>
                rw [q] at fin
                dsimp only at fin
                refine ⟨_, F, m, wipeD e0 vs, h, _, S, E2, rv, e2, q, fun σ' E' wi => ⟨by rw [wi, wipe_idem], _, F, m, e2, h, S, E', ?_⟩⟩
                cases qt : tt e2 h with
                | bad => rw [qt] at fin; exact fin.elim
                | exc C p h3 => rw [qt] at fin; exact fin.elim
                | ok b h3 =>
                  rw [qt] at fin
                  simp only [Res.noX, Res.bind_ok] at fin
                  intro b' F3 m3 H3 x3 S3 rb
                  have rb : b' = b := rb
                  subst rb
                  cases b' with
                  | false =>
                    simp only [Bool.false_eq_true, if_false] at fin ⊢
                    exact ⟨F3, m3, h3, acc, ws, S3, x.trans x3, ra.mono x3, hl, by omega, FinG.weak x3 fin⟩
                  | true =>
                    simp only [if_true] at fin ⊢
                    refine ⟨_, F3, m3, e2, h3, S3, E'.mono x3, ?_⟩
                    cases qe : el e2 h3 with
                    | bad => rw [qe] at fin; exact fin.elim
                    | exc C p h4 => rw [qe] at fin; exact fin.elim
                    | ok z h4 =>
                      rw [qe] at fin
                      simp only [Res.noX, Res.bind_ok] at fin
                      intro v F4 m4 H4 x4 S4 rv
                      have xx := x3.trans x4
                      by_cases hz : acc.length < big
                      · rw [if_pos hz] at fin
                        refine ⟨ws, (S4.pin _ List.mem_cons_self).1, by rw [ra.length]; exact big_lt hz, F4, m4, h4, acc ++ [z], ws ++ [v], S4.hidSet, x.trans xx, (ra.mono xx).append (.cons rv .nil), by simp; omega, by omega, FinG.weak xx fin⟩
                      · rw [if_neg hz] at fin
                        exact fin.elim
          · rw [if_neg hy] at fin
            exact fin.bad_elim
        | _ => exact fin.bad_elim
    | _ => exact fin1.bad_elim
end
section
variable {α β : Type} {N C B : Env' → OH → Prop} {R : D → OH → Prop} {PD : D → OH → Prop} {PL : List D → OH → Prop} {PN : Nat → OH → Prop}
def lkO (o : Option OO) (P : List D → Prop) : Prop := match o with
  | some (.lst xs) => P xs
  | _ => False
@[simp] theorem lkO_lst (xs : List D) (P : List D → Prop) : lkO (some (.lst xs)) P = P xs := rfl
@[simp] theorem W_refL (f : SE) (e : Env') (h : OH) : (sRefL f e h).W PN = (f e h).W fun d h1 => isR d fun i => lkO h1[i]? fun _ => PN i h1 := by
  unfold sRefL; rw [W_bind]; congr; funext d h1
  cases d <;> first | rfl | skip
  rename_i i
  simp only [isR_ref]
  rcases h1[i]? with _ | o
  · rfl
  · cases o <;> rfl
@[simp] theorem SW_forO (f : SE) (g : TF) (b : SS) (e : Env') (h : OH) : (sForO f g b e h).W N C B R = (f e h).W fun d h1 => isR d fun i => lkO h1[i]? fun xs => (forO g b i xs.length xs.length e h1).W N C B R := by
  unfold sForO
  rw [W_toS, W_refL]
  congr; funext d h1; congr; funext i
  rcases h1[i]? with _ | o
  · rfl
  · cases o <;> rfl
end
end HR
set_option Elab.async false
set_option linter.all false
set_option maxRecDepth 20000
set_option maxHeartbeats 1000000
/-! a call without arguments -/
namespace HR
open PySem L2 RZ
/-! facts of the head, with the table of statics -/
def obsYG (n : Nat) (fa : List He.Fa) (fn : List He.DefD) (xs ys : List String) (g : Addr → Option Obj) : He.AlD × Bool := obsX fa fn xs ys (He.frG g (sysModules :: PySem.cStatics :: He.asD g n))
def hookY (n : Nat) (fa : List He.Fa) (fn : List He.DefD) (xs ys : List String) : PySem.W.Hook where
  α := He.AlD × Bool
  obs := fun st => obsYG n fa fn xs ys st.heap.get?
  val := fun _ => (He.valD fn, true)
  says := fun _ hp => ∃ K : PySem.W.Frag, K.In hp ∧ SaysX fa fn xs ys K
  of := fun _ _ q => ⟨_, He.frG_in, q⟩
  keeps := fun _ _ _ ⟨K, i, q⟩ st => ⟨K, PySem.W.Frag.In.keeps i st, q⟩
theorem obsYG_eq {n : Nat} {fa : List He.Fa} {fn : List He.DefD} {xs ys : List String} {g : Addr → Option Obj} {st : Shared} (q : ∀ a, g a = st.heap.get? a) : obsYG n fa fn xs ys g = (hookY n fa fn xs ys).obs st := by
  cases (funext q : g = st.heap.get?)
  rfl
end HR
set_option Elab.async false
set_option linter.all false
set_option maxRecDepth 20000
set_option maxHeartbeats 1000000
/-! a block, statement by statement: what follows is out of sight meanwhile -/
namespace HR
open PySem L2 RZ
section
variable {N C B : Env' → OH → Prop} {R : D → OH → Prop}
theorem SW_seqK {f g : SS} {e : Env'} {h : OH} (q : ∀ K : Env' → OH → Prop, (∀ e h, (g e h).W N C B R → K e h) → (f e h).W K C B R) : (sSeq f g e h).W N C B R := by
  rw [SW_seq]
  exact q _ fun _ _ z => z
end
end HR
set_option Elab.async false
set_option linter.all false
set_option maxRecDepth 20000
set_option maxHeartbeats 1000000
/-! range(a, b) of numbers of any size -/
namespace HR
open PySem L2 RZ PySem.Spec PyProof.Rows
section
variable {X : Cx} {tg : Expr} {W : WX}
def sRng2W (a b : SE) : SA := fun e h => (a e h).bind fun d h1 => (b e h1).bind fun d2 h2 => match d, d2 with
  | .int i, .int j => .ok (rngD i (j - i).toNat) h2
  | _, _ => .bad
end
section
variable {PL : List D → OH → Prop}
@[simp] theorem W_rng2W (f g : SE) (e : Env') (h : OH) : (sRng2W f g e h).W PL = (f e h).W fun a h1 => (g e h1).W fun b h2 => isI a fun i => isI b fun j => PL (rngD i (j - i).toNat) h2 := by
  unfold sRng2W; rw [W_bind]; congr; funext a h1; rw [W_bind]; congr; funext b h2
  cases a <;> cases b <;> rfl
end
end HR
set_option Elab.async false
set_option linter.all false
set_option maxRecDepth 20000
set_option maxHeartbeats 1000000
/-! x is True, x is not False, of bools -/
namespace HR
open PySem L2 RZ PySem.Spec PyProof.Rows
section
variable {X : Cx} {W : WX}
def opIsB (neg : Bool) : D → D → OH → Res D
  | .bl a, .bl b, h => .ok (.bl (if neg then !decide (a = b) else decide (a = b))) h
  | _, _, _ => .bad
end
@[simp] theorem W_isB (neg a b : Bool) (h : OH) {PD : D → OH → Prop} : (opIsB neg (.bl a) (.bl b) h).W PD = PD (.bl (if neg then !decide (a = b) else decide (a = b))) h := rfl
end HR
set_option Elab.async false
set_option linter.all false
set_option maxRecDepth 20000
set_option maxHeartbeats 1000000
/-! repr of any value -/
set_option Elab.async false
set_option linter.all false
set_option maxRecDepth 20000
set_option maxHeartbeats 1000000
/-! clear and insert of own lists -/
namespace HR
open PySem L2 RZ PySem.Spec PyProof.Rows
section
variable {X : Cx} {W : WX}
def gClear (i : Nat) (xs ys : List D) (h : OH) : Res D := match ys with
  | [] => .ok .non (h.set i (.lst []))
  | _ => .bad
def gInsert (i : Nat) (xs ys : List D) (h : OH) : Res D := match ys with
  | [.int k, y] => if xs.length < big ∧ 0 ≤ k ∧ k < 2 ^ 63 then .ok .non (h.set i (.lst (xs.take k.toNat ++ [y] ++ xs.drop k.toNat))) else .bad
  | _ => .bad
end
section
variable {PD : D → OH → Prop}
@[simp] theorem W_clear (i : Nat) (xs : List D) (h : OH) : (gClear i xs [] h).W PD = PD .non (h.set i (.lst [])) := rfl
@[simp] theorem W_insert (i : Nat) (xs : List D) (k : Int) (y : D) (h : OH) : (gInsert i xs [.int k, y] h).W PD = if xs.length < 1000000 ∧ 0 ≤ k ∧ k < 9223372036854775808 then PD .non (h.set i (.lst (xs.take k.toNat ++ [y] ++ xs.drop k.toNat))) else False := by
  simp [gInsert, big]
end
end HR
set_option Elab.async false
set_option linter.all false
set_option maxRecDepth 100000
set_option maxHeartbeats 4000000
/-! sorted(set(xs)), xs a list of ints, fewer than 64 -/
set_option Elab.async false
set_option linter.all false
set_option maxRecDepth 20000
set_option maxHeartbeats 1000000
/-! sorted(set(xs)), xs a list of ints, fewer than 64 -/
namespace HR
open PySem L2 RZ PySem.Spec PyProof.Rows
def insU (x : Int) : List Int → List Int
  | [] => [x]
  | y :: r => if x < y then x :: y :: r else if x = y then y :: r else y :: insU x r
def sortU (l : List Int) : List Int := l.foldr insU []
section
variable {X : Cx} {W : WX}
def sSortSet (f : SE) : SE := fun e h => (f e h).bind fun d h1 => match (lsqAt h1 d).bind intsOf with
  | some ns => if ns.length < 64 then .ok (.lst ((sortU ns).map .int)) h1 else .bad
  | none => .bad
end
section
variable {PD : D → OH → Prop}
@[simp] theorem W_sSortSet (f : SE) (e : Env') (h : OH) : (sSortSet f e h).W PD = (f e h).W fun d h1 => match (lsqAt h1 d).bind intsOf with
  | some ns => if ns.length < 64 then PD (.lst ((sortU ns).map .int)) h1 else False
  | none => False := by
  unfold sSortSet; rw [W_bind]; congr; funext d h1
  cases (lsqAt h1 d).bind intsOf with
  | none => rfl
  | some ns => dsimp only; split <;> rfl
end
end HR
set_option Elab.async false
set_option linter.all false
set_option maxRecDepth 20000
set_option maxHeartbeats 1000000
/-! min(xs, default=None), xs a list of ints -/
set_option Elab.async false
set_option linter.all false
set_option maxRecDepth 20000
set_option maxHeartbeats 1000000
/-! a comprehension over a list, own or frozen -/
set_option Elab.async false
set_option linter.all false
set_option maxRecDepth 100000
set_option maxHeartbeats 1000000
/-! zip of a list and a tuple -/
namespace HR
open PySem L2 RZ PySem.Spec PyProof.Rows
open PySem.Sem (wp)
/-! the call zip(l1, l2) -/
/-! the loop over it -/
section
variable {X : Cx} {W : WX}
/-- zip of lists, of tuples, or of a list and a tuple -/
def sZipX (f : SA) : SA := fun e h => match f e h with
  | .ok [.lst xs, .tup ys] h1 => .ok (zipD xs ys) h1
  | _ => sZip f e h
end
section
variable {PL : List D → OH → Prop}
def zipAtX : D → D → Option (List D)
  | .lst xs, .tup ys => some (zipD xs ys)
  | a, b => zipAt a b
theorem W_zipXa (f : SA) (e : Env') (h : OH) : (sZipX f e h).W PL = (f e h).W fun ds h1 => match ds with
  | [d, d2] => lkS (zipAtX d d2) fun xs => PL xs h1
  | _ => False := by
  unfold sZipX
  split
  · rename_i xs ys h1 q
    rw [q]
    rfl
  · rename_i no
    unfold sZip
    rw [W_bind]
    cases q : f e h with
    | bad => rfl
    | exc C p h1 => rfl
    | ok ds h1 =>
      simp only [W_ok]
      match ds, q with
      | [], _ => rfl
      | [_], _ => rfl
      | _ :: _ :: _ :: _, _ => rfl
      | [d, d2], q =>
        have e2 : zipAtX d d2 = zipAt d d2 := by
          unfold zipAtX
          split
          · exact absurd q (no _ _ _)
          · rfl
        simp only [e2]
        cases zipAt d d2 <;> rfl
@[simp] theorem W_zipX (f g : SE) (e : Env') (h : OH) : (sZipX (sCons f (sCons g sNil)) e h).W PL = (f e h).W fun d h1 => (g e h1).W fun d2 h2 => lkS (zipAtX d d2) fun xs => PL xs h2 := by
  rw [W_zipXa]; simp only [W_sCons, W_sNil]
@[simp] theorem zipAtX_lt (xs ys : List D) : zipAtX (.lst xs) (.tup ys) = some (zipD xs ys) := rfl
@[simp] theorem zipAtX_ll (xs ys : List D) : zipAtX (.lst xs) (.lst ys) = some (zipD xs ys) := rfl
end
end HR
set_option Elab.async false
set_option linter.all false
set_option maxRecDepth 20000
/-! a <= b < c -/
set_option Elab.async false
set_option linter.all false
set_option maxRecDepth 20000
set_option maxHeartbeats 1000000
/-! dict(pairs), the keys apart; d[k] -/
namespace HR
open PySem L2 RZ
def getK (ks : List (Key × D)) (k : Key) : Option D := (ks.find? fun kv => decide (kv.1 = k)).map (·.2)
def keyD : D → Option Key
  | .int i => some (.inl i)
  | .str x => some (.inr x)
  | _ => none
section
variable {K : PySem.W.Frag} {F : Hp} {m : List Addr}
theorem DenK.keys : ∀ {kvs : List (Key × V)} {ks : List (Key × D)} (r : DenK K F m kvs ks), kvs.map (·.1) = ks.map (·.1)
  | _, _, .nil => rfl
  | _, _, .cons h t => by simp [t.keys]
end
end HR
set_option Elab.async false
set_option linter.all false
set_option maxRecDepth 20000
/-! xs[lo:hi:step] of a list -/
namespace HR
open PySem PySem.Spec PyProof.Rows L2 RZ
def stepIx (n : Nat) (lo hi st : Option Int) : List Nat := sliceRange (sliceBounds lo hi st n).1 (sliceBounds lo hi st n).2.1 (sliceBounds lo hi st n).2.2
def pickA {α : Type} (xs : List α) (ix : List Nat) : List α := ix.filterMap (xs[·]?)
def stepD (xs : List D) (lo hi st : Option Int) : List D := pickA xs (stepIx xs.length lo hi st)
def stepV (xs : List V) (lo hi st : Option Int) : List V := pickA xs (stepIx xs.length lo hi st)
theorem pickA_cons_some {α : Type} {xs : List α} {i : Nat} {ix : List Nat} {x : α} (e : xs[i]? = some x) : pickA xs (i :: ix) = x :: pickA xs ix := by
  unfold pickA
  rw [List.filterMap_cons, e]
theorem pickA_cons_none {α : Type} {xs : List α} {i : Nat} {ix : List Nat} (e : xs[i]? = none) : pickA xs (i :: ix) = pickA xs ix := by
  unfold pickA
  rw [List.filterMap_cons, e]
theorem vals_pick {vs : List V} {us : List Value} (r : Vals vs us) : ∀ ix : List Nat, Vals (pickA vs ix) (pickA us ix)
  | [] => .nil
  | i :: ix => by
    cases e : vs[i]? with
    | none =>
      have e2 : us[i]? = none := by
        rw [List.getElem?_eq_none_iff] at e ⊢
        rw [← r.length]
        exact e
      rw [pickA_cons_none e, pickA_cons_none e2]
      exact vals_pick r ix
    | some v =>
      obtain ⟨u, hu, rv⟩ := r.get e
      rw [pickA_cons_some e, pickA_cons_some hu]
      exact .cons rv (vals_pick r ix)
theorem denL_get {K : PySem.W.Frag} {F : Hp} {m : List Addr} : ∀ {vs : List V} {ds : List D}, DenL K F m vs ds → ∀ {i : Nat} {v : V}, vs[i]? = some v → ∃ d, ds[i]? = some d ∧ Den K F m v d
  | _, _, .nil, i, v, e => by simp at e
  | _, _, .cons h t, 0, v, e => by
    simp at e
    subst e
    exact ⟨_, rfl, h⟩
  | _, _, .cons h t, i + 1, v, e => by
    obtain ⟨d, a, b⟩ := denL_get t (i := i) (v := v) (by simpa using e)
    exact ⟨d, by simpa using a, b⟩
theorem pick_den {K : PySem.W.Frag} {F : Hp} {m : List Addr} {vs : List V} {ds : List D} (r : DenL K F m vs ds) : ∀ ix : List Nat, DenL K F m (pickA vs ix) (pickA ds ix)
  | [] => .nil
  | i :: ix => by
    cases e : vs[i]? with
    | none =>
      have e2 : ds[i]? = none := by
        rw [List.getElem?_eq_none_iff] at e ⊢
        rw [← r.length]
        exact e
      rw [pickA_cons_none e, pickA_cons_none e2]
      exact pick_den r ix
    | some v =>
      obtain ⟨d, hd, rd⟩ := denL_get r e
      rw [pickA_cons_some e, pickA_cons_some hd]
      exact .cons rd (pick_den r ix)
theorem step_den {K : PySem.W.Frag} {F : Hp} {m : List Addr} {vs : List V} {ds : List D} (r : DenL K F m vs ds) (lo hi st : Option Int) : DenL K F m (stepV vs lo hi st) (stepD ds lo hi st) := by
  unfold stepV stepD
  rw [r.length]
  exact pick_den r _
theorem slicePick_step (its : List Value) (lo hi st : Option Int) : slicePick its.toArray lo hi st = (pickA its (stepIx its.length lo hi st)).toArray := by
  unfold slicePick pickA stepIx
  simp
theorem stepV_len (xs : List V) (lo hi st : Option Int) : (stepV xs lo hi st).length ≤ xs.length := by
  have := slicePick_size_le (xs.map fun _ => Value.none).toArray lo hi st
  rw [slicePick_step] at this
  have key : ∀ ix : List Nat, (pickA xs ix).length = (pickA (xs.map fun _ => Value.none) ix).length := by
    intro ix
    induction ix with
    | nil => rfl
    | cons i ix ih =>
      cases e : xs[i]? with
      | none => rw [pickA_cons_none e, pickA_cons_none (by simp [e]), ih]
      | some x => rw [pickA_cons_some e, pickA_cons_some (x := Value.none) (by simp [e]), List.length_cons, List.length_cons, ih]
  unfold stepV
  rw [key]
  simpa using this
def tSlS (K : PySem.W.Frag) (te : TE) (tl th ts : TO) : TE := fun σ H Q => te σ H fun x H1 => tl σ H1 fun l H2 => th σ H2 fun u H3 => ts σ H3 fun k H4 => k ≠ some 0 ∧ ∃ a xs, x = .ref a ∧ SqL K H4 a xs ∧ ∀ p, H4 p = none → Q (.ref p) (upd H4 p (.lst (stepV xs l u k)))
theorem pe_sliceS {X : Cx} {e st : Expr} {te : TE} {lo hi : Option Expr} {tl th ts : TO} {pos p2 : Pos} (he : PE X e te) (hl : PO X lo tl) (hu : PO X hi th) (hst : PO X (some st) ts) : PE X (.Subscript e (.Slice lo hi (some st) p2) pos) (tSlS X.K te tl th ts) := by
  refine ⟨fun pins s σ H Q I h => ?_⟩
  refine Subscript_ (thn (he.run pins s σ H _ I h) fun v s1 ⟨x, H1, I1, r1, q1⟩ => ?_)
  refine wpAny_Slice (thn (hl.run pins s1 σ H1 _ I1 q1) fun vl s2 ⟨l, H2, I2, pl, q2⟩ => thn (hu.run pins s2 σ H2 _ I2 q2) fun vu s3 ⟨u, H3, I3, pu, q3⟩ => thn (hst.run pins s3 σ H3 _ I3 q3) fun vk s4 ⟨k, H4, I4, pk, q4⟩ => ?_)
  obtain ⟨k0, a, xs, rfl, hx, q⟩ := q4
  cases r1
  have I5 : Inv X pins σ H4 { s4 with heap := s4.heap.push { cls := .type "slice", data := .fields #[vl, vu, vk] } } := I4.kept (t' := s4.toks) fun b ob q => Heap.get?_push_of_some _ q
  obtain ⟨its, r, ht, hz⟩ := I5.list hx
  have hlen := r.length
  show wpAny (model X.prog X.w) X.A (subscriptTail e (.Slice lo hi (some st) p2) (.ref a) (.ref s4.heap.objs.size)) (EP X pins σ Q) X.xe { s4 with heap := s4.heap.push { cls := .type "slice", data := .fields #[vl, vu, vk] } }
  refine tail_any (T := "list") (ops := [.ref a, .ref s4.heap.objs.size]) ht.isList.typeIs slot_list_getitem.lookup ?_ (by with_unfolding_all rfl)
  refine wpAny_getItem_list_slice ht.isList (Heap.IsSliceOf.new ..) pl pu pk k0 ?_ (by rw [List.size_toArray] <;> omega)
  rw [slicePick_step, ← hlen]
  refine ⟨.ref _, _, I5.laid (t' := s4.toks) (o := .lst (stepV xs l u k)) (fun b ob q => Heap.get?_push_of_some _ q) (Nat.le_refl _) ?_, rfl, q _ (I5.hok.fresh (Nat.le_refl _))⟩
  refine ⟨Nat.le_trans (stepV_len xs l u k) hz, _, 0, vals_pick r _, Heap.get?_push_size _ rfl⟩
def opCutS (own : Bool) (a : D) (lo hi st : Option Int) (h : OH) : Res D := if st = some 0 then .bad else match lsqAt h a with
  | some xs => if own then .ok (.ref h.length) (h ++ [.lst (stepD xs lo hi st)]) else .ok (.lst (stepD xs lo hi st)) h
  | none => .bad
def sCutS (own : Bool) (a : SE) (lo hi st : SO) : SE := fun e h => (a e h).bind fun x h1 => (lo e h1).bind fun l h2 => (hi e h2).bind fun u h3 => (st e h3).bind fun k h4 => opCutS own x l u k h4
section
variable {X : Cx} {W : WX}
theorem de_cutS {a st : Expr} {lo hi : Option Expr} {p2 pos : Pos} {fa : SE} {fl fu fk : SO} (own : Bool) (ha : DE X W a fa) (hl : DO X W lo fl) (hh : DO X W hi fu) (hk : DO X W (some st) fk) : DE X W (.Subscript a (.Slice lo hi (some st) p2) pos) (sCutS own fa fl fu fk) :=
  PE.of (pe_sliceS ha hl hh hk) fun σ H Q => by
    rintro ⟨P, F, m, e, h, S, E, fin⟩
    refine rd_seq S E fin fun F1 m1 h1 H1 x dx x1 S1 E1 r1 fin1 => ?_
    refine rd_seq S1 E1 fin1 fun F2 m2 h2 H2 l dl x2 S2 E2 r2 fin2 => ?_
    refine rd_seq S2 E2 fin2 fun F3 m3 h3 H3 u du x3 S3 E3 r3 fin3 => ?_
    refine rd_seq S3 E3 fin3 fun F4 m4 h4 H4 k dk x4 S4 E4 r4 fin4 => ?_
    have r2 : l = dl := r2
    have r3 : u = du := r3
    have r4 : k = dk := r4
    subst r2 r3 r4
    have r5 := r1.mono ((x2.trans x3).trans x4)
    unfold opCutS at fin4
    by_cases k0 : k = some 0
    · rw [if_pos k0] at fin4
      exact fin4.bad_elim
    · rw [if_neg k0] at fin4
      refine ⟨k0, ?_⟩
      cases q : lsqAt h4 dx with
      | some xs =>
        rw [q] at fin4
        obtain ⟨c, vs, rfl, hc, rc⟩ := lsqAt_ok S4 r5 q
        refine ⟨c, vs, rfl, hc, fun p hp => ?_⟩
        cases own with
        | true => exact FinG.ownL fin4 S4 (step_den rc l u k) hp
        | false => exact FinG.newL fin4 S4 (step_den rc l u k) hp
      | none =>
        rw [q] at fin4
        exact fin4.bad_elim
end
section
variable {PD : D → OH → Prop}
@[simp] theorem W_cutSL (own : Bool) (xs : List D) (lo hi : Option Int) (k : Int) (h : OH) : (opCutS own (.lst xs) lo hi (some k) h).W PD = if k = 0 then False else if own then PD (.ref h.length) (h ++ [.lst (stepD xs lo hi (some k))]) else PD (.lst (stepD xs lo hi (some k))) h := by
  unfold opCutS
  by_cases k0 : k = 0
  · simp [k0]
  · simp [k0, lsqAt, seqAt]
end
end HR
set_option Elab.async false
set_option linter.all false
set_option maxRecDepth 20000
/-! str(i), int(text), xs.index(x), x in xs for deep values -/
namespace HR
open PySem L2 RZ
/-- the digits of an int -/
def strI (i : Int) : Str := toString i
def opStrI : D → OH → Res D := fun d h => match d with
  | .int i => if i.natAbs.log2 < 1920 then .ok (.str (strI i)) h else .bad
  | _ => .bad
def opIntT : D → OH → Res D := fun d h => match d with
  | .str x => (match PySem.intText? x with
    | some n => if x.length ≤ 640 then .ok (.int n) h else .bad
    | none => .bad)
  | _ => .bad
def opInD (neg : Bool) : D → D → OH → Res D := fun a b h => match pyAt h a, pyAt h b with
  | some d, some (.list ds) => if SeqAt.shaped d && SeqAt.shaped (.list ds) then .ok (.bl (if neg then !ds.any fun z => PyData.eqv z d else ds.any fun z => PyData.eqv z d)) h else .bad
  | _, _ => .bad
/-- the first place of a flat value -/
def idxV (x : V) : List V → Option Nat
  | [] => none
  | y :: ys => if eqV y x then some 0 else (idxV x ys).map (· + 1)
theorem idxV_ok {x : V} : ∀ {ys : List V} {j : Nat}, idxV x ys = some j → ∃ z, ys[j]? = some z ∧ eqV z x = true ∧ ∀ (m : Nat) z', m < j → ys[m]? = some z' → eqV z' x = false
  | [], j, h => by cases h
  | y :: ys, j, h => by
    unfold idxV at h
    by_cases e : eqV y x = true
    · rw [if_pos e] at h
      cases h
      exact ⟨y, rfl, e, fun m z' hm => by omega⟩
    · rw [if_neg e, Option.map_eq_some_iff] at h
      obtain ⟨k, hk, rfl⟩ := h
      obtain ⟨z, h1, h2, h3⟩ := idxV_ok hk
      refine ⟨z, by simpa using h1, h2, fun m z' hm hz => ?_⟩
      cases m with
      | zero =>
        simp at hz
        subst hz
        simpa using e
      | succ m => exact h3 m z' (by omega) (by simpa using hz)
def opIdx : D → D → OH → Res D := fun a b h => match (lsqAt h a).bind flatsD, flatD b with
  | some xs, some x => if flatV x && xs.all flatV then (match idxV x xs with
    | some j => .ok (.int (j : Nat)) h
    | none => .bad) else .bad
  | _, _ => .bad
def sIdx (o : SE) (a : SA) : SE := fun e h => (o e h).bind fun x h1 => if (lsqAt h1 x).isSome then (a e h1).bind fun ys h2 => (match ys with
  | [y] => opIdx x y h2
  | _ => .bad) else .bad
section
variable {X : Cx} {W : WX}
theorem bStrI_h : ClH X.K W (b1 opStrI) (fun xs H Q => ∃ i, xs = [.int i] ∧ i.natAbs.log2 < 1920 ∧ Q (.str (toString i)) H) := by
  intro P F m h H σ Q vs ds S r fin
  obtain ⟨v, d, rfl, r1, fin⟩ := b1_inv r fin
  unfold opStrI at fin
  cases d with
  | int i =>
    cases r1
    dsimp only at fin
    by_cases hz : i.natAbs.log2 < 1920
    · rw [if_pos hz] at fin
      exact ⟨i, rfl, hz, fin.ok S (.str _)⟩
    · rw [if_neg hz] at fin
      exact fin.bad_elim
  | _ => exact fin.bad_elim
theorem bIntT_h : ClH X.K W (b1 opIntT) (fun xs H Q => ∃ a n, xs = [.str a] ∧ PySem.intText? a = some n ∧ a.length ≤ 640 ∧ Q (.int n) H) := by
  intro P F m h H σ Q vs ds S r fin
  obtain ⟨v, d, rfl, r1, fin⟩ := b1_inv r fin
  unfold opIntT at fin
  cases d with
  | str x =>
    cases r1
    dsimp only at fin
    cases e : PySem.intText? x with
    | none => rw [e] at fin; exact fin.bad_elim
    | some n =>
      rw [e] at fin
      dsimp only at fin
      by_cases hz : x.length ≤ 640
      · rw [if_pos hz] at fin
        exact ⟨x, n, rfl, e, hz, fin.ok S (.int _)⟩
      · rw [if_neg hz] at fin
        exact fin.bad_elim
  | _ => exact fin.bad_elim
theorem de_strI {p pos : Pos} {a : Expr} {fa : SE} (hx : Gl X "str") (hm : X.mg "str" = none) (ha : DE X W a fa) (he : starEach [a] X.env = (false, eval a X.env) :: starEach [] X.env := by rfl) : DE X W (.Call (.Name "str" p) [a] [] pos) (sCall (b1 opStrI) (sCons fa sNil)) :=
  de_bty call_str_int bStrI_h hx hm (by decide +kernel) (da_cons ha da_nil he) (he := he)
theorem de_intT {p pos : Pos} {a : Expr} {fa : SE} (hx : Gl X "int") (hm : X.mg "int" = none) (ha : DE X W a fa) (he : starEach [a] X.env = (false, eval a X.env) :: starEach [] X.env := by rfl) : DE X W (.Call (.Name "int" p) [a] [] pos) (sCall (b1 opIntT) (sCons fa sNil)) :=
  de_bty call_int_str bIntT_h hx hm (by decide +kernel) (da_cons ha da_nil he) (he := he)
theorem opInD_h (neg : Bool) : OpH X.K W (opInD neg) (if neg then rNotInD X.K else rInD X.K) := by
  intro P F m h H σ Q x y dx dy S r1 r2 fin
  dsimp only [opInD] at fin
  cases e1 : pyAt h dx with
  | none => rw [e1] at fin; exact fin.bad_elim
  | some p =>
    cases e2 : pyAt h dy with
    | none => rw [e1, e2] at fin; exact fin.bad_elim
    | some q =>
      rw [e1, e2] at fin
      cases q with
      | list ds =>
        dsimp only at fin
        by_cases hs : (SeqAt.shaped p && SeqAt.shaped (.list ds)) = true
        · rw [if_pos hs] at fin
          obtain ⟨s1, s2⟩ := and2 hs
          cases neg with
          | true => exact ⟨p, ds, pyAt_ok S r1 e1, pyAt_ok S r2 e2, s1, s2, fin.ok S (.bl _)⟩
          | false => exact ⟨p, ds, pyAt_ok S r1 e1, pyAt_ok S r2 e2, s1, s2, fin.ok S (.bl _)⟩
        · rw [if_neg hs] at fin
          exact fin.bad_elim
      | _ => exact fin.bad_elim
theorem dt_inD {a b : Expr} {pos : Pos} {fa fb : SE} (hu : X.A.units + 64 + 1 < cLine) (ha : DE X W a fa) (hb : DE X W b fb) (hm : behindInMarks .In b = false := by rfl) : DT X W (.Compare a [.In] [b] pos) (sTest (sBin (opInD false) fa fb)) := dt_cmp (op_inD hu) (opInD_h false) hm ha hb
theorem de_index {o a : Expr} {fo fa : SE} {apos cpos : Pos} (ho : DE X W o fo) (ha : DE X W a fa) (hbase : attributeBase o "index" X.env (eval o X.env) = eval o X.env := by rfl)
    (hfew : ((backTo cpos (starEach [a] X.env)).all (fun x => !x.1) && (backToKw cpos (keywordEach [] X.env)).all (fun x => x.1.isSome) && decide (([a] : List Expr).length + ([] : List Keyword).length + (if ([] : List Keyword).isEmpty then 0 else 1) < 30)) = true := by rfl)
    (hline : (apos.endLine == cpos.line) = true := by rfl) (hs : starEach [a] X.env = (false, eval a X.env) :: starEach [] X.env := by rfl) (hplain : (backTo cpos (starEach [] X.env)).any (·.1) = false := by rfl) : DE X W (.Call (.Attribute o "index" apos) [a] [] cpos) (sIdx fo (sCons fa sNil)) :=
  PE.of (pe_bm PySem.F.plainAttrs_list PySem.F.slot_list_index PySem.F.type_list_index mt_index ho (da_cons ha da_nil hs) hbase hfew hline hs hplain) fun σ H Q => by
    rintro ⟨P, F, m, e, h, S, E, fin⟩
    refine rd_seq S E fin fun F1 m1 h1 H1 x dx x1 S1 E1 r1 fin1 => ?_
    by_cases hi : (lsqAt h1 dx).isSome = true
    · rw [if_pos hi] at fin1
      obtain ⟨xs, q⟩ := Option.isSome_iff_exists.mp hi
      obtain ⟨c, vs, rfl, hc, rc⟩ := lsqAt_ok S1 r1 q
      refine ⟨.inl ⟨rfl, vs, hc⟩, rd_seq S1 E1 fin1 fun F2 m2 h2 H2 ws ys x2 S2 E2 r2 fin2 => ?_⟩
      have r3 := r1.mono x2
      cases r2 with
      | nil => exact fin2.bad_elim
      | cons ra rr =>
        cases rr with
        | cons _ _ => exact fin2.bad_elim
        | nil =>
          dsimp only at fin2
          unfold opIdx at fin2
          cases q1 : lsqAt h2 dx with
          | none => rw [q1] at fin2; exact fin2.bad_elim
          | some ys =>
            rw [q1, Option.bind_some] at fin2
            cases q2 : flatsD ys with
            | none => rw [q2] at fin2; exact fin2.bad_elim
            | some zs =>
              rw [q2] at fin2
              rename_i vy dy
              cases q3 : flatD dy with
              | none => rw [q3] at fin2; exact fin2.bad_elim
              | some y =>
                rw [q3] at fin2
                dsimp only at fin2
                obtain ⟨c2, us, ec, hc2, rl⟩ := lsqAt_ok S2 r3 q1
                cases ec
                by_cases hz : (flatV y && zs.all flatV) = true
                · rw [if_pos hz] at fin2
                  obtain ⟨z1, z2⟩ := and2 hz
                  obtain rfl := flatD_ok ra q3
                  obtain rfl := flatsD_ok rl q2
                  cases q4 : idxV vy us with
                  | none => rw [q4] at fin2; exact fin2.bad_elim
                  | some j =>
                    rw [q4] at fin2
                    obtain ⟨z, j1, j2, j3⟩ := idxV_ok q4
                    exact ⟨c, us, vy, j, z, rfl, rfl, hc2, z1, z2, j1, j2, j3, fin2.ok S2 (.int _)⟩
                · rw [if_neg hz] at fin2
                  exact fin2.bad_elim
    · rw [if_neg hi] at fin1
      exact fin1.bad_elim
end
section
variable {PD : D → OH → Prop}
theorem W_strI {i : Int} (b : i.natAbs.log2 < 1920) (h : OH) : (opStrI (.int i) h).W PD = PD (.str (strI i)) h := by
  unfold opStrI
  dsimp only
  rw [if_pos b]
  rfl
theorem W_intT {x : Str} {n : Int} (e : PySem.intText? x = some n) (l : x.length ≤ 640) (h : OH) : (opIntT (.str x) h).W PD = PD (.int n) h := by
  unfold opIntT
  dsimp only
  rw [e]
  dsimp only
  rw [if_pos l]
  rfl
end
end HR
set_option Elab.async false
set_option linter.all false
set_option maxRecDepth 20000
set_option maxHeartbeats 1000000
/-! own dicts whose keys are ints and texts: a comprehension, d[k] = v, d[k] -/
namespace HR
open PySem L2 RZ
def putD (ks : List (Key × D)) (k : Key) (d : D) : List (Key × D) := if (ks.any fun kv => decide (kv.1 = k)) = true then ks.map (fun kv => if kv.1 = k then (kv.1, d) else kv) else ks ++ [(k, d)]
def dctAt (h : OH) : D → Option (List (Key × D))
  | .dct ks => some ks
  | .ref i => (match h[i]? with
    | some (.dct ks) => some ks
    | _ => none)
  | _ => none
def sIxK (o i v : SE) : SS := fun e h => (v e h).toS e fun y h1 => (o e h1).toS e fun x h2 => (i e h2).toS e fun k h3 => match x, keyD k with
  | .ref n, some q => (match h3[n]? with
    | some (.dct ks) => if ks.length < big then .nx e (h3.set n (.dct (putD ks q y))) else .bad
    | _ => .bad)
  | _, _ => .bad
def dcGo (g : TF) (tt : ST) (kx vx : SE) (e : Env') : List D → OH → List (Key × D) → Res (List (Key × D))
  | [], h, acc => .ok acc h
  | d :: ds, h, acc => match g d e h with
    | none => .bad
    | some e1 => (tt e1 h).noX.bind fun b h1 => if b then (kx e1 h1).noX.bind fun y h2 => (vx e1 h2).noX.bind fun z h3 => (match keyD y with
        | some k => if acc.length < big then dcGo g tt kx vx e ds h3 (putD acc k z) else .bad
        | none => .bad) else dcGo g tt kx vx e ds h1 acc
def sDcO (it : SA) (g : TF) (tt : ST) (kx vx : SE) (vs : List Nat) : SE := fun e h => (it e h).bind fun ds h1 => (dcGo g tt kx vx (wipeD e vs) ds h1 []).bind fun acc h2 => .ok (.ref h2.length) (h2 ++ [.dct acc])
def sDctO : SE := fun _ h => .ok (.ref h.length) (h ++ [.dct []])
section
variable {K : PySem.W.Frag} {P : Pins} {F : Hp} {m : List Addr} {h : OH} {H : Hp}
theorem DenK.length {kvs : List (Key × V)} {ks : List (Key × D)} (r : DenK K F m kvs ks) : kvs.length = ks.length := by
  have := congrArg List.length r.keys
  simpa using this
end
section
variable {PD : D → OH → Prop} {N C B : Env' → OH → Prop} {R : D → OH → Prop}
def lkD (o : Option OO) (P : List (Key × D) → Prop) : Prop := match o with
  | some (.dct ks) => P ks
  | _ => False
@[simp] theorem lkD_dct (ks : List (Key × D)) (P : List (Key × D) → Prop) : lkD (some (.dct ks)) P = P ks := rfl
@[simp] theorem SW_ixK (o i v : SE) (e : Env') (h : OH) : (sIxK o i v e h).W N C B R = (v e h).W fun y h1 => (o e h1).W fun x h2 => (i e h2).W fun k h3 => isR x fun n => lkS (keyD k) fun q => lkD h3[n]? fun ks => if ks.length < big then N e (h3.set n (.dct (putD ks q y))) else False := by
  unfold sIxK
  simp only [W_toS]
  congr; funext y h1; congr; funext x h2; congr; funext k h3
  cases x with
  | ref n =>
    simp only [isR_ref]
    cases keyD k with
    | none => rfl
    | some q =>
      simp only [lkS_some]
      cases h3[n]? with
      | none => rfl
      | some ob => cases ob <;> first | rfl | (simp only [lkD_dct]; split <;> rfl)
  | _ => rfl
@[simp] theorem dctAt_dct (h : OH) (ks : List (Key × D)) : dctAt h (.dct ks) = some ks := rfl
@[simp] theorem keyD_int (i : Int) : keyD (.int i) = some (.inl i) := rfl
@[simp] theorem keyD_str (x : Str) : keyD (.str x) = some (.inr x) := rfl
@[simp] theorem W_dctO (e : Env') (h : OH) : (sDctO e h).W PD = PD (.ref h.length) (h ++ [.dct []]) := rfl
@[simp] theorem W_dcO (it : SA) (g : TF) (tt : ST) (kx vx : SE) (vs : List Nat) (e : Env') (h : OH) : (sDcO it g tt kx vx vs e h).W PD = (it e h).W fun ds h1 => (dcGo g tt kx vx (wipeD e vs) ds h1 []).W fun acc h2 => PD (.ref h2.length) (h2 ++ [.dct acc]) := by
  unfold sDcO
  simp only [W_bind, W_ok]
end
end HR
set_option Elab.async false
set_option linter.all false
set_option maxRecDepth 20000
set_option maxHeartbeats 1000000
/-! == of instances whose class has no __eq__ of its own; an except suite of any form -/
namespace HR
open PySem L2 RZ PySem.Spec PyProof.Rows
/-! ### x == y, x an instance, y of the same class or None -/
def eqcOk (K : PySem.W.Frag) (es : List String) : Bool := es.all fun C => decide (PySem.W.mroIn K (He.ga K (Str.ofString C)) (.type "object") = some true) && decide (PySem.W.findIn K (.ref (He.ga K (Str.ofString C))) "__eq__" = some (some (.builtin "object.__eq__")))
/-! ### facts of the head -/
def SaysE (fa : List He.Fa) (fn : List He.DefD) (xs ys es : List String) (K : PySem.W.Frag) : Prop := SaysX fa fn xs ys K ∧ eqcOk K es = true
section
variable {fa : List He.Fa} {fn : List He.DefD} {xs ys es : List String} {K : PySem.W.Frag}
theorem SaysE.fact (c : SaysE fa fn xs ys es K) (i : Nat) {f : He.Fa} (h : fa[i]? = some f := by rfl) : f.ok K = true := c.1.fact i h
theorem SaysE.def_ (c : SaysE fa fn xs ys es K) (i : Nat) {d : He.DefD} (h : fn[i]? = some d := by rfl) : ∃ fd, FunD K d.name d.qual d.params d.body d.scope (d.dvs K) (d.kws K) (He.fAd K d.at_) fd := c.1.def_ i h
theorem SaysE.xf (c : SaysE fa fn xs ys es K) : XF K xs ys := c.1.xf
theorem SaysE.sm (c : SaysE fa fn xs ys es K) : modOk K = true := c.1.sm
theorem SaysE.eq (c : SaysE fa fn xs ys es K) : eqcOk K es = true := c.2
end
/-! ### try: .. except X as n: a suite that reads n -/
def endS (i : Nat) (Dn : Ends) : Ends := { nx := fun σ H => Dn.nx (σ.set i none) H, rt := Dn.rt, bk := fun σ H => Dn.bk (σ.set i none) H, ct := fun σ H => Dn.ct (σ.set i none) H }
theorem inv_unpin {X : Cx} {a : Addr} {q : Addr × Obj} {l : List (Addr × Obj)} {σ : L2.St} {H : Hp} {s : Shared} (okX : X.Ok) (I : Inv (X.suite a (q :: l)) [] σ H s) : Inv (X.suite a l) [] σ H s :=
  ⟨okX.suite _ _, I.os, I.bare, I.base, I.loc, I.cell, I.free, I.freeC, fun p hp => I.pin p (by
    rw [List.append_nil] at hp ⊢
    exact List.mem_cons_of_mem _ hp), I.hok, I.len⟩
theorem inv_leaveS {X : Cx} {a : Addr} {pn0 pn' : List (Addr × Obj)} {σ : L2.St} {H : Hp} {s : Shared} (okX : X.Ok) (I : Inv (X.suite a (X.pn ++ pn0)) pn' σ H s) : Inv X pn0 σ H s :=
  ⟨okX, I.os, I.bare, I.base, I.loc, I.cell, I.free, I.freeC, fun p hp => I.pin p (List.mem_append_left _ hp), I.hok, I.len⟩
end HR
set_option Elab.async false
set_option linter.all false
set_option maxRecDepth 20000
set_option maxHeartbeats 1000000
/-! extend of own lists -/
namespace HR
open PySem L2 RZ PySem.Spec PyProof.Rows
section
variable {X : Cx} {W : WX}
def gExtend (i : Nat) (xs ys : List D) (h : OH) : Res D := match ys with
  | [d] => (match lstAt h d with
    | some zs => if xs.length + zs.length ≤ big then .ok .non (h.set i (.lst (xs ++ zs))) else .bad
    | none => .bad)
  | _ => .bad
end
section
variable {PD : D → OH → Prop}
@[simp] theorem W_extend (i : Nat) (xs : List D) (y : D) (h : OH) : (gExtend i xs [y] h).W PD = lkS (lstAt h y) fun zs => if xs.length + zs.length ≤ 1000000 then PD .non (h.set i (.lst (xs ++ zs))) else False := by
  unfold gExtend
  dsimp only
  rcases lstAt h y with _ | zs
  · rfl
  · simp only [lkS_some, big]
    split <;> rfl
end
end HR
set_option Elab.async false
set_option linter.all false
set_option maxRecDepth 20000
set_option maxHeartbeats 1000000
/-! own dicts with text keys: a display, update, two items set at once; remove of texts -/
namespace HR
open PySem L2 RZ PySem.Spec PyProof.Rows
/-! ### a display -/
def sPrs : List (Str × SE) → Env' → OH → Res (List (Key × D))
  | [], _, h => .ok [] h
  | kf :: r, e, h => (kf.2 e h).bind fun d h1 => (sPrs r e h1).bind fun ps h2 => .ok ((.inr kf.1, d) :: ps) h2
def sDispO (fs : List (Str × SE)) : SE := fun e h => (sPrs fs e h).bind fun ps h1 => if (ps.map (·.1)).Nodup ∧ ps.length ≤ 15 then .ok (.ref h1.length) (h1 ++ [.dct ps]) else .bad
section
variable {X : Cx} {W : WX}
/-! ### update -/
def mergeD (ks more : List (Key × D)) : List (Key × D) := more.foldl (fun acc kd => putD acc kd.1 kd.2) ks
def isOwnD (h : OH) : D → Bool
  | .ref i => (match h[i]? with
    | some (.dct _) => true
    | _ => false)
  | _ => false
def sUpd (fo : SE) (fa : SA) : SE := fun e h => (fo e h).bind fun x h1 => if isOwnD h1 x then (fa e h1).bind fun ys h2 => (match x, ys with
  | .ref i, [.ref j] => if i ≠ j then (match h2[i]?, h2[j]? with
    | some (.dct ks), some (.dct more) => if ks.length + more.length ≤ big then .ok .non (h2.set i (.dct (mergeD ks more))) else .bad
    | _, _ => .bad) else .bad
  | _, _ => .bad) else .bad
/-! ### two items set at once -/
def putC (o i : SE) (y : D) (k : SS) : SS := fun e h => (o e h).toS e fun x h2 => (i e h2).toS e fun kk h3 => match x, keyD kk with
  | .ref n, some q => (match h3[n]? with
    | some (.dct ks) => if ks.length < big then k e (h3.set n (.dct (putD ks q y))) else .bad
    | _ => .bad)
  | _, _ => .bad
def sSub2 (o1 i1 o2 i2 v : SE) : SS := fun e h => (v e h).toS e fun y h1 => match y with
  | .tup [y1, y2] => putC o1 i1 y1 (putC o2 i2 y2 fun e h => .nx e h) e h1
  | _ => .bad
/-! ### remove of texts -/
end
section
variable {PD : D → OH → Prop} {N C B : Env' → OH → Prop} {R : D → OH → Prop}
@[simp] theorem W_dispO (fs : List (Str × SE)) (e : Env') (h : OH) : (sDispO fs e h).W PD = (sPrs fs e h).W fun ps h1 => if (ps.map (·.1)).Nodup ∧ ps.length ≤ 15 then PD (.ref h1.length) (h1 ++ [.dct ps]) else False := by
  unfold sDispO
  simp only [W_bind]
  congr; funext ps h1
  split <;> rfl
@[simp] theorem W_prs0 (e : Env') (h : OH) {Q : List (Key × D) → OH → Prop} : (sPrs [] e h).W Q = Q [] h := rfl
@[simp] theorem W_prs (x : Str) (f : SE) (r : List (Str × SE)) (e : Env') (h : OH) {Q : List (Key × D) → OH → Prop} : (sPrs ((x, f) :: r) e h).W Q = (f e h).W fun d h1 => (sPrs r e h1).W fun ps h2 => Q ((.inr x, d) :: ps) h2 := by
  simp only [sPrs, W_bind, W_ok]
@[simp] theorem W_upd (fo : SE) (fa : SA) (e : Env') (h : OH) : (sUpd fo fa e h).W PD = (fo e h).W fun x h1 => if isOwnD h1 x = true then (fa e h1).W fun ys h2 => (match x, ys with
  | .ref i, [.ref j] => if i ≠ j then lkD h2[i]? fun ks => lkD h2[j]? fun more => if ks.length + more.length ≤ 1000000 then PD .non (h2.set i (.dct (mergeD ks more))) else False else False
  | _, _ => False) else False := by
  unfold sUpd
  simp only [W_bind]
  congr; funext x h1
  split
  · simp only [W_bind]
    congr; funext ys h2
    split
    · split
      · rename_i i j _ _
        cases h2[i]? with
        | none => rfl
        | some o1 =>
          cases o1 with
          | dct ks =>
            cases h2[j]? with
            | none => rfl
            | some o2 =>
              cases o2 with
              | dct more =>
                simp only [lkD_dct, big]
                split <;> rfl
              | _ => rfl
          | _ => rfl
      · rfl
    · rfl
  · rfl
@[simp] theorem SW_putC (o i : SE) (y : D) (k : SS) (e : Env') (h : OH) : (putC o i y k e h).W N C B R = (o e h).W fun x h2 => (i e h2).W fun kk h3 => isR x fun n => lkS (keyD kk) fun q => lkD h3[n]? fun ks => if ks.length < 1000000 then (k e (h3.set n (.dct (putD ks q y)))).W N C B R else False := by
  unfold putC
  simp only [W_toS]
  congr; funext x h2; congr; funext kk h3
  cases x with
  | ref n =>
    simp only [isR_ref]
    cases keyD kk with
    | none => rfl
    | some q =>
      simp only [lkS_some]
      cases h3[n]? with
      | none => rfl
      | some ob => cases ob <;> first | rfl | (simp only [lkD_dct, big]; split <;> rfl)
  | _ => rfl
@[simp] theorem SW_sub2 (o1 i1 o2 i2 v : SE) (e : Env') (h : OH) : (sSub2 o1 i1 o2 i2 v e h).W N C B R = (v e h).W fun y h1 => match y with
  | .tup [y1, y2] => (putC o1 i1 y1 (putC o2 i2 y2 fun e h => .nx e h) e h1).W N C B R
  | _ => False := by
  unfold sSub2
  simp only [W_toS]
  congr; funext y h1
  split <;> rfl
end
end HR
set_option Elab.async false
set_option linter.all false
set_option maxRecDepth 20000
set_option maxHeartbeats 1000000
/-! lending, with an answer of new own lists: the answer is read as a frozen tree -/
set_option Elab.async false
set_option linter.all false
set_option maxRecDepth 100000
set_option maxHeartbeats 1000000
/-! enumerate of a tuple -/
namespace HR
open PySem L2 RZ PySem.Spec PyProof.Rows
open PySem.Sem (wp)
/-- enumerate of a list or a tuple -/
def sEnumX (f : SA) : SA := fun e h => match f e h with
  | .ok [.tup xs] h1 => .ok (enumD xs) h1
  | _ => sEnum f e h
section
variable {PL : List D → OH → Prop}
def enumAtX : D → Option (List D)
  | .tup xs => some (enumD xs)
  | d => (frzAt d).map enumD
@[simp] theorem W_enumX (f : SE) (e : Env') (h : OH) : (sEnumX (sCons f sNil) e h).W PL = (f e h).W fun d h1 => lkS (enumAtX d) fun xs => PL xs h1 := by
  unfold sEnumX
  split
  · rename_i xs h1 q
    cases qf : f e h with
    | bad => simp [sCons, qf] at q
    | exc C p h2 => simp [sCons, qf] at q
    | ok d h2 =>
      simp [sCons, qf, sNil] at q
      obtain ⟨rfl, rfl⟩ := q
      rfl
  · rename_i no
    rw [W_enum]
    cases qf : f e h with
    | bad => rfl
    | exc C p h2 => rfl
    | ok d h2 =>
      simp only [W_ok]
      have e2 : enumAtX d = (frzAt d).map enumD := by
        unfold enumAtX
        split
        · rename_i xs
          exact absurd (by simp [sCons, qf, sNil] : sCons f sNil e h = .ok [.tup xs] h2) (no xs h2)
        · rfl
      rw [e2]
      cases frzAt d <;> rfl
@[simp] theorem enumAtX_t (xs : List D) : enumAtX (.tup xs) = some (enumD xs) := rfl
@[simp] theorem enumAtX_l (xs : List D) : enumAtX (.lst xs) = some (enumD xs) := rfl
end
end HR
set_option Elab.async false
set_option linter.all false
set_option maxRecDepth 20000
set_option maxHeartbeats 1000000
/-! a def that reads no own objects and answers new ones: run on an empty heap -/
namespace HR
open PySem L2 RZ
mutual
def shD (n : Nat) : D → D
  | .non => .non
  | .bl b => .bl b
  | .int i => .int i
  | .str x => .str x
  | .lst xs => .lst (shL n xs)
  | .tup xs => .tup (shL n xs)
  | .dct ks => .dct (shK n ks)
  | .obj C fs => .obj C (shF n fs)
  | .ref i => .ref (n + i)
  | .scr xs => .scr (shL n xs)
  | .exc C => .exc C
  | .excf C f d => .excf C f (shD n d)
def shL (n : Nat) : List D → List D
  | [] => []
  | d :: ds => shD n d :: shL n ds
def shK (n : Nat) : List (Key × D) → List (Key × D)
  | [] => []
  | (k, d) :: ks => (k, shD n d) :: shK n ks
def shF (n : Nat) : List (String × D) → List (String × D)
  | [] => []
  | (f, d) :: fs => (f, shD n d) :: shF n fs
end
def shO (n : Nat) : OO → OO
  | .lst xs => .lst (shL n xs)
  | .ins C fs => .ins C (shF n fs)
  | .dct ks => .dct (shK n ks)
  | .dead => .dead
def aliveO : OO → Bool
  | .dead => false
  | _ => true
section
variable {K : PySem.W.Frag} {F : Hp} {m m1 : List Addr}
theorem shF_names (n : Nat) : ∀ (fs : List (String × D)) (P : String → Prop), (∀ q ∈ fs, P q.1) → ∀ q ∈ shF n fs, P q.1
  | [], _, _, q, hq => by simp [shF] at hq
  | (f, d) :: fs, P, h, q, hq => by
    simp only [shF, List.mem_cons] at hq
    rcases hq with rfl | hq
    · exact h (f, d) List.mem_cons_self
    · exact shF_names n fs P (fun q hq => h q (List.mem_cons_of_mem _ hq)) q hq
theorem ObT.sh {C : String} {fs : List (String × D)} (n : Nat) (t : ObT K C fs) : ObT K C (shF n fs) := ⟨t.1, shF_names n fs (fun x => NoAttr K (He.ga K (Str.ofString C)) (Str.ofString x)) t.2⟩
theorem Den.sh {v : V} {d : D} (r : Den K F m1 v d) : Den K F (m ++ m1) v (shD m.length d) :=
  Den.rec (motive_1 := fun v d _ => Den K F (m ++ m1) v (shD m.length d)) (motive_2 := fun vs ds _ => DenL K F (m ++ m1) vs (shL m.length ds)) (motive_3 := fun vs ds _ => DenK K F (m ++ m1) vs (shK m.length ds)) (motive_4 := fun vs ds _ => DenF K F (m ++ m1) vs (shF m.length ds))
    .non .bl .int .str (fun q _ r => .lst q r) (fun q _ r => .scr q r) (fun q _ r => .tup q r) (fun q _ r => .dct q r) (fun q t _ r => .obj q (t.sh _) r)
    (fun {a i} q => .ref (by rw [List.getElem?_append_right (Nat.le_add_right _ _), Nat.add_sub_cancel_left]; exact q)) (fun q => .exc q) (fun q q2 _ r => .excf q q2 r)
    .nil (fun _ _ a b => .cons a b) .nil (fun _ _ a b => .cons a b) .nil (fun _ _ a b => .cons a b) r
theorem DenL.sh : ∀ {vs : List V} {ds : List D}, DenL K F m1 vs ds → DenL K F (m ++ m1) vs (shL m.length ds)
  | _, _, .nil => .nil
  | _, _, .cons a b => .cons a.sh b.sh
theorem DenK.sh : ∀ {vs : List (Key × V)} {ds : List (Key × D)}, DenK K F m1 vs ds → DenK K F (m ++ m1) vs (shK m.length ds)
  | _, _, .nil => .nil
  | _, _, .cons a b => .cons a.sh b.sh
theorem DenF.sh : ∀ {vs : List (Str × V)} {ds : List (String × D)}, DenF K F m1 vs ds → DenF K F (m ++ m1) vs (shF m.length ds)
  | _, _, .nil => .nil
  | _, _, .cons a b => .cons a.sh b.sh
theorem OOk.sh {H : Hp} {a : Addr} {o : OO} (ok : OOk K F m1 H a o) : OOk K F (m ++ m1) H a (shO m.length o) := by
  cases o with
  | lst xs =>
    obtain ⟨vs, h1, h2, h3⟩ := ok
    exact ⟨vs, h1, h2.sh, h3⟩
  | ins C fs =>
    obtain ⟨dx, fv, h1, h2, h3, h4⟩ := ok
    exact ⟨dx, fv, h1, h2.sh _, h3.sh, h4⟩
  | dct ks =>
    obtain ⟨kv, h1, h2, h3⟩ := ok
    exact ⟨kv, h1, h2.sh, h3⟩
  | dead => trivial
theorem OOk.none_ {H : Hp} {a : Addr} {o : OO} (ok : OOk K F m1 H a o) (al : aliveO o = true) : F a = none := by
  cases o with
  | lst xs => obtain ⟨vs, h1, h2, h3⟩ := ok; exact h3
  | ins C fs => obtain ⟨dx, fv, h1, h2, h3, h4⟩ := ok; exact h4
  | dct ks => obtain ⟨kv, h1, h2, h3⟩ := ok; exact h3
  | dead => cases al
end
section
variable {K : PySem.W.Frag} {P : Pins} {F : Hp} {m : List Addr} {h : OH} {H : Hp}
theorem Sim.join {F' : Hp} {m1 : List Addr} {h1 : OH} {H' : Hp} (S : Sim K P F m h H) (s : Same F F') (S' : Sim K (hidP F m H ++ P) F' m1 h1 H') (al : h1.all aliveO = true) : Sim K P F' (m ++ m1) (h ++ h1.map (shO h.length)) H' := by
  have U := S.unhide s S'
  have dis : ∀ a, a ∈ m → a ∉ m1 := fun a ha hb => by
    cases e : F a with
    | none =>
      obtain ⟨o, q⟩ := S.live a ha
      exact (S'.pin (a, o) (List.mem_append_left _ (mem_hidP.mpr ⟨ha, e, q⟩))).2.2 hb
    | some o =>
      obtain ⟨i, hi, ei⟩ := List.mem_iff_getElem.mp hb
      have e1 : m1[i]? = some a := by rw [List.getElem?_eq_getElem hi, ei]
      have hi2 : i < h1.length := by rw [← S'.len]; exact hi
      have e2 : h1[i]? = some h1[i] := List.getElem?_eq_getElem hi2
      have z := (S'.at_ i a _ e1 e2).none_ (List.all_eq_true.mp al _ (List.getElem_mem hi2))
      rw [s a o e] at z
      cases z
  refine ⟨S'.sub, by simp [S.len, S'.len], List.nodup_append.mpr ⟨S.nd, S'.nd, fun a ha b hb z => dis a ha (z ▸ hb)⟩, fun a ha => ?_, fun i a o e1 e2 => ?_, fun p hp => ?_, S.pnd⟩
  · rcases List.mem_append.mp ha with ha | ha
    · exact U.live a ha
    · exact S'.live a ha
  · by_cases hi : i < m.length
    · rw [List.getElem?_append_left hi] at e1
      rw [List.getElem?_append_left (by rw [← S.len]; exact hi)] at e2
      exact (U.at_ i a o e1 e2).mono ⟨fun _ _ q => q, List.prefix_append _ _⟩ rfl id
    · have hi : m.length ≤ i := Nat.le_of_not_lt hi
      rw [List.getElem?_append_right hi] at e1
      rw [List.getElem?_append_right (by rw [← S.len]; exact hi), List.getElem?_map, Option.map_eq_some_iff] at e2
      obtain ⟨o1, q1, rfl⟩ := e2
      rw [← S.len] at q1 ⊢
      exact (S'.at_ _ a o1 e1 q1).sh
  · obtain ⟨h1, h2, h3⟩ := S'.pin p (List.mem_append_right _ hp)
    refine ⟨h1, h2, fun z => ?_⟩
    rcases List.mem_append.mp z with z | z
    · exact (S.pin p hp).2.2 z
    · exact h3 z
def freshF (f : FN) : FN := fun ds h => if D.pureL ds then (match f ds [] with
  | .ok d h1 => if h1.all aliveO then .ok (shD h.length d) (h ++ h1.map (shO h.length)) else .bad
  | .exc C none _ => .exc C none h
  | .exc C (some q) _ => if q.2.pure then .exc C (some q) h else .bad
  | .bad => .bad) else .bad
theorem fresh_sp {np : Nat} {f : FN} {vs : List V} {Q : VK} {E : XK} (q : spN K np (freshF f) vs H Q E) : spN K np f vs H Q E := by
  obtain ⟨hl, P, F, m, ds, h, S, r, fin⟩ := q
  unfold freshF at fin
  by_cases hp : D.pureL ds = true
  · rw [if_pos hp] at fin
    refine ⟨hl, _, F, [], ds, [], S.hide, r.pureM hp, ?_⟩
    cases q : f ds [] with
    | ok d h' =>
      rw [q] at fin
      dsimp only at fin
      by_cases hd : h'.all aliveO = true
      · rw [if_pos hd] at fin
        intro v F' m' H' x S' rv
        have rv' := rv.sh (m := m)
        rw [S.len] at rv'
        exact fin v F' (m ++ m') H' ⟨x.s, List.prefix_append _ _⟩ (S.join x.s S' hd) rv'
      · rw [if_neg hd] at fin
        exact fin.elim
    | exc C p h' =>
      rw [q] at fin
      cases p with
      | none =>
        intro od F' m' H' x S' pd
        exact fin od F' m H' ⟨x.s, List.prefix_rfl⟩ (S.unhide x.s S') pd
      | some z =>
        dsimp only at fin
        by_cases hd : z.2.pure = true
        · rw [if_pos hd] at fin
          intro od F' m' H' x S' pd
          obtain ⟨a, v, e1, e2, e3⟩ := pd
          exact fin od F' m H' ⟨x.s, List.prefix_rfl⟩ (S.unhide x.s S') ⟨a, v, e1, e2, e3.pureM hd⟩
        · rw [if_neg hd] at fin
          exact fin.elim
    | bad => rw [q] at fin; exact fin
  · rw [if_neg hp] at fin
    exact fin.elim
end
theorem FnOk.fresh {P : Program} {w : World} {K : PySem.W.Frag} {mg : Str → Option Value} {base : Heap} {CX : CXT} {k : Nat} {f : Addr} {fd : FuncData} {ps : List Str} {g : FN} (F : FnOk P w K mg base CX k f fd ps (spN K ps.length g)) : FnOk P w K mg base CX k f fd ps (spN K ps.length (freshF g)) := L2.FnOk.imp F fun _ _ _ _ h => fresh_sp h
theorem Def.fresh {P : Program} {w : World} {K : PySem.W.Frag} {mg : Str → Option Value} {base : Heap} {CX : CXT} {k : Nat} {f : Addr} {ps : List Str} {dvs : List V} {g : FN} (d : Def P w K mg base CX k f ps dvs g) : Def P w K mg base CX k f ps dvs (freshF g) := let ⟨fd, dus, a, b, c⟩ := d.ex; ⟨⟨fd, dus, FnOk.fresh a, b, c⟩, d.kp⟩
end HR
set_option Elab.async false
set_option linter.all false
set_option maxRecDepth 100000
set_option maxHeartbeats 2000000
/-! while an exception is handled: the ends of walks, tuples taken apart, comprehensions over own lists, a def called in an except suite -/
namespace HR
open PySem L2 RZ PySem.Spec PyProof.Rows HotX
section
variable {prog : Program} {w : World} {A : Around} {E : Value → Shared → Prop} {s : Shared} {x1 : Addr}
/-- a StopIteration, made and thrown while x1 is handled -/
theorem hot_stop {α : Type} {Q : α → Shared → Prop} {R : Value → Shared → Prop} (hot : HotAt A x1 s.heap)
    (q : ∀ (h' : Heap) (e : Addr), (∀ b o, s.heap.get? b = some o → h'.get? b = some o) → (∃ o, h'.get? e = some o ∧ o.cls = .type "StopIteration") → R (.ref e) { s with heap := h' }) :
    wpAny (model prog w) A (newExc (.type "StopIteration") [] >>= fun e => (raiseNew e : Sem α)) Q R s := by
  obtain ⟨k1, o1, v1, k2, k3, k4⟩ := hot
  refine wpAny_bind ?_; simp only [newExc, newTuple]
  refine wpAny_bind (wpAny_newObj_type ?_ (by size_fits)); refine wpAny_bind (m := firstArgMember _ _) (wpAny_of_eq (a := Value.none) (by first | rfl | (simp only [firstArgMember]; rfl)) ?_)
  refine wpAny_newObj_type ?_ (by size_fits)
  refine raiseNew_hot ⟨k1, o1, v1, Heap.get?_push_of_some _ (Heap.get?_push_of_some _ k2), k3, k4⟩ (Nat.ne_of_lt (Heap.lt_size (Heap.get?_push_of_some _ k2))) (Heap.get?_push_size _ rfl) rfl (by first | (simp; done) | (simp; omega)) ?_
  refine q _ _ (fun b o e => ?_) ⟨_, Heap.get?_update_self _ (Heap.get?_push_size _ rfl) rfl, rfl⟩
  rw [Heap.get?_update_other _ _ (Nat.ne_of_gt (Heap.lt_size (Heap.get?_push_of_some _ e)))]
  exact Heap.get?_push_of_some _ (Heap.get?_push_of_some _ e)
theorem hot_list_end {it l : Addr} {i : Nat} {items : Array Value} {Q : Option Value → Shared → Prop} (hot : HotAt A x1 s.heap) (ne : x1 ≠ it) (ni : s.heap.IsListIter it l i) (nl : s.heap.IsList l items) (no : items[i]? = none)
    (q : ∀ h', Heap.ExtBut it s.heap h' → Q none { s with heap := h' }) : wpAny (model prog w) A (pyNext (.ref it)) Q E s := by
  obtain ⟨k1, o1, v1, k2, k3, k4⟩ := hot
  obtain ⟨oi, ei, ci, di⟩ := id ni
  obtain ⟨ol, el, _, _, dl⟩ := nl
  unfold pyNext; refine wpAny_bind (wpAny_attempt ?_)
  refine wpAny_callSpecial?_slot (name := Str.ofString "__next__") ni.typeIs slot_listiter_next ?_
  refine wpAny_call_entry slot_listiter_next ni.typeIs entry_listiter_next ?_ (args_listiter_next _)
  show wpAny _ _ (field (.ref it) 0 >>= _) _ _ _; refine wpAny_bind (wpAny_field ei di (x := .ref l) rfl ?_)
  have nn : ¬ ((Value.ref l == Value.none) = true) := Bool.false_ne_true
  show wpAny _ _ (ite ((Value.ref l == Value.none) = true) _ _) _ _ _; rw [if_neg nn]
  show wpAny _ _ (field (.ref it) 1 >>= _) _ _ _; refine wpAny_bind (wpAny_field ei di (x := .int i 0) rfl ?_)
  show wpAny _ _ (seqItems? (.ref l) >>= _) _ _ _; refine wpAny_bind (wpAny_seqItems el dl ?_)
  simp only [Int.toNat_natCast, no]; refine wpAny_bind (wpAny_rule (wpAny_bind (wpAny_setField ei di (by simp) ?_)))
  show wpAny _ _ (newExc (.type "StopIteration") [] >>= _) _ _ _; refine hot_stop (x1 := x1) ⟨(show A.in1.handled = _ from k1), o1, v1, ?_, k3, k4⟩ fun h' e up is => ?_
  · exact (Heap.get?_update_other _ _ (Ne.symm ne)).trans k2
  · obtain ⟨oe, g1, g2⟩ := is
    refine wpAny_bind (wpAny_isInstance (T := "StopIteration") (b := true) ⟨oe, g1, g2⟩ isSubtype_stop (wpAny_pure (q _ ?_)))
    exact fun b o hb eb => up b o ((Heap.get?_update_other _ _ (Ne.symm hb)).trans eb)
theorem hot_tuple_end {it t : Addr} {i : Nat} {items : Array Value} {Q : Option Value → Shared → Prop} (hot : HotAt A x1 s.heap) (ne : x1 ≠ it) (ni : IsTupIter s.heap it t i) (nt : IsTup s.heap t items) (no : items[i]? = none)
    (q : ∀ h', Heap.ExtBut it s.heap h' → Q none { s with heap := h' }) : wpAny (model prog w) A (pyNext (.ref it)) Q E s := by
  obtain ⟨k1, o1, v1, k2, k3, k4⟩ := hot
  obtain ⟨oi, ei, ci, di⟩ := id ni
  obtain ⟨ol, el, _, _, dl⟩ := nt
  unfold pyNext; refine wpAny_bind (wpAny_attempt ?_)
  refine wpAny_callSpecial?_slot (name := Str.ofString "__next__") ni.typeIs slot_tupleiter_next ?_
  refine wpAny_call_entry slot_tupleiter_next ni.typeIs entry_tupleiter_next ?_ (args_tupleiter_next _)
  show wpAny _ _ (field (.ref it) 0 >>= _) _ _ _; refine wpAny_bind (wpAny_field ei di (x := .ref t) rfl ?_)
  have nn : ¬ ((Value.ref t == Value.none) = true) := Bool.false_ne_true
  show wpAny _ _ (ite ((Value.ref t == Value.none) = true) _ _) _ _ _; rw [if_neg nn]
  show wpAny _ _ (field (.ref it) 1 >>= _) _ _ _; refine wpAny_bind (wpAny_field ei di (x := .int i 0) rfl ?_)
  show wpAny _ _ (seqItems? (.ref t) >>= _) _ _ _; refine wpAny_bind (wpAny_seqItems el dl ?_)
  simp only [Int.toNat_natCast, no]; refine wpAny_bind (wpAny_rule (wpAny_bind (wpAny_setField ei di (by simp) ?_)))
  show wpAny _ _ (newExc (.type "StopIteration") [] >>= _) _ _ _; refine hot_stop (x1 := x1) ⟨(show A.in1.handled = _ from k1), o1, v1, ?_, k3, k4⟩ fun h' e up is => ?_
  · exact (Heap.get?_update_other _ _ (Ne.symm ne)).trans k2
  · obtain ⟨oe, g1, g2⟩ := is
    refine wpAny_bind (wpAny_isInstance (T := "StopIteration") (b := true) ⟨oe, g1, g2⟩ isSubtype_stop (wpAny_pure (q _ ?_)))
    exact fun b o hb eb => up b o ((Heap.get?_update_other _ _ (Ne.symm hb)).trans eb)
theorem hotUp {h h' : Heap} (c : HotAt A x1 h) (k : ∀ o, h.get? x1 = some o → h'.get? x1 = some o) : HotAt A x1 h' := by
  obtain ⟨k1, o1, v1, k2, k3, k4⟩ := c
  exact ⟨k1, o1, v1, k _ k2, k3, k4⟩
theorem hotLt {h : Heap} (c : HotAt A x1 h) : x1 < h.objs.size := by
  obtain ⟨_, o1, _, k2, _⟩ := c
  exact Heap.lt_size k2
/-- a, b, .. = a tuple -/
theorem hot_unpack {env : Env} {elts : List Expr} {kk : Nat} {pos : Pos} {t : Addr} {items : Array Value} {Q : Unit → Shared → Prop} (hot : HotAt A x1 s.heap) (nt : IsTup s.heap t items) (n : (assignEach elts env).length = items.size) (star : (assignEach elts env).findIdx? (·.1) = none)
    (q : ∀ h', Heap.ExtBut s.heap.objs.size s.heap h' → wpAny (model prog w) A (assignInOrder ((assignEach elts env).map (·.2)) items.toList) Q E { s with heap := h' }) : wpAny (model prog w) A (assign (.Tuple elts kk pos) env (.ref t)) Q E s := by
  have tl : t ≠ s.heap.objs.size := by
    obtain ⟨o, e, _⟩ := nt
    exact Nat.ne_of_lt (Heap.lt_size e)
  have xl := hotLt hot
  rw [assign_Tuple]; refine wpAny_bind (wpAny_standAt ?_)
  unfold unpack; rw [n, star]; refine wpAny_bind (wpAny_holding ?_)
  unfold unpackItems notIterableAtAll; refine wpAny_bind (wpAny_bind (wpAny_specialOf nt.typeIs slot_tuple_iter.lookup (wpAny_pure ?_)))
  simp only [Bool.false_eq_true, if_false]; refine wpAny_bind (wpAny_holding (iter_tuple nt ?_))
  refine wpAny_bind (wpAny_holding (draw_tuple tl items.size 0 _ _ ⟨_, Heap.get?_push_size _ rfl, rfl, rfl⟩ (nt.push _) (by omega) fun h1 ni1 sb1 => ?_))
  rw [List.drop_zero, List.take_of_length_le (by simp), if_neg (by simp)]
  have nt1 : IsTup h1 t items := (nt.push _).extBut sb1.extBut tl
  have hot1 : HotAt A x1 h1 := hotUp hot fun o e => sb1.extBut x1 o (Nat.ne_of_lt xl) (Heap.get?_push_of_some _ e)
  refine wpAny_bind (wpAny_holding (hot_tuple_end (s := { s with heap := h1 }) hot1 (Nat.ne_of_lt xl) ni1 nt1 (by simp) fun h2 sb2 => ?_))
  simp only [Option.isSome_none, Bool.false_eq_true, if_false]; refine wpAny_pure ?_
  exact q h2 fun b o hb e => sb2 b o hb (sb1.extBut b o hb (Heap.get?_push_of_some _ e))
end
end HR
set_option Elab.async false
set_option linter.all false
set_option maxRecDepth 100000
set_option maxHeartbeats 2000000
namespace HR
open PySem L2 RZ PySem.Spec PyProof.Rows HotX
section
variable {X : Cx} {pins : List (Addr × Obj)} {σ : L2.St} {H : Hp} {s : Shared}
/-- an exception is handled; its record stands fast since the entry -/
def HotI (X : Cx) : Prop := ∃ (a : Addr) (ob : Obj) (u : HO) (ws : Array Value), X.A.handled = some (.ref a) ∧ X.H_0 a = some (.frz ob u) ∧ ob.data = .fields ws ∧ ws[2]? = some .none
theorem hotI_at (c : HotI X) (I : Inv X pins σ H s) : ∃ x1, HotAt X.A x1 s.heap ∧ ∃ ob u, H x1 = some (.frz ob u) := by
  obtain ⟨a, ob, u, ws, k1, k2, k3, k4⟩ := c
  have e := I.base.frzs a ob u k2
  have o := (show ObjOk X.prog X.w H s.heap a (.frz ob u) from I.hok a _ e).1
  exact ⟨a, ⟨k1, ob, ws, o, k3, k4⟩, ob, u, e⟩
theorem hotI_blk {scope : Scope} {ce : Env} {fp : List Addr} (c : HotI X) (I : Inv X pins σ H s) : HotI (X.blk s H scope ce fp) := by
  obtain ⟨a, ob, u, ws, k1, k2, k3, k4⟩ := c
  exact ⟨a, ob, u, ws, k1, I.base.frzs a ob u k2, k3, k4⟩
/-- (a, b, ..) = a tuple -/
theorem pg_tupH {es : List Expr} {kk n : Nat} {pos : Pos} {t : TGs} (c : HotI X) (h : PGs X es t) (hn : (assignEach es X.env).length = n := by rfl) (hst : (assignEach es X.env).findIdx? (·.1) = none := by rfl) : PG X (.Tuple es kk pos) (gTup X.K n t) := by
  refine ⟨fun pins s σ H v u Q I r q => ?_⟩
  obtain ⟨a, xs, rfl, sq, l, q⟩ := q
  cases r
  obtain ⟨x1, hot, _⟩ := hotI_at c I
  obtain ⟨its, rv, nt, _⟩ := I.tuple sq
  have ln : (assignEach es X.env).length = its.toArray.size := by rw [hn, ← l, rv.length]; simp
  refine hot_unpack hot nt ln hst fun h1 sb => ?_
  have I1 : Inv X pins σ H { s with heap := h1 } := I.kept (t' := s.toks) fun b o e => sb b o (Nat.ne_of_lt (Heap.lt_size e)) e
  exact h.run pins _ σ H xs _ Q I1 (by rw [List.toList_toArray]; exact rv) q
/-- the block of a comprehension over a list, while an exception is handled -/
theorem hot_lc {Q : VK} {elt tg iter : Expr} {ifs : List Expr} {scope : Scope} {own : List (Str × Nat)} {pos pos' : Pos} {tl : TE} {g : TG} {tt : TT} {te : TE} {use : Option (Value → Sem Unit)} {Qf : Value → Shared → Prop}
    (c : HotI X) (hN : X.N.Nodup) (I : Inv X pins σ H s) (hl : PE X iter tl) (ok : BlkOk X.N X.env.scope scope own)
    (hg : ∀ (s : Shared) (H : Hp) (C : Addr) (cl : List (Str × Addr)) (fp : List Addr), HotI (X.blk s H scope (compEnvC scope cl C X.env) fp) → PG (X.blk s H scope (compEnvC scope cl C X.env) fp) tg g)
    (ht : ∀ (s : Shared) (H : Hp) (C : Addr) (cl : List (Str × Addr)) (fp : List Addr), PTs (X.blk s H scope (compEnvC scope cl C X.env) fp) ifs tt) (he : ∀ (s : Shared) (H : Hp) (C : Addr) (cl : List (Str × Addr)) (fp : List Addr), PE (X.blk s H scope (compEnvC scope cl C X.env) fp) elt te)
    (hs : ∀ x, foldedSetIterable iter X.env x = pure x) (q : tLc (iList X.K tl) g tt te (own.map (·.2)) σ H Q)
    (out : ∀ D C s' m H', Inv X pins σ H' s' → Q (.ref D) H' → s'.heap.Ns C m → FpOk X pins H' C → compPost (model X.prog X.w) X.A X.xe use Qf (.ref D) C (.ok .next) s') :
    wpAny (model X.prog X.w) X.A (comprehension (.ListComp elt [⟨tg, iter, ifs, 0⟩] scope pos) scope X.env pos' (newList []) false (eval iter X.env) use) Qf X.xe s := by
  have fr : ∀ y ∈ scope.names, y.2 = .free → ∃ d, X.env.cells.lookup y.1 = some d := fun y hy e => I.ok.has _ (ok.free y hy e)
  refine wpAny_comprehension_free (use := use) rfl hs (closure_ok fr) ok.kind (fun y hy e => by rw [ok.uniq y hy, e]) (thn (hl.run pins s σ H _ I q) fun lv s1 z => ?_)
  obtain ⟨x, H1, I1, r1, la, ex, ⟨xs0, sq0⟩, q1⟩ := z
  subst ex
  cases r1
  obtain ⟨its0, rv0, pl0, _⟩ := I1.list sq0
  refine wpAny_pyIter_list pl0.isList ?_
  -- the iterator, the new list
  generalize hit : s1.heap.objs.size = it
  generalize hs2 : ({ s1 with heap := s1.heap.push _ } : Shared) = s2
  have I2 : Inv X pins σ H1 s2 := by rw [← hs2]; exact I1.kept (t' := s1.toks) fun b o e => Heap.get?_push_of_some _ e
  have at2 : s2.heap.IsListIter it la 0 := by rw [← hs2, ← hit]; exact ⟨_, Heap.get?_push_size _ rfl, rfl, rfl⟩
  have fi : FpOk X pins H1 it := I1.fpOk (Nat.le_of_eq hit) (I1.hok.fresh (Nat.le_of_eq hit))
  refine wpAny_newObj_type (newEnv_comp ?_) (Nat.zero_le _)
  generalize hD : s2.heap.objs.size = D
  have nD : H1 D = none := I2.hok.fresh (Nat.le_of_eq hD)
  have itD : it < D := by
    obtain ⟨o, e, _⟩ := at2
    rw [← hD]
    exact Heap.lt_size e
  obtain ⟨W, ⟨m0, w0⟩, turn⟩ := q1 D nD
  generalize hs3 : ({ s2 with heap := s2.heap.push { cls := .type "list", data := .seq ([] : List Value).toArray } } : Shared) = s3
  have I3 : Inv X pins σ (upd H1 D (.lst [])) s3 := by
    have new : ObjOk X.prog X.w (upd H1 D (.lst [])) (s2.heap.push { cls := .type "list", data := .seq ([] : List Value).toArray }) D (.lst []) := ⟨Nat.zero_le _, [], 0, .nil, by rw [← hD]; exact Heap.get?_push_size _ rfl⟩
    rw [← hs3]; exact I2.laid (t' := s2.toks) (fun b o e => Heap.get?_push_of_some _ e) (Nat.le_of_eq hD) new
  have h3 : s3.heap = s2.heap.push { cls := .type "list", data := .seq ([] : List Value).toArray } := by rw [← hs3]
  have ni3 : (upd H1 D (.lst [])) it = none := by rw [upd_ne (Nat.ne_of_lt itD)]; exact fi.1
  have f3 : ∀ b ∈ [it], FpOk X pins (upd H1 D (.lst [])) b ∧ b < s3.heap.objs.size := fun b hb => by
    have e : b = it := List.mem_singleton.mp hb
    subst e
    refine ⟨⟨ni3, fi.2⟩, ?_⟩
    rw [h3, Heap.size_push, hD]; omega
  have at3 : s3.heap.IsListIter it la 0 := at2.at fun o e => by rw [h3]; exact Heap.get?_push_of_some _ e
  -- the block
  have I4 := block_start I3 ok hN f3
  have c4 : HotI (X.blk s3 (upd H1 D (.lst [])) scope (compEnvC scope (cellsFrom (s3.heap.objs.size + 1) scope.names (cloFrom X.env.cells scope.names [])) s3.heap.objs.size X.env) [it]) := hotI_blk c I3
  have g4 := hg s3 (upd H1 D (.lst [])) s3.heap.objs.size (cellsFrom (s3.heap.objs.size + 1) scope.names (cloFrom X.env.cells scope.names [])) [it] c4
  have t4 := ht s3 (upd H1 D (.lst [])) s3.heap.objs.size (cellsFrom (s3.heap.objs.size + 1) scope.names (cloFrom X.env.cells scope.names [])) [it]
  have e4 := he s3 (upd H1 D (.lst [])) s3.heap.objs.size (cellsFrom (s3.heap.objs.size + 1) scope.names (cloFrom X.env.cells scope.names [])) [it]
  show codeAny _ _ (.compStart (.ListComp elt [⟨tg, iter, ifs, 0⟩] scope pos) 0 (.ref it) (.ref D) (compEnvC scope (cellsFrom (s3.heap.objs.size + 1) scope.names (cloFrom X.env.cells scope.names [])) s3.heap.objs.size X.env)) _ { s3 with heap := pushCells (s3.heap.push { cls := .type "dict", data := .dict #[] }) scope.names }
  generalize hce : compEnvC scope (cellsFrom (s3.heap.objs.size + 1) scope.names (cloFrom X.env.cells scope.names [])) s3.heap.objs.size X.env = ce at I4 c4 g4 t4 e4 ⊢
  have cl : ce.locals = s3.heap.objs.size := by rw [← hce]; rfl
  generalize hH3 : upd H1 D (.lst []) = H3 at I3 I4 c4 g4 t4 e4 w0 ni3 f3
  generalize hs4 : ({ s3 with heap := pushCells (s3.heap.push { cls := .type "dict", data := .dict #[] }) scope.names } : Shared) = s4 at I4 ⊢
  have at4 : s4.heap.IsListIter it la 0 := at3.at fun o e => by rw [← hs4]; exact pushCells_keeps _ _ _ _ (Heap.get?_push_of_some _ e)
  have fpB : ∀ {σ' : L2.St} {H' : Hp} {s' : Shared} {pl : List (Addr × Obj)}, Inv (X.blk s3 H3 scope ce [it]) pl σ' H' s' → H' it = none → (∀ p ∈ pl, p.1 ≠ it) → FpOk (X.blk s3 H3 scope ce [it]) pl H' it := fun {σ' H' s' pl} I' n np =>
    ⟨n, (I'.ok.exf it List.mem_cons_self).1, I'.ok.exfs it List.mem_cons_self, .inl List.mem_cons_self, fun y d e => (I'.ok.exf it List.mem_cons_self).2 y d e, fun p hp => np p (by simpa using hp)⟩
  have loop : codeAny (model X.prog X.w) X.A (.compLoop (.ListComp elt [⟨tg, iter, ifs, 0⟩] scope pos) 0 (.ref it) (.ref D) ce) (compPost (model X.prog X.w) X.A X.xe use Qf (.ref D) s3.heap.objs.size) s4 := by
    refine compLoop_any (fun n s' => ∃ i H', Inv (X.blk s3 H3 scope ce [it]) [] (L2.wipe σ (own.map (·.2))) H' s' ∧ s'.heap.IsListIter it la i ∧ H' it = none ∧ W i n H') ?_ m0 ⟨0, H3, I4, at4, ni3, w0⟩
    rintro n s5 ⟨i, H5, I5, at5, n5, w5⟩
    have fp5 := fpB I5 n5 (fun _ hp => nomatch hp)
    obtain ⟨k0, k1, k2, k3, k4, k5⟩ := fp5
    rcases turn i n H5 w5 with ⟨⟨ys, sq, le⟩, qe⟩ | ⟨⟨ys, y, sq, ey⟩, Nx, hNx, step⟩
    · obtain ⟨x1, hot, obx, ux, hx1⟩ := hotI_at c4 I5
      obtain ⟨its, rv, pl, _⟩ := I5.list sq
      have ne : x1 ≠ it := fun z => by rw [z, n5] at hx1; cases hx1
      have no : its.toArray[i]? = none := by
        have := rv.length
        simp
        omega
      refine hot_list_end hot ne at5 pl.isList no fun h6 sb => ?_
      have I6 : Inv (X.blk s3 H3 scope ce [it]) [] _ H5 { s5 with heap := h6 } := I5.turned (t' := s5.toks) (fun b o hb e => sb b o hb e) k0 k1 k3 k4 k5
      have I7 : Inv X pins σ H5 { s5 with heap := h6 } := I3.call' (ch := [it]) I6.os I6.base I6.hok I6.bare fun b hb => by
        obtain ⟨z0, z1, z2, z3, z4, z5⟩ := (f3 b hb).1
        exact ⟨z3, z1, z4, z5⟩
      have nC : H5 s3.heap.objs.size = none := by rw [← cl]; exact I6.free
      obtain ⟨m, nsm, _⟩ := I6.loc
      have nsm : h6.Ns ce.locals m := nsm
      rw [cl] at nsm
      exact out D s3.heap.objs.size { s5 with heap := h6 } m H5 I7 qe nsm (I3.fpOk (Nat.le_refl _) nC)
    · obtain ⟨its, rv, pl, _⟩ := I5.list sq
      obtain ⟨u, eu, ru⟩ := rv.get ey
      refine wpAny_pyNext_list_item at5 pl.isList (x := u) (by simpa using eu) fun h6 at6 sb => ?_
      have I6 : Inv (X.blk s3 H3 scope ce [it]) [] _ H5 { s5 with heap := h6 } := I5.turned (t' := s5.toks) (fun b o hb e => (sb.2 b hb).trans e) k0 k1 k3 k4 k5
      obtain ⟨oi, ei, ci, di⟩ := id at6
      refine go_of (s := { s5 with heap := h6 }) ei ci di (by decide) ?_
      have stp := step y H5 ⟨rfl, fun zs hz => by rw [I5.list_inj hz sq]; exact ey⟩
      -- the iterator, held fast
      have I7 := I6.pinned (fp := [it]) (fun b hb => by
        have e : b = it := List.mem_singleton.mp hb
        subst e
        exact fpB I6 n5 (fun _ hp => nomatch hp)) (fun b hb => by
        have e : b = it := List.mem_singleton.mp hb
        subst e
        exact ⟨oi, ei, fun v z => by rw [di] at z; cases z⟩)
      refine thnF (g4.run _ _ _ H5 y u _ I7 ru stp) fun _ s8 ⟨σ8, H8, I8, w8, q8⟩ => ?_
      refine thnF (t4.run _ s8 σ8 H8 _ I8 q8) fun b s9 ⟨H9, I9, q9⟩ => ?_
      have ende : ∀ {s' : Shared} {H' : Hp}, Inv (X.blk s3 H3 scope ce [it]) ([] ++ pinsAt [it] h6) σ8 H' s' → Nx H' → ∃ m, m < n ∧ ∃ i H', Inv (X.blk s3 H3 scope ce [it]) [] (L2.wipe σ (own.map (·.2))) H' s' ∧ s'.heap.IsListIter it la i ∧ H' it = none ∧ W i m H' := fun {s' H'} I' nx => by
        obtain ⟨m', lt, w'⟩ := hNx H' nx
        have pin := I'.pin (it, oi) (List.mem_append_right _ (List.mem_append_right _ (mem_pinsAt List.mem_cons_self ei)))
        have len : (L2.wipe σ (own.map (·.2))).length = σ8.length := by rw [← w8, wipe_length]
        refine ⟨m', lt, i + 1, H', (I'.unpinned (pins := [])).weak len (fun j v e => ?_), at6.at fun o e => ?_, pin.2.1, w'⟩
        · rw [← w8] at e
          exact (wipe_some e).1
        · have e : h6.get? it = some o := e
          rw [ei] at e
          cases e
          exact pin.1
      cases b with
      | false =>
        simp only [Bool.false_eq_true, if_false] at q9 ⊢
        exact ende I9 q9
      | true =>
        simp only [if_true] at q9 ⊢
        refine thnF (e4.run _ s9 σ8 H9 _ I9 q9) fun z s10 ⟨yv, H10, I10, r10, acc, aD, az, nx⟩ => ?_
        exact app_ok (X := X.blk s3 H3 scope ce [it]) I10 aD az r10 fun s11 I11 => ende I11 nx
  exact codeAny_compStart_list loop (wpAny_pyIter_listiter at4 loop)
end
end HR
set_option Elab.async false
set_option linter.all false
set_option maxRecDepth 100000
set_option maxHeartbeats 2000000
namespace HR
open PySem L2 RZ PySem.Spec PyProof.Rows HotX
section
variable {X : Cx} {W : WX}
/-- name = [..] over a list -/
theorem ps_setLcH {i : Nat} {y : Str} {py : Pos} {elt tg iter : Expr} {ifs : List Expr} {scope : Scope} {own : List (Str × Nat)} {pos spos : Pos} {tl : TE} {g : TG} {tt : TT} {te : TE} (c : HotI X) (hN : X.N.Nodup) (hy : X.N[i]? = some y) (hyl : X.env.scope.names.lookup y = some .local)
    (sw : swapsWith (.ListComp elt [⟨tg, iter, ifs, 0⟩] scope pos) (some (.Name y py)) spos.line X.env = pure true) (hl : PE X iter tl) (ok : BlkOk X.N X.env.scope scope own)
    (hg : ∀ (s : Shared) (H : Hp) (C : Addr) (cl : List (Str × Addr)) (fp : List Addr), HotI (X.blk s H scope (compEnvC scope cl C X.env) fp) → PG (X.blk s H scope (compEnvC scope cl C X.env) fp) tg g)
    (ht : ∀ (s : Shared) (H : Hp) (C : Addr) (cl : List (Str × Addr)) (fp : List Addr), PTs (X.blk s H scope (compEnvC scope cl C X.env) fp) ifs tt) (he : ∀ (s : Shared) (H : Hp) (C : Addr) (cl : List (Str × Addr)) (fp : List Addr), PE (X.blk s H scope (compEnvC scope cl C X.env) fp) elt te)
    (hs : ∀ x, foldedSetIterable iter X.env x = pure x) : PS X (.Assign [.Name y py] (.ListComp elt [⟨tg, iter, ifs, 0⟩] scope pos) spos) (tAsg (tLc (iList X.K tl) g tt te (own.map (·.2))) (gName i)) := by
  refine ⟨fun pins s σ H Dn I q => ?_⟩
  rw [exec_Assign_Name_used _ _ _ _ sw]; refine wpAny_bind (wpAny_standAt (wpAny_bind ?_))
  have q2 : tLc (iList X.K tl) g tt te (own.map (·.2)) σ H (fun v H1 => Dn.nx (σ.set i (some v)) H1) := q
  show wpAny _ X.A (comprehension (.ListComp elt [⟨tg, iter, ifs, 0⟩] scope pos) scope X.env _ (newList []) false (eval iter X.env) (some (assign (.Name y py) X.env)) >>= _) _ _ s
  refine wpAny_bind (thn (hot_lc (Qf := fun _ s' => SP X pins Dn .next s') c hN I hl ok hg ht he hs q2 fun D C s' m H' I' qn ns f => ?_) fun _ s' z => wpAny_pure (wpAny_pure z))
  obtain ⟨f0, f1, f2, f3, f4, f5⟩ := f
  show wpAny _ _ (assign (.Name y py) X.env (.ref D)) _ _ _
  refine wpAny_assign_Name (store_ok2 (v := V.ref D) I' hN hy (.inl hyl) rfl (fun s2 I2 z => ?_) (.inr hyl))
  obtain ⟨a, sb, wh⟩ := z
  have na : C ≠ a := wh.elim (fun z => z ▸ f1) fun z e => f4 y a z e.symm
  exact ⟨m, ns.sameBut sb na, fun h3 sb3 => ⟨_, H', I2.turned (t' := s2.toks) (fun b o hb e => (sb3.2 b hb).trans e) f0 f1 f3 f4 f5, qn⟩⟩
/-- a tuple of n, nothing else -/
def gTt (n : Nat) (g : TFs) : TF := fun d e h => match d with
  | .tup xs => if xs.length = n then g xs e h else none
  | _ => none
theorem dg_tupH {ts : List Expr} {n j : Nat} {vs : List Nat} {pos : Pos} {gr : TFs} (c : HotI X) (h : DGs X vs ts gr) (hn : (assignEach ts X.env).length = n := by rfl) (hst : (assignEach ts X.env).findIdx? (·.1) = none := by rfl) : DG X vs (.Tuple ts j pos) (gTt n gr) :=
  PG.of (pg_tupH c h hn hst) fun v σ H Q => by
    rintro ⟨P, F, m, e, h, d, S, E, r, e', q, k⟩
    cases r with
    | @tup a ws xs q0 rl =>
      unfold gTt at q
      dsimp only at q
      by_cases hz : xs.length = n
      · rw [if_pos hz] at q
        exact ⟨a, ws, rfl, Same.sqT S.sub q0, by rw [rl.length]; exact hz, P, F, m, e, h, xs, S, E, rl, e', q, k⟩
      · rw [if_neg hz] at q
        cases q
    | _ => cases q
theorem ds_setLcOH (i : Nat) {y : Str} {py : Pos} {elt tg iter : Expr} {ifs : List Expr} {scope : Scope} (own : Bool) (ow : List (Str × Nat)) {pos spos : Pos} {f : SE} {g : TF} {tt : ST} {el : SE} (c : HotI X) (hN : X.N.Nodup) (hi : DE X W iter f) (ok : BlkOk X.N X.env.scope scope ow)
    (hg : ∀ (s : Shared) (H : Hp) (C : Addr) (cl : List (Str × Addr)) (fp : List Addr), HotI (X.blk s H scope (compEnvC scope cl C X.env) fp) → DG (X.blk s H scope (compEnvC scope cl C X.env) fp) (ow.map (·.2)) tg g)
    (ht : ∀ (s : Shared) (H : Hp) (C : Addr) (cl : List (Str × Addr)) (fp : List Addr), DTs (X.blk s H scope (compEnvC scope cl C X.env) fp) W0 ifs tt)
    (he : ∀ (s : Shared) (H : Hp) (C : Addr) (cl : List (Str × Addr)) (fp : List Addr), DE (X.blk s H scope (compEnvC scope cl C X.env) fp) W0 elt el)
    (hsw : swapsWith (.ListComp elt [⟨tg, iter, ifs, 0⟩] scope pos) (some (.Name y py)) spos.line X.env = pure true) (hy : X.N[i]? = some y := by rfl) (hyl : X.env.scope.names.lookup y = some .local := by rfl) (hs : ∀ x, foldedSetIterable iter X.env x = pure x := by intro _; rfl) :
    DS X W (.Assign [.Name y py] (.ListComp elt [⟨tg, iter, ifs, 0⟩] scope pos) spos) (sSet i (sLcO own f g tt el (ow.map (·.2)))) := PS.of (ps_setLcH (own := ow) c hN hy hyl hsw hi ok hg ht he hs) fun Dn σ H => by
  rintro ⟨P, F, m, e, h, S, E, fin⟩
  have z := lcO_rd (W := W) own (st_seq S E fin fun F1 m1 h1 H1 v d x S1 E1 r fin1 => (fin1 _ F1 m1 H1 .refl S1 (E1.set i r) : Dn.nx (σ.set i (some v)) H1))
  have conv : ∀ (R : It → Hp → Prop), rdG X.K W (relOw X.K) (sRefL f) σ H R → iList X.K (rdG X.K W (Den X.K) f) σ H R := fun R => by
    rintro ⟨P, F, m, e, h, S, E, fin⟩
    refine rd_seq S E fin fun F1 m1 h1 H1 v d x S1 E1 r fin1 => ?_
    cases r with
    | @ref b i e1 =>
      obtain ⟨ob, k1, k2⟩ := S1.own e1
      dsimp only at fin1
      rw [k1] at fin1
      cases ob with
      | lst xs =>
        obtain ⟨vs, k3, k4, k5⟩ := k2
        exact ⟨b, rfl, ⟨vs, .inl (.inl k3)⟩, FinG.ok fin1 S1 ⟨b, e1, rfl⟩⟩
      | _ => exact fin1.bad_elim
    | _ => exact fin1.bad_elim
  exact conv _ z
end
/-! ### defs called while an exception is handled -/
structure FnHot (P : Program) (w : World) (K : PySem.W.Frag) (mg : Str → Option Value) (base : Heap) (k : Nat) (f : Addr) (fd : FuncData) (ps : List Str) (sp : Sp) : Prop where
  len : ∀ vs H Q E, sp vs H Q E → vs.length = ps.length
  run : ∀ (A : Around) (outer : List Env) (s : Shared) (H : Hp) (args : Args) (us : List Value) (vs : List V) (Q : VK) (E : XK) (a : Addr) (ob : Obj) (u : HO) (ws : Array Value), L2H.RoomH k A → A.handled = some (.ref a) → H a = some (.frz ob u) → ob.data = .fields ws → ws[2]? = some .none →
    Env0 P w K mg base A outer s H → BindsTo s fd args (ps.zip us) → Vals vs us → sp vs H Q E → codeAny (model P w) A (.call (.ref f) args) (CR CX0 outer P w H s Q E) s
/-- such a def's body -/
def cxHot (P : Program) (w : World) (K : PySem.W.Frag) (mg : Str → Option Value) (base : Heap) (N : List Str) (qual : Str) (scope : Scope) (f : Addr) (cd : Value) (A : Around) (outer : List Env) (s : Shared) (H : Hp) (E : XK) : Cx :=
  { cxOf CX0 P w K mg base N qual scope f cd A outer s H E with calm := false }
section
variable {P : Program} {w : World} {K : PySem.W.Frag} {mg : Str → Option Value} {base : Heap} {N ps : List Str} {x qual : Str} {params : Arguments} {body : List Stmt} {scope : Scope} {dvs : List V} {kws : List (Str × V)} {f : Addr} {fd : FuncData} {k : Nat}
theorem fn_hot {sp : Sp} (Fu : FunD K x qual params body scope dvs kws f fd) (S : FnScope N ps scope) (len : ∀ vs H Q E, sp vs H Q E → vs.length = ps.length)
    (hbody : ∀ (cdv : Value) (A : Around) (outer : List Env) (s : Shared) (H : Hp) (vs : List V) (Q : VK) (E : XK), L2H.RoomH k (A.deeper (envOfC qual scope s.heap.objs.size f cdv)) → HotI (cxHot P w K mg base N qual scope f cdv A outer s H E) → sp vs H Q E →
      ∃ t, PSs (cxHot P w K mg base N qual scope f cdv A outer s H E) body t ∧ t { nx := fun _ H' => Q .non H', rt := Q } (L2.start N vs) H) : FnHot P w K mg base (k + 1) f fd ps sp := by
  obtain ⟨oc, od, dV, kV, doc, pm, an, cdv, ct, osl, rfl, lk, hcd, _, _⟩ := Fu.ex
  refine ⟨len, fun A outer s H args us vs Q E a ob u ws hr k1 k2 k3 k4 e0 hb r q => ?_⟩
  have KX : K.In s.heap := e0.mod.kin.keeps fun b o e => (e0.bs b o e).1
  have kinds : ∀ y ∈ ps.zip us, scope.names.lookup y.1 = some .local ∨ (scope.names.lookup y.1 = some .cell ∧ ((cellsFrom (s.heap.objs.size + 1) scope.names []).lookup y.1).isSome = true) := fun y hy =>
    (S.par y.1 (List.of_mem_zip (a := y.1) (b := y.2) hy).1).imp id fun q => ⟨q, PySem.W.cellsFrom_some _ _ _ (.inl q)⟩
  refine codeAny_call_function hr.depth (KX _ _ lk) rfl S.co S.gen rfl (PySem.W.codeRec_of KX hcd) (hb _ _ _ _ (wpAny_newFunctionEnv_cells S.kind kinds fun env he s1 y => ?_))
  subst he
  refine ⟨(e0.mod.nolimit.keeps fun b o e => (e0.bs b o e).1).keeps y.toInCall.keep, codeAny_func ?_⟩
  have c : HotI (cxHot P w K mg base N qual scope f cdv A outer s H E) := ⟨a, ob, u, ws, k1, k2, k3, k4⟩
  obtain ⟨t, ht, hq⟩ := hbody cdv A outer s H vs Q E (hr.deeper _) c q
  -- the entry, as it stands where nothing is handled
  have e1 : Env0 P w K mg base { A with handled := none } outer s H := ⟨e0.frames, e0.mod, e0.bs, e0.bsz, e0.funs, e0.frf, e0.hok, e0.bare⟩
  have J : Inv (cxOf CX0 P w K mg base N qual scope f cdv { A with handled := none } outer s H E) [] (L2.start N vs) H s1 := inv_start S rfl e1 (len _ _ _ _ q) r y
  have okH : (cxHot P w K mg base N qual scope f cdv A outer s H E).Ok :=
    { mod := J.ok.mod, kind := J.ok.kind, glob := J.ok.glob, blt := J.ok.blt, above := J.ok.above, inj := J.ok.inj, has := J.ok.has, cab := J.ok.cab, hd := fun z => Bool.noConfusion (show false = true from z), frames := J.ok.frames, stk := J.ok.stk, exf := J.ok.exf, bs := J.ok.bs, bsz := J.ok.bsz, noex := J.ok.noex, exfs := J.ok.exfs, funs := J.ok.funs, frf := J.ok.frf }
  have I : Inv (cxHot P w K mg base N qual scope f cdv A outer s H E) [] (L2.start N vs) H s1 := ⟨okH, J.os, J.bare, J.base, J.loc, J.cell, J.free, J.freeC, J.pin, J.hok, J.len⟩
  refine wpAny_mono (ht.run [] s1 (L2.start N vs) H _ I hq) (fun fl s' done => ?_) fun e s' z => z
  have ende : ∀ {σ' : L2.St} {H' : Hp} {v : V} {z : Value}, Inv (cxHot P w K mg base N qual scope f cdv A outer s H E) [] σ' H' s' → RelV v z → Q v H' → CE outer P w H s Q z s' := fun {σ' H' v z} I' rv qv => ⟨v, H', I'.os, I'.bare, I'.base, I'.hok, rv, qv⟩
  cases fl with
  | ret z => obtain ⟨v, σ', H', I', rv, qv⟩ := done; exact ende I' rv qv
  | next => obtain ⟨σ', H', I', qv⟩ := done; exact ende (v := V.non) (z := Value.none) I' rfl qv
  | brk => obtain ⟨_, _, _, z⟩ := done; exact z.elim
  | cont => obtain ⟨_, _, _, z⟩ := done; exact z.elim
theorem fn_okHot {fB : SS} (Fu : FunD K x qual params body scope dvs kws f fd) (S : FnScope N ps scope) (hN : ps.length ≤ N.length)
    (hb : ∀ (cdv : Value) (A : Around) (outer : List Env) (s : Shared) (H : Hp) (E : XK), L2H.RoomH k (A.deeper (envOfC qual scope s.heap.objs.size f cdv)) → HotI (cxHot P w K mg base N qual scope f cdv A outer s H E) → DSs (cxHot P w K mg base N qual scope f cdv A outer s H E) (fun cls od _ H => E cls od H) body fB) :
    FnHot P w K mg base (k + 1) f fd ps (spN K ps.length (fnOf N.length fB)) := by
  refine fn_hot Fu S (fun vs H Q E z => z.1) fun cdv A outer s H vs Q E hr c z => ?_
  obtain ⟨hl, P0, F, m, ds, h, S0, r, fin⟩ := z
  have E0 : EnvR K F m (L2.start N vs) (ds.map some ++ List.replicate (N.length - ds.length) none) := ⟨by unfold L2.start; simp [r.length], fun i d q => by
    by_cases hi : i < ds.length
    · rw [List.getElem?_append_left (by simpa using hi)] at q
      simp only [List.getElem?_map, Option.map_eq_some_iff] at q
      obtain ⟨d', q1, q2⟩ := q
      cases q2
      obtain ⟨v, g1, g2⟩ := r.get q1
      refine ⟨v, ?_, g2⟩
      unfold L2.start
      rw [List.getElem?_append_left (by simp; rw [r.length]; exact hi)]
      simp [g1]
    · rw [List.getElem?_append_right (by simp; omega), List.getElem?_replicate] at q
      split at q <;> cases q⟩
  refine ⟨_, hb cdv A outer s H E hr c, P0, F, m, _, h, S0, E0, ?_⟩
  unfold fnOf at fin
  cases q : fB (ds.map some ++ List.replicate (N.length - ds.length) none) h with
  | nx e1 h1 => rw [q] at fin; exact fun σ F1 m1 H1 x1 S1 E1 => fin .non F1 m1 H1 x1 S1 .non
  | rt d h1 => rw [q] at fin; exact fin
  | exc C p e1 h1 => rw [q] at fin; exact fun od σ F1 m1 H1 x1 S1 pd E1 => fin od F1 m1 H1 x1 S1 pd
  | bk e1 h1 => rw [q] at fin; exact fin.elim
  | ct e1 h1 => rw [q] at fin; exact fin.elim
  | bad => rw [q] at fin; exact fin.elim
end
structure DefHot (P : Program) (w : World) (K : PySem.W.Frag) (mg : Str → Option Value) (base : Heap) (k : Nat) (f : Addr) (ps : List Str) (g : FN) : Prop where
  ex : ∃ fd, FnHot P w K mg base k f fd ps (spN K ps.length g) ∧ Binds K fd ps []
  kp : PySem.W.keepIn K (.ref f) = true
/-! ### try: body, except X as n: m = f(n) -/
def wSuiteN (K : PySem.W.Frag) (c : Value) (i : Nat) (ts : Addr → Obj → TS) (Dn : Ends) : WX := fun cls d σ H =>
  PySem.W.exmOne K cls c = some true ∧ ∀ a ob, i < σ.length → H a = none → ts a ob (endS i Dn) (σ.set i (some (.ref a))) (upd H a (.frz ob (HexZ cls d a)))
section
variable {X : Cx} {pn : List (Addr × Obj)} {σ : L2.St} {H : Hp} {s : Shared} {a : Addr}
theorem inv_trackO {o : HO} (I : Inv X pn σ H s) (na : H a = none) (n0 : X.s_0.heap.get? a = none) (np : ∀ p ∈ X.pn ++ pn, p.1 ≠ a) (nl : a ≠ X.env.locals) (nc : ∀ x c, X.env.cells.lookup x = some c → c ≠ a)
    (new : ObjOk X.prog X.w (upd H a o) s.heap a o) : Inv X pn σ (upd H a o) s := by
  have other : ∀ {b : Addr} {u : HO}, H b = some u → upd H a o b = some u := fun {b u} q => (upd_ne (ne_of_none q na)).trans q
  have old : ∀ {b : Addr} {u : Obj}, X.s_0.heap.get? b = some u → b ≠ a := fun {b u} q z => by rw [z, n0] at q; cases q
  have base : Un X.fs X.ex X.H_0 (upd H a o) X.s_0.heap s.heap :=
    { keep := I.base.keep, slot := I.base.slot, there := I.base.there, free := fun b u q n hx => (upd_ne (old q)).trans (I.base.free b u q n hx),
      tups := fun b xs q => other (I.base.tups b xs q), frzs := fun b u v q => other (I.base.frzs b u v q), tbls := fun b ps q => (I.base.tbls b ps q).imp fun _ e => other e }
  refine { ok := I.ok, os := I.os, bare := I.bare, base := base, loc := I.loc, cell := I.cell, free := (upd_ne (Ne.symm nl)).trans I.free, freeC := fun y d e => (upd_ne (nc y d e)).trans (I.freeC y d e), pin := fun p q => ?_, hok := fun b u e => ?_, len := I.len }
  · obtain ⟨e1, e2, e3⟩ := I.pin p q
    exact ⟨e1, (upd_ne (np p q)).trans e2, e3⟩
  · by_cases hb : b = a
    · subst hb
      rw [upd_same] at e
      cases e
      exact new
    · rw [upd_ne hb] at e
      exact ObjOk.stay (I.hok b u e) (fun _ _ _ q => q) (fun _ q => other q) fun _ _ q => other q
end
section
variable {X : Cx} {x n : Str} {c : Value} {i : Nat} {body suite : List Stmt} {st0 : Stmt} {np hpos pos : Pos} {tb : WX → TS} {ts : Addr → Obj → TS}
theorem ps_try_suiteN (hs : X.stack = X.env :: X.outer) (hf : X.env.frame = some X.env.locals) (hex : X.ex = []) (hN : X.N.Nodup) (hi : X.N[i]? = some n) (hln : X.env.kindOf n = some .local) (hc : Names X x c)
    (hb : ∀ (W : WX) (pn : List (Addr × Obj)) (xe : Value → Shared → Prop), L2N.Takes (X.tr pn xe) W → PassesOwn (model X.prog X.w) X.A X.env xe → PSs (X.tr pn xe) body (tb W))
    (hsu : ∀ (a : Addr) (ob : Obj) (ws : Array Value) (pn : List (Addr × Obj)), ob.data = .fields ws → ws[2]? = some .none → PSs (X.suite a pn) (st0 :: suite) (ts a ob)) :
    PS X (.Try body [.ExceptHandler (some (.Name x np)) (some n) (st0 :: suite) hpos] [] [] pos) (fun Dn σ H => tb (wSuiteN X.K c i ts Dn) Dn σ H) := by
  refine ⟨fun pn0 st σ0 H0 Dn Iv rd => wpAny_Try_except ?_⟩
  have okX := Iv.ok
  have frX : X.A.frames = some (X.env :: X.outer) := okX.frames.trans (congrArg some hs)
  have caught : ∀ (u : Value) (s1 : Shared) (xe : Value → Shared → Prop), L2N.XE (X.tr (X.pn ++ pn0) xe) (wSuiteN X.K c i ts Dn) u s1 →
      wpAny (model X.prog X.w) X.A (noteFrame u X.env) (fun _ s2 => wpAny (model X.prog X.w) X.A (setFlight u none) (fun _ s3 =>
        wpAny (model X.prog X.w) X.A (handleBy u X.env [.ExceptHandler (some (.Name x np)) (some n) (st0 :: suite) hpos]) (SP X pn0 Dn) X.xe s3) X.xe s2) X.xe s1 := by
    intro u s1 xe ⟨a, B, sI, pn1, σ1, H1, cls, d, eu, J0, inB, grew, sky, na, osE, bareE, hit, fin⟩
    cases eu
    have J : Inv X pn0 σ1 H1 sI := J0.ofTry okX
    have sky1 : Sky B (X.env :: X.outer) a (L2N.Zn cls d) X.env.locals s1.heap := (show X.stack = _ from hs) ▸ sky
    refine L2N.Sky.land L2N.Zn.steady frX hf sky1 fun g1 fly1 more1 => ?_
    have J1 := J.landed inB fly1.1 (grew.trans more1) osE bareE (s' := { s1 with heap := g1 })
    obtain ⟨ob1, ws1, at1, zc1, dt1⟩ := fly1.there
    have noFr : a ∉ frs (X.env :: X.outer) := fun z => by
      obtain ⟨_, o1, q1, q2⟩ := fly1.2.2.1.mem z
      rw [at1] at q1
      cases q1
      exact q2 _ dt1
    have notL : a ≠ X.env.locals := fun z => noFr (List.mem_filterMap.mpr ⟨X.env, List.mem_cons_self, by rw [hf, z]⟩)
    have notF : a ∉ X.fs := fun z => noFr (by
      obtain ⟨e1, q1, q2⟩ := List.mem_filterMap.mp z
      exact List.mem_filterMap.mpr ⟨e1, List.mem_cons_of_mem _ q1, q2⟩)
    have newI : sI.heap.get? a = none := by
      cases q : sI.heap.get? a with
      | none => rfl
      | some o1 =>
        have q1 := inB a o1 q (by rw [show (X.tr (X.pn ++ pn0) xe).stack = X.env :: X.outer from hs]; exact noFr)
        rw [fly1.2.1] at q1
        cases q1
    have new0 : X.s_0.heap.get? a = none := by
      cases q : X.s_0.heap.get? a with
      | none => rfl
      | some o1 =>
        obtain ⟨o2, q1⟩ := J.base.there a o1 q (by rw [hex]; exact List.not_mem_nil)
        rw [newI] at q1
        cases q1
    have newP : ∀ p ∈ X.pn ++ pn0, p.1 ≠ a := fun p hp z => by
      have q1 := (J.pin p hp).1
      rw [z, newI] at q1
      cases q1
    have S1 := J1.suite at1 dt1 na notL notF
    refine wpAny_handleBy_cons (codeAny_handlers_test ?_) (fun z => nomatch z)
    have ty1 : PySem.W.Looks (model X.prog X.w) g1 (typeOf (.ref a)) cls := fun _ _ _ _ k q => wpAny_typeOf_ref (k _ _ at1) (by rw [zc1.1]; exact q)
    have hit1 := PySem.W.exm_one (M := model X.prog X.w) J1.kIn ty1 hit
    have named : ∀ {Q E : Value → Shared → Prop}, Q c { s1 with heap := g1 } → wpAny (model X.prog X.w) (X.A.mark (some (.ref a))) (eval (.Name x np) X.env) Q E { s1 with heap := g1 } := by
      intro Q E q
      obtain ⟨k1, k2, k3 | ⟨k3, k4, k5⟩⟩ := hc
      · exact ld_glob S1 k1 k3 q k2
      · exact ld_blt S1 k1 k3 k4 q k5 k2
    refine named (hit1.here (codeAny_handlers_suite_as ?_))
    refine HandSPX.lands_againZ fly1 fun g2 fly2 more2 => ?_
    have J2 := J.landed inB fly2.1 ((grew.trans more1).trans more2) osE bareE (s' := { s1 with heap := g2 })
    obtain ⟨ob2, ws2, at2, zc2, dt2⟩ := fly2.there
    have S2 := J2.suite at2 dt2 na notL notF
    refine store_ok (X := X.suite a ((a, ob2) :: (X.pn ++ pn0))) (v := .ref a) S2 hN hi (.inl hln) rfl (fun s2 S3 => ?_) (.inr hln)
    obtain ⟨e1, e2, _, _, e5⟩ := S3.pin (a, ob2) (by rw [List.append_nil]; exact List.mem_cons_self)
    have S4 : Inv (X.suite a (X.pn ++ pn0)) [] _ H1 s2 := inv_unpin okX S3
    have noC : ∀ y cl, (X.suite a (X.pn ++ pn0)).env.cells.lookup y = some cl → cl ≠ a := fun y cl z1 z2 => by
        obtain ⟨v, o1, q1, q2⟩ := S3.cell y cl z1
        rw [z2] at q1
        rw [show s2.heap.get? a = some ob2 from e1] at q1
        cases q1
        exact e5 v q2
    have k0 : ObjOk X.prog X.w (upd H1 a (.frz ob2 (HexZ cls d a))) s2.heap a (.frz ob2 (HexZ cls d a)) := ⟨e1, hexZ_ok (cls := cls) (d := d) e1 zc2.zc dt2⟩
    have T := inv_trackO (X := X.suite a (X.pn ++ pn0)) S4 e2 new0 (by rw [List.append_nil]; exact newP) notL noC k0
    refine wpAny_mono ((hsu a ob2 ws2 (X.pn ++ pn0) dt2 (zc2.2.2 _ dt2)).run [] s2 _ _ (endS i Dn) T (fin a ob2 (by rw [J.len]; exact (List.getElem?_eq_some_iff.mp hi).1) na)) (fun fl s3 done => ?_) fun _ _ z => z.elim
    have end_ : ∀ {σ6 : L2.St} {H6 : Hp} {Q : Shared → Prop}, Inv (X.suite a (X.pn ++ pn0)) [] σ6 H6 s3 → (∀ s7, Inv X pn0 (σ6.set i none) H6 s7 → Q s7) →
          wpAny (model X.prog X.w) X.A (do bindName X.env n .none; unbindBehindTheSuite X.env n hpos) (fun _ s7 => Q s7) X.xe s3 := fun {σ6 H6 Q} S6 hq => gone_ok (inv_leaveS okX S6) hN hi hln hq
    cases fl with
    | next =>
      obtain ⟨σ3, H3, S6, q⟩ := done
      exact end_ S6 fun s7 J7 => ⟨_, _, J7, q⟩
    | brk =>
      obtain ⟨σ3, H3, S6, q⟩ := done
      exact end_ S6 fun s7 J7 => ⟨_, _, J7, q⟩
    | cont =>
      obtain ⟨σ3, H3, S6, q⟩ := done
      exact end_ S6 fun s7 J7 => ⟨_, _, J7, q⟩
    | ret v =>
      obtain ⟨v3, σ3, H3, S6, r3, q⟩ := done
      exact end_ S6 fun s7 J7 => ⟨_, _, _, J7, r3, q⟩
  refine wpAny_mono ((hb (wSuiteN X.K c i ts Dn) (X.pn ++ pn0) _ (fun u s1 w => caught u s1 _ w) PassesOwn.looking).run [] st σ0 H0 Dn (Iv.toTry _) rd) (fun fl s1 done => ?_) fun _ _ z => z
  cases fl with
  | next => obtain ⟨σ1, H1, J, q⟩ := done; exact wpAny_execs_nil ⟨σ1, H1, J.ofTry okX, q⟩
  | brk => obtain ⟨σ1, H1, J, q⟩ := done; exact ⟨σ1, H1, J.ofTry okX, q⟩
  | cont => obtain ⟨σ1, H1, J, q⟩ := done; exact ⟨σ1, H1, J.ofTry okX, q⟩
  | ret v => obtain ⟨v1, σ1, H1, J, r, q⟩ := done; exact ⟨v1, σ1, H1, J.ofTry okX, r, q⟩
end
/-- the call f(n) at the beginning of the suite -/
def tHot (i : Nat) (a : Addr) (ob : Obj) (sp : Sp) : TE := fun σ H Q => σ[i]? = some (some (.ref a)) ∧ (∃ u, H a = some (.frz ob u)) ∧ sp [.ref a] H Q (fun _ _ _ => False)
section
variable {X : Cx} {k i : Nat} {f : Addr} {ps : List Str} {g : FN} {y n : Str} {a : Addr} {ob : Obj} {ws : Array Value} {pn : List (Addr × Obj)} {p p2 pos : Pos}
theorem pe_hot (D : DefHot X.prog X.w X.K X.mg X.base k f ps g) (hp : ps.length = 1) (hr : Room k X.A) (d1 : ob.data = .fields ws) (d2 : ws[2]? = some .none) (hi : X.N[i]? = some n) (hv : Vis X.env.scope n) (hm : X.mg y = some (.ref f)) (hg : Gl X y) (hd : (n == ("__debug__" : Str)) = false) (hcd : (n == ("__classdict__" : Str)) = false) (hdb : (y == ("__debug__" : Str)) = false)
    (he : starEach [.Name n p2] X.env = (false, eval (.Name n p2) X.env) :: starEach [] X.env) (hpl : (backTo pos (starEach [] X.env)).any (·.1) = false) : PE (X.suite a pn) (.Call (.Name y p) [.Name n p2] [] pos) (tHot i a ob (spN X.K ps.length g)) := by
  obtain ⟨fd, F, hb⟩ := D.ex
  refine ⟨fun pins s σ H Q I q => ?_⟩
  obtain ⟨q1, ⟨u, q2⟩, q3⟩ := q
  refine wpAny_Call_Name_kw (ld_glob (X := X.suite a pn) I hg hm ?_ hdb)
  have ha : PA (X.suite a pn) [.Name n p2] (tCons (tVar i) tNil) := pa_cons (pe_var (X := X.suite a pn) hi hv hd hcd) pa_nil he
  refine PySem.W.callWith_K (h₀ := X.base) I.ok.mod.kin D.kp (thn (ha.run pos pins s σ H (fun vs H1 => vs = [.ref a] ∧ H1 = H) I ⟨_, q1, rfl, rfl⟩) fun us s1 z => ?_) he hpl
  obtain ⟨vs, H1, I1, r1, ev, eH⟩ := z
  subst ev
  subst eH
  refine ⟨I1.kIn, ?_⟩
  have ln : (us ++ []).length = ps.length := by rw [List.append_nil, ← r1.length, hp]; rfl
  have b := hb s1 us I1.kIn ln
  rw [List.append_nil] at b
  refine wpAny_call (codeAny_mono (F.run (X.suite a pn).A X.stack s1 H1 ⟨us, []⟩ us _ Q _ a ob u ws ⟨hr.dp, hr.un⟩ rfl q2 d1 d2 I1.env0 b r1 q3) fun r s' hq => ?_)
  cases r with
  | error e => exact False.elim hq
  | ok fl =>
    cases fl with
    | ret z => exact I1.after hq
    | next => exact False.elim hq
    | brk => exact False.elim hq
    | cont => exact False.elim hq
end
def excD (C : String) : Pay → D
  | none => .exc C
  | some q => .excf C q.1 q.2
/-! ### raise, where the context is known to be None -/
section
variable {P : Program} {w : World} {K : PySem.W.Frag} {mg : Str → Option Value} {base : Heap} {k j : Nat} {f : Addr} {fd : FuncData} {ps : List Str} {g : FN}
theorem FnHot.mono {sp : Sp} (F : FnHot P w K mg base j f fd ps sp) (h : j ≤ k) : FnHot P w K mg base k f fd ps sp := ⟨F.len, fun A out s H args us vs Q E a ob u ws hr => F.run A out s H args us vs Q E a ob u ws (hr.mono h)⟩
theorem DefHot.up (d : DefHot P w K mg base j f ps g) (h : j ≤ k) : DefHot P w K mg base k f ps g := let ⟨fd, a, b⟩ := d.ex; ⟨⟨fd, a.mono h, b⟩, d.kp⟩
theorem huH {A : Around} (hr : L2H.RoomH k A) : A.units + 64 < cLine := by have := hr.un; omega
end
end HR
set_option Elab.async false
set_option linter.all false
set_option maxRecDepth 20000
set_option exponentiation.threshold 5000
namespace HR
open PySem PySem.Spec PyProof.Rows L2
/-! ### an exception with a field, made where the context is known to be None -/
section
variable {X : Cx} {W : WX} {k : Nat} {C f : String} {p pos : Pos} {a : Expr} {fa : SE}
/-- a call of an own exception class: the object has no context -/
theorem pmk_oexN {CX : CXT} {x : Str} {C fI : Addr} {k : Nat} {fd : FuncData} {ps : List Str} {sp : Sp} {ds : List Value} {dvs : List V} {ta : TA} {e : Expr} {es : List Expr} {p pos : Pos} (T : OexC X.K C) (iC : PySem.W.findIn X.K (.ref C) "__init__" = some (some (.ref fI)))
    (tI : PySem.W.typeIn X.K (.ref fI) = some (.type "function")) (F1 : FnOk X.prog X.w X.K X.mg X.base CX k fI fd ps sp) (hr : Room (k + 1) X.A) (hb : Binds X.K fd ps ds) (hd : Vals dvs ds) (hx : Passes CX X (fun _ _ _ => False)) (hg : Gl X x) (hm : X.mg x = some (.ref C))
    (ha : PA X (e :: es) ta) (hdb : (x == ("__debug__" : Str)) = false) (he : starEach (e :: es) X.env = (false, eval e X.env) :: starEach es X.env) (hpl : (backTo pos (starEach es X.env)).any (·.1) = false) :
    L2N.PMk X (.Call (.Name x p) (e :: es) [] pos) (tMkO C sp dvs ta) := by
  intro pins s σ H Q I h
  obtain ⟨nm, q, N, bs, bm, sn, sub, ab, col, dd, k0, k1, k2, k3, k5, hC, hbm⟩ := T.cls
  have args := ha.run pos pins s σ H _ I h
  refine wpAny_Call_Name_kw (ld_glob I hg hm (PySem.W.callWith_K (h₀ := X.base) I.ok.mod.kin T.kC (thn args ?_) he hpl) hdb)
  rintro us ⟨hp, g, dr, tk, os⟩ ⟨vs, H1, I1, r1, hz, q1⟩
  refine ⟨I1.kIn, ?_⟩
  show wpAny _ _ (call (.ref C) us) _ _ _
  have hsz : hp.objs.size ≤ hp.objs.size + 1 := Nat.le_succ _
  have hq := q1 _ (I1.hok.fresh hsz)
  have kk : ∀ b o, hp.get? b = some o → ((hp.push (PySem.W.kdv_tup us)).push (PySem.HandSPX.excO C hp.objs.size)).get? b = some o := fun b o e => Heap.get?_push_of_some _ (Heap.get?_push_of_some _ e)
  have I2 : Inv X pins σ (upd H1 (hp.objs.size + 1) (exo (hp.objs.size + 1) C none)) ⟨(hp.push (PySem.W.kdv_tup us)).push (PySem.HandSPX.excO C hp.objs.size), g, dr, tk, os⟩ := I1.laid (t' := tk) kk hsz (exo_ok (by heap_get))
  have r2 : Vals (V.ref (hp.objs.size + 1) :: (vs ++ dvs)) (Value.ref (hp.objs.size + 1) :: (us ++ ds)) := .cons rfl (r1.append hd)
  have hl := r2.length
  rw [F1.len _ _ _ _ hq] at hl
  have body := F1.run _ X.stack _ _ ⟨Value.ref (hp.objs.size + 1) :: us, []⟩ (Value.ref (hp.objs.size + 1) :: (us ++ ds)) _ _ (fun _ _ _ => False) (hr.make C us []) (I2.env0.make C us []) (hb _ (Value.ref (hp.objs.size + 1) :: us) I2.kIn hl.symm) r2 hq
  have sl : us.length ≤ sizeLine := by rw [← Paired.length r1, sizeLine_eq]; omega
  refine wpAny_call (PySem.HandSPX.call_own F.excBase_ValueError (fun Y => PySem.HandSPX.refsVE_contains Y bm hbm) (I1.kIn _ _ hC) (PySem.W.looks_findIn I1.kIn iC) (fun self => PySem.W.bind_fn I1.kIn self tI) sl (codeAny_mono body ?_))
  intro r s' hq'
  match r, hq' with
  | .error er, hq' => exact hx pins σ _ _ er s' I2 hq'
  | .ok (.ret u), hq' =>
    obtain ⟨v, H2, os2, bare2, un2, hok2, rv, ev, d, fs, ea, ed, hd1, q2⟩ := hq'
    subst ev
    obtain ⟨h2, g2, d2, t2, os'⟩ := s'
    obtain ⟨t0, G, J, kG, ge, hoe, na⟩ := mk_end0 (d2 := d2) (t2 := t2) I1 hsz kk un2 hok2 os2 bare2 ea ed hd1
    exact ⟨rv, _, _, _, ⟨G, g2, d2, t2, os'⟩, _, .ref C, some d, rfl, J, kG, ge, hoe, ⟨rfl, rfl, fun vs e => by cases e; rfl⟩, rfl, rfl, na, rfl, bare2, raises_own T.exC T.tyC, q2⟩
theorem pmk_fN (D : DefI X.prog X.w X.K X.mg X.base k C f) (hr : Room (k + 1) X.A) (hm : X.mg (Str.ofString C) = some (.ref (He.ga X.K (Str.ofString C)))) (hg : Gl X (Str.ofString C)) (ha : DE X W a fa) (hdb : (Str.ofString C == ("__debug__" : Str)) = false := by decide)
    (he : starEach [a] X.env = (false, eval a X.env) :: starEach [] X.env := by rfl) (hpl : (backTo pos (starEach [] X.env)).any (·.1) = false := by rfl) :
    L2N.PMk X (.Call (.Name (Str.ofString C) p) [a] [] pos) (fun σ H Q => rdG X.K W (Den X.K) fa σ H fun v H1 => ∀ dx, H1 dx = none → Q (.ref (He.ga X.K (Str.ofString C))) (some dx) (upd H1 dx (.xd [(Str.ofString f, v)]))) := by
  obtain ⟨fd, s0, y, F1, hb⟩ := D.ex
  intro pn s σ H Q I q
  refine pmk_oexN D.T.oc D.T.iC D.T.tI F1 hr hb .nil (pass0 (X := X)) hg hm (pa_cons ha pa_nil he) hdb he hpl pn s σ H Q I ?_
  have fin : ∀ v H1, (∀ dx, H1 dx = none → Q (.ref (He.ga X.K (Str.ofString C))) (some dx) (upd H1 dx (.xd [(Str.ofString f, v)]))) → [v].length ≤ 1000 ∧ ∀ x, H1 x = none → spInit X.K C f (.ref x :: ([v] ++ [])) (upd H1 x (exo x (He.ga X.K (Str.ofString C)) none))
      (fun r H2 => r = .non ∧ ∃ (d : Addr) (fs : List (Str × V)), H2 x = some (exo x (He.ga X.K (Str.ofString C)) (some d)) ∧ H2 d = some (exd d fs) ∧ H1 d = none ∧ Q (.ref (He.ga X.K (Str.ofString C))) (some d) (upd (del H2 x) d (.xd fs))) (fun _ _ _ => False) := by
    intro v H1 z
    refine ⟨by show 1 ≤ 1000; omega, fun x nx => ⟨x, v, rfl, upd_same, fun dx nd ne => ⟨rfl, dx, [(Str.ofString f, v)], upd_same, ?_, ?_, ?_⟩⟩⟩
    · rw [upd_ne ne, upd_same]
    · rw [upd_ne ne] at nd
      exact nd
    · have nd1 : H1 dx = none := by rw [upd_ne ne] at nd; exact nd
      have eq : upd (del (upd (upd (upd H1 x (exo x (He.ga X.K (Str.ofString C)) none)) dx (exd dx [(Str.ofString f, v)])) x (exo x (He.ga X.K (Str.ofString C)) (some dx))) x) dx (.xd [(Str.ofString f, v)]) = upd H1 dx (.xd [(Str.ofString f, v)]) := by
        funext b
        by_cases hb : b = dx
        · rw [hb, upd_same, upd_same]
        · rw [upd_ne hb, upd_ne hb]
          by_cases hx : b = x
          · rw [hx, del_same, nx]
          · rw [del_ne hx, upd_ne hx, upd_ne hb, upd_ne hx]
      rw [eq]
      exact z dx nd1
  obtain ⟨P, F, m, e, h, S, E, q⟩ := q
  refine ⟨P, F, m, e, h, S, E, ?_⟩
  cases g : fa e h with
  | bad => rw [g] at q; exact q.elim
  | exc C p h1 => rw [g] at q; exact q
  | ok d h1 => rw [g] at q; exact fun v F1 m1 H1 x1 S1 r1 => fin v H1 (q v F1 m1 H1 x1 S1 r1)
theorem ds_raiseFN (tk : L2N.Takes X W) (hcm : X.calm = true) (D : DefI X.prog X.w X.K X.mg X.base k C f) (hr : Room (k + 1) X.A) (hm : X.mg (Str.ofString C) = some (.ref (He.ga X.K (Str.ofString C)))) (hg : Gl X (Str.ofString C)) (ha : DE X W a fa) (hdb : (Str.ofString C == ("__debug__" : Str)) = false := by decide)
    (he : starEach [a] X.env = (false, eval a X.env) :: starEach [] X.env := by rfl) (hpl : (backTo p (starEach [] X.env)).any (·.1) = false := by rfl) {p3 : Pos} :
    DS X W (.Raise (some (.Call (.Name (Str.ofString C) pos) [a] [] p)) none p3) (sRaiseF C f fa) := PS.of (L2N.ps_raise hcm tk (pmk_fN D hr hm hg ha hdb he hpl)) fun Dn σ H => by
  rintro ⟨P, F, m, e, h, S, E, fin⟩
  refine st_seq S E fin fun F1 m1 h1 H1 v d x1 S1 E1 r1 fin1 => ?_
  intro dx n
  have x2 := S1.extF (o := .xd [(Str.ofString f, v)]) n
  exact fin1 (some dx) σ _ m1 _ x2 (S1.frozen n) ⟨dx, v, rfl, upd_same, r1.mono x2⟩ (E1.mono x2)
end
end HR
set_option Elab.async false
set_option linter.all false
set_option maxRecDepth 20000
set_option exponentiation.threshold 5000
namespace HR
open PySem PySem.Spec PyProof.Rows L2
/-! ### sorted(ints); list(range(a, b)) -/
def insI (x : Int) : List Int → List Int
  | [] => [x]
  | y :: ys => if x ≤ y then x :: y :: ys else y :: insI x ys
def sortI : List Int → List Int
  | [] => []
  | x :: xs => insI x (sortI xs)
def opSortI : D → OH → Res D := fun d h => match (lsqAt h d).bind intsOf with
  | some ns => .ok (.lst ((sortI ns).map .int)) h
  | none => .bad
section
variable {X : Cx} {W : WX}
/-- list(range(a, b)) -/
def sLstRg (fa fb : SE) : SE := fun e h => (fa e h).bind fun x h1 => (fb e h1).bind fun y h2 => match x, y with
  | .int i, .int j => if 0 ≤ i ∧ i ≤ 1000000 ∧ 0 ≤ j ∧ j ≤ 1000000 then .ok (.lst ((List.range (j - i).toNat).map fun k => .int (i + (k : Nat)))) h2 else .bad
  | _, _ => .bad
end
section
variable {PD : D → OH → Prop}
@[simp] theorem W_sortI (d : D) (h : OH) : (opSortI d h).W PD = match (lsqAt h d).bind intsOf with
  | some ns => PD (.lst ((sortI ns).map .int)) h
  | none => False := by
  unfold opSortI
  cases (lsqAt h d).bind intsOf <;> rfl
end
end HR
set_option Elab.async false
set_option linter.all false
set_option maxRecDepth 100000
namespace HR
open PySem
/-! ### list(zip(a, b)), two lists: on the heap -/
section
variable {prog : Program} {w : World} {A : Around}
/-- a zip of two lists, i items given -/
def ZipSt (z TI TO i1 i2 l1 l2 S : Addr) (xs ys : Array Value) (i : Nat) (h : Heap) : Prop :=
  IsPair h TI (.ref i1) (.ref i2) ∧ h.IsListIter i1 l1 i ∧ h.IsListIter i2 l2 i ∧ h.IsList l1 xs ∧ h.IsList l2 ys ∧ (∃ o, h.get? TO = some o) ∧
    ((IsZip h z TI TO .none ∧ ∃ a b, IsPair h TO a b) ∨ ∃ T f oT, IsZipHeld h z TI TO T f ∧ h.get? T = some oT ∧ T ≠ z ∧ T ≠ i1 ∧ T ≠ i2 ∧ T ≠ S)
/-- the pairs that lie in the list -/
def ZipAcc (z TO i1 i2 S B : Addr) (xs ys : Array Value) (acc : Array Value) (i : Nat) (h : Heap) : Prop :=
  acc.size = i ∧ ∀ (j : Nat) (v : Value), acc[j]? = some v → ∃ (T : Addr) (x y : Value), v = Value.ref T ∧ xs[j]? = some x ∧ ys[j]? = some y ∧ IsPair h T x y ∧ B ≤ T ∧ T ≠ z ∧ T ≠ TO ∧ T ≠ i1 ∧ T ≠ i2 ∧ T ≠ S ∧ ∀ k : Nat, acc[k]? = some v → k = j
variable {z TI TO i1 i2 l1 l2 S B : Addr} {xs ys : Array Value}
theorem ZipSt.at {i : Nat} {h h' : Heap} (q : ZipSt z TI TO i1 i2 l1 l2 S xs ys i h) (dS : S ≠ z ∧ S ≠ TI ∧ S ≠ TO ∧ S ≠ i1 ∧ S ≠ i2 ∧ S ≠ l1 ∧ S ≠ l2) (hk : ∀ b o, b ≠ S → h.get? b = some o → h'.get? b = some o) : ZipSt z TI TO i1 i2 l1 l2 S xs ys i h' := by
  obtain ⟨dz, dTI, dTO, di1, di2, dl1, dl2⟩ := dS
  obtain ⟨hTI, h1, h2, hl1, hl2, ⟨oO, hO⟩, hz⟩ := q
  refine ⟨hk _ _ (Ne.symm dTI) hTI, h1.at fun o e => hk _ o (Ne.symm di1) e, h2.at fun o e => hk _ o (Ne.symm di2) e, hl1.at fun o e => hk _ o (Ne.symm dl1) e, hl2.at fun o e => hk _ o (Ne.symm dl2) e, ⟨oO, hk _ _ (Ne.symm dTO) hO⟩, ?_⟩
  rcases hz with ⟨hz, a, b, hTO⟩ | ⟨T, f, oT, hz, hT, r1, r2, r3, r4⟩
  · exact .inl ⟨hk _ _ (Ne.symm dz) hz, a, b, hk _ _ (Ne.symm dTO) hTO⟩
  · exact .inr ⟨T, f, oT, hk _ _ (Ne.symm dz) hz, hk _ _ r4 hT, r1, r2, r3, r4⟩
theorem ZipAcc.at {i : Nat} {acc : Array Value} {h h' : Heap} (q : ZipAcc z TO i1 i2 S B xs ys acc i h) (hk : ∀ b o, b ≠ z → b ≠ TO → b ≠ i1 → b ≠ i2 → b ≠ S → h.get? b = some o → h'.get? b = some o) : ZipAcc z TO i1 i2 S B xs ys acc i h' :=
  ⟨q.1, fun j v e => by
    obtain ⟨T, x, y, a1, a2, a3, a4, a5, a6, a7, a8, a9, a10, a11⟩ := q.2 j v e
    exact ⟨T, x, y, a1, a2, a3, hk _ _ a6 a7 a8 a9 a10 a4, a5, a6, a7, a8, a9, a10, a11⟩⟩
theorem ZipAcc.push {i : Nat} {acc : Array Value} {h : Heap} {T : Addr} {x y : Value} (q : ZipAcc z TO i1 i2 S B xs ys acc i h) (hx : xs[i]? = some x) (hy : ys[i]? = some y) (hp : IsPair h T x y) (hB : B ≤ T) (hT : T ≠ z ∧ T ≠ TO ∧ T ≠ i1 ∧ T ≠ i2 ∧ T ≠ S) (hn : ∀ k : Nat, acc[k]? ≠ some (Value.ref T)) : ZipAcc z TO i1 i2 S B xs ys (acc.push (.ref T)) (i + 1) h := by
  obtain ⟨q1, q2⟩ := q
  refine ⟨by rw [Array.size_push, q1], fun j v e => ?_⟩
  rw [Array.getElem?_push] at e
  split at e
  · rename_i ej
    cases e
    rw [q1] at ej
    subst ej
    refine ⟨T, x, y, rfl, hx, hy, hp, hB, hT.1, hT.2.1, hT.2.2.1, hT.2.2.2.1, hT.2.2.2.2, fun k ek => ?_⟩
    rw [Array.getElem?_push] at ek
    split at ek
    · rename_i e2
      rw [e2, q1]
    · exact absurd ek (hn k)
  · obtain ⟨T2, x2, y2, a1, a2, a3, a4, a5, a6, a7, a8, a9, a10, a11⟩ := q2 j v e
    refine ⟨T2, x2, y2, a1, a2, a3, a4, a5, a6, a7, a8, a9, a10, fun k ek => ?_⟩
    rw [Array.getElem?_push] at ek
    split at ek
    · cases ek
      exact absurd e (hn j)
    · exact a11 k ek
end
end HR
set_option Elab.async false
set_option linter.all false
set_option maxRecDepth 20000
set_option exponentiation.threshold 5000
set_option Elab.async false
set_option linter.all false
set_option maxRecDepth 20000
set_option exponentiation.threshold 5000
namespace HR
open PySem PySem.Spec PyProof.Rows L2
/-! ### list(zip(a, b)), as a value -/
def sLstZip (fa fb : SE) : SE := fun e h => (fa e h).bind fun x h1 => (fb e h1).bind fun y h2 => match lsqAt h2 x, lsqAt h2 y with
  | some xs, some ys => .ok (.lst ((xs.zip ys).map fun p => .tup [p.1, p.2])) h2
  | _, _ => .bad
section
variable {PD : D → OH → Prop}
@[simp] theorem W_lstZip (fa fb : SE) (e : Env') (h : OH) : (sLstZip fa fb e h).W PD = (fa e h).W fun x h1 => (fb e h1).W fun y h2 => match lsqAt h2 x, lsqAt h2 y with
  | some xs, some ys => PD (.lst ((xs.zip ys).map fun p => .tup [p.1, p.2])) h2
  | _, _ => False := by
  unfold sLstZip; rw [W_bind]; congr; funext d h1
  rw [W_bind]; congr; funext d2 h2
  cases lsqAt h2 d with
  | none => rfl
  | some xs => cases lsqAt h2 d2 <;> rfl
@[simp] theorem W_lstRg (fa fb : SE) (e : Env') (h : OH) : (sLstRg fa fb e h).W PD = (fa e h).W fun x h1 => (fb e h1).W fun y h2 => match x, y with
  | .int i, .int j => if 0 ≤ i ∧ i ≤ 1000000 ∧ 0 ≤ j ∧ j ≤ 1000000 then PD (.lst ((List.range (j - i).toNat).map fun k => .int (i + (k : Nat)))) h2 else False
  | _, _ => False := by
  unfold sLstRg; rw [W_bind]; congr; funext d h1
  rw [W_bind]; congr; funext d2 h2
  cases d <;> cases d2 <;> first | rfl | (dsimp only; split <;> rfl)
end
end HR
set_option Elab.async false
set_option linter.all false
set_option maxRecDepth 20000
set_option exponentiation.threshold 5000
set_option Elab.async false
set_option linter.all false
set_option maxRecDepth 20000
set_option exponentiation.threshold 5000
namespace HR
open PySem PySem.Spec PyProof.Rows L2
/-! ### sorted(triples of small ints) -/
abbrev T3 := Int × Int × Int
def B6 : Int := 1000000
def ns3 (p : T3) : List Int := [p.1, p.2.1, p.2.2]
def cd3 (p : T3) : Int := TS.code B6 (ns3 p)
def ok3 (p : T3) : Bool := decide (0 ≤ p.1 ∧ p.1 < B6 ∧ 0 ≤ p.2.1 ∧ p.2.1 < B6 ∧ 0 ≤ p.2.2 ∧ p.2.2 < B6)
def d3 (p : T3) : D := .tup [.int p.1, .int p.2.1, .int p.2.2]
def ins3 (x : T3) : List T3 → List T3
  | [] => [x]
  | y :: ys => if cd3 x ≤ cd3 y then x :: y :: ys else y :: ins3 x ys
def sort3 : List T3 → List T3
  | [] => []
  | x :: xs => ins3 x (sort3 xs)
def tripOf : D → Option T3
  | .tup [.int a, .int b, .int c] => some (a, b, c)
  | _ => none
def tripsOf : List D → Option (List T3)
  | [] => some []
  | x :: xs => match tripOf x, tripsOf xs with
    | some p, some ps => some (p :: ps)
    | _, _ => none
@[simp] theorem tripsOf_map (ps : List T3) : tripsOf (ps.map d3) = some ps := by
  induction ps with
  | nil => rfl
  | cons p ps ih => simp only [List.map_cons, tripsOf, ih]; rfl
def opSort3 : D → OH → Res D := fun d h => match (lsqAt h d).bind tripsOf with
  | some ts => if ts.all ok3 = true ∧ ts.length < 64 then .ok (.lst ((sort3 ts).map d3)) h else .bad
  | none => .bad
section
variable {PD : D → OH → Prop}
@[simp] theorem W_sort3 (d : D) (h : OH) : (opSort3 d h).W PD = match (lsqAt h d).bind tripsOf with
  | some ts => if ts.all ok3 = true ∧ ts.length < 64 then PD (.lst ((sort3 ts).map d3)) h else False
  | none => False := by
  unfold opSort3
  cases (lsqAt h d).bind tripsOf with
  | none => rfl
  | some ts => dsimp only; split <;> rfl
end
end HR
set_option Elab.async false
set_option linter.all false
set_option maxRecDepth 20000
set_option exponentiation.threshold 5000
namespace HR
open PySem PySem.Spec PyProof.Rows L2
/-! ### a[i], b[j] = x, y for own lists -/
section
variable {X : Cx} {W : WX}
def putL (o i : SE) (y : D) (k : SS) : SS := fun e h => (o e h).toS e fun x h2 => (i e h2).toS e fun kk h3 => match x, kk with
  | .ref n, .int j => (match h3[n]? with
    | some (.lst xs) => (match ixN xs.length j with
      | some q => k e (h3.set n (.lst (xs.set q y)))
      | none => .bad)
    | _ => .bad)
  | _, _ => .bad
def sSubL (o1 i1 o2 i2 v : SE) : SS := fun e h => (v e h).toS e fun y h1 => match y with
  | .tup [y1, y2] => putL o1 i1 y1 (putL o2 i2 y2 fun e h => .nx e h) e h1
  | _ => .bad
end
section
variable {N C B : Env' → OH → Prop} {R : D → OH → Prop}
@[simp] theorem SW_putL (o i : SE) (y : D) (k : SS) (e : Env') (h : OH) : (putL o i y k e h).W N C B R = (o e h).W fun x h2 => (i e h2).W fun kk h3 => match x, kk with
  | .ref n, .int j => lkL h3[n]? fun xs => lkS (ixN xs.length j) fun q => (k e (h3.set n (.lst (xs.set q y)))).W N C B R
  | _, _ => False := by
  unfold putL
  simp only [W_toS]
  congr; funext x h2; congr; funext kk h3
  cases x <;> cases kk <;> first | rfl | skip
  rename_i n j
  dsimp only
  cases h3[n]? with
  | none => rfl
  | some o => cases o with
    | lst xs => simp only [lkL_lst]; cases ixN xs.length j <;> rfl
    | _ => rfl
@[simp] theorem SW_subL (o1 i1 o2 i2 v : SE) (e : Env') (h : OH) : (sSubL o1 i1 o2 i2 v e h).W N C B R = (v e h).W fun y h1 => match y with
  | .tup [y1, y2] => (putL o1 i1 y1 (putL o2 i2 y2 fun e h => .nx e h) e h1).W N C B R
  | _ => False := by
  unfold sSubL
  simp only [W_toS]
  congr; funext y h1
  split <;> rfl
end
end HR
set_option Elab.async false
set_option linter.all false
set_option maxRecDepth 20000
set_option maxHeartbeats 1000000
/-! enumerate over an own list, which keeps its length meanwhile -/
namespace HR
open PySem L2 RZ
section
variable {X : Cx} {W : WX}
/-- j rounds are left of n -/
def forE (g : TF) (b : SS) (i n : Nat) : Nat → SS
  | 0 => fun e h => match h[i]? with
    | some (.lst ys) => if ys.length = n then .nx e h else .bad
    | _ => .bad
  | j + 1 => fun e h => match h[i]? with
    | some (.lst ys) => if ys.length = n then (match ys[n - (j + 1)]? with
      | some d => (match g (.tup [.int ((n - (j + 1) : Nat) : Int), d]) e h with
        | none => .bad
        | some e1 => (match b e1 h with
          | .nx e2 h2 => forE g b i n j e2 h2
          | .ct e2 h2 => forE g b i n j e2 h2
          | .bk e2 h2 => .nx e2 h2
          | r => r))
      | none => .bad) else .bad
    | _ => .bad
def sForE (f : SE) (g : TF) (b : SS) : SS := fun e h => (sRefL f e h).toS e fun i h1 => match h1[i]? with
  | some (.lst xs) => forE g b i xs.length xs.length e h1
  | _ => .bad
end
section
variable {N C B : Env' → OH → Prop} {R : D → OH → Prop}
@[simp] theorem SW_forE (f : SE) (g : TF) (b : SS) (e : Env') (h : OH) : (sForE f g b e h).W N C B R = (f e h).W fun d h1 => isR d fun i => lkO h1[i]? fun xs => (forE g b i xs.length xs.length e h1).W N C B R := by
  unfold sForE
  rw [W_toS, W_refL]
  congr; funext d h1; congr; funext i
  rcases h1[i]? with _ | o
  · rfl
  · cases o <;> rfl
end
end HR
set_option Elab.async false
set_option linter.all false
set_option maxRecDepth 20000
set_option maxHeartbeats 1000000
/-! d.get(k, x), k None too; range(a, b, c) with c above 0 -/
namespace HR
open PySem L2 RZ PySem.Spec PyProof.Rows
section
variable {X : Cx} {W : WX}
def sGet2 (fo fe ff : SE) : SE := fun e h => (fo e h).bind fun x h1 => match x with
  | .dct ks => (fe e h1).bind fun k h2 => (ff e h2).bind fun z h3 => match k with
    | .non => .ok z h3
    | k => (match keyD k with
      | some q => .ok ((getK ks q).getD z) h3
      | none => .bad)
  | _ => .bad
/-- range(a, b, c), c above 0 -/
def sRngP (a : SA) : SA := fun e h => (a e h).bind fun ds h1 => match ds with
  | [.int i, .int j, .int k] => if 0 ≤ i ∧ i ≤ 1000000 ∧ 0 ≤ j ∧ j ≤ 1000000 ∧ 0 < k ∧ k ≤ 1000 then .ok (rngS i k (if i < j then (j - i - 1) / k + 1 else 0).toNat) h1 else .bad
  | _ => .bad
end
section
variable {PD : D → OH → Prop} {PL : List D → OH → Prop}
@[simp] theorem W_get2 (fo fe ff : SE) (e : Env') (h : OH) : (sGet2 fo fe ff e h).W PD = (fo e h).W fun x h1 => match x with
  | .dct ks => (fe e h1).W fun k h2 => (ff e h2).W fun z h3 => match k with
    | .non => PD z h3
    | k => (match keyD k with
      | some q => PD ((getK ks q).getD z) h3
      | none => False)
  | _ => False := by
  unfold sGet2; rw [W_bind]; congr; funext x h1
  cases x <;> first | rfl | skip
  rename_i ks
  dsimp only
  rw [W_bind]; congr; funext k h2
  rw [W_bind]; congr; funext z h3
  cases k <;> rfl
@[simp] theorem W_rngP (f g k : SE) (e : Env') (h : OH) : (sRngP (sCons f (sCons g (sCons k sNil))) e h).W PL = (f e h).W fun x h1 => (g e h1).W fun y h2 => (k e h2).W fun z h3 => match x, y, z with
  | .int i, .int j, .int k => if 0 ≤ i ∧ i ≤ 1000000 ∧ 0 ≤ j ∧ j ≤ 1000000 ∧ 0 < k ∧ k ≤ 1000 then PL (rngS i k (if i < j then (j - i - 1) / k + 1 else 0).toNat) h3 else False
  | _, _, _ => False := by
  unfold sRngP
  simp only [sCons, sNil]
  cases f e h with
  | ok x h1 =>
    simp only [Res.bind_ok, W_ok]
    cases g e h1 with
    | ok y h2 =>
      simp only [Res.bind_ok, W_ok]
      cases k e h2 with
      | ok z h3 =>
        simp only [Res.bind_ok, W_ok]
        cases x <;> first | rfl | skip
        cases y <;> first | rfl | skip
        cases z <;> first | rfl | skip
        dsimp only
        split <;> rfl
      | _ => rfl
    | _ => rfl
  | _ => rfl
end
end HR
set_option Elab.async false
set_option linter.all false
set_option maxRecDepth 20000
set_option maxHeartbeats 1000000
/-! {k: list(v) for k, v in d.items()} of an own dict: the dict is locked meanwhile -/
set_option Elab.async false
set_option linter.all false
set_option maxRecDepth 20000
set_option maxHeartbeats 1000000
/-! sorted(d.items()) of an own dict with int keys in rising order, whose values are lists -/
set_option Elab.async false
set_option linter.all false
set_option maxRecDepth 20000
set_option maxHeartbeats 1000000
/-! sorted(d.items()) as a value -/
set_option Elab.async false
set_option linter.all false
set_option maxRecDepth 20000
set_option maxHeartbeats 1000000
/-! o.f, p.g, .. = a tuple, for own objects -/
set_option Elab.async false
set_option linter.all false
set_option maxRecDepth 20000
set_option maxHeartbeats 1000000
/-! name = {k: list(v) for k, v in d.items()} -/
set_option Elab.async false
set_option linter.all false
set_option maxRecDepth 20000
set_option maxHeartbeats 1000000
/-! own instances made with defaults; a default that is the empty tuple -/
set_option Elab.async false
set_option linter.all false
set_option maxRecDepth 20000
set_option maxHeartbeats 1000000
/-! C(k = v): an own instance made with one keyword argument -/
set_option Elab.async false
set_option linter.all false
set_option maxRecDepth 20000
set_option maxHeartbeats 1000000
/-! a, b, c = x, y, z -/
namespace HR
open PySem PySem.Spec PyProof.Rows L2
def sPar3 (i j l : Nat) (f : SA) : SS := fun e h => (f e h).toS e fun ds h1 => match ds with
  | [x, y, z] => .nx (((e.set i (some x)).set j (some y)).set l (some z)) h1
  | _ => .bad
section
variable {N C B : Env' → OH → Prop} {R : D → OH → Prop}
@[simp] theorem SW_par3 (i j l : Nat) (f : SA) (e : Env') (h : OH) : (sPar3 i j l f e h).W N C B R = (f e h).W fun ds h1 => match ds with
  | [x, y, z] => N (((e.set i (some x)).set j (some y)).set l (some z)) h1
  | _ => False := by
  unfold sPar3
  simp only [W_toS]
  congr; funext ds h1
  split <;> rfl
end
end HR
set_option Elab.async false
set_option linter.all false
set_option maxRecDepth 20000
set_option maxHeartbeats 1000000
/-! dict([pairs]) as an own dict -/
set_option Elab.async false
set_option linter.all false
set_option maxRecDepth 20000
set_option maxHeartbeats 1000000
/-! an own list is frozen, any other value stays -/
set_option Elab.async false
set_option linter.all false
set_option maxRecDepth 20000
set_option maxHeartbeats 1000000
/-! == of two own dicts, value by value -/
set_option Elab.async false
set_option linter.all false
set_option maxRecDepth 20000
set_option maxHeartbeats 1000000
/-! len(x) of an instance whose class has __len__ -/
set_option Elab.async false
set_option linter.all false
set_option maxRecDepth 20000
set_option maxHeartbeats 1000000
/-! x == y of two instances of a class with its own __eq__ -/
set_option Elab.async false
set_option linter.all false
set_option maxRecDepth 20000
set_option maxHeartbeats 1000000
/-! == of two tuples that hold own lists and own dicts -/
set_option Elab.async false
set_option linter.all false
set_option maxRecDepth 20000
set_option maxHeartbeats 1000000
/-! isinstance(x, C) for an own class C, x an instance of C or a value of a built-in type -/
namespace HR
open PySem PySem.Spec PyProof.Rows L2
def sIsO (C : String) (f : SE) : SE := fun e h => (f e h).bind fun d h1 => match insAt h1 d with
  | some p => if p.1 = C then .ok (.bl true) h1 else .bad
  | none => (match tyAt h1 d with
    | some t => if t ∈ tysB then .ok (.bl false) h1 else .bad
    | none => .bad)
section
variable {PD : D → OH → Prop}
@[simp] theorem W_sIsO (C : String) (f : SE) (e : Env') (h : OH) : (sIsO C f e h).W PD = (f e h).W fun d h1 => match insAt h1 d with
    | some p => if p.1 = C then PD (.bl true) h1 else False
    | none => (match tyAt h1 d with
      | some t => if t ∈ tysB then PD (.bl false) h1 else False
      | none => False) := by
  unfold sIsO
  rw [W_bind]
  congr; funext d h1
  cases insAt h1 d with
  | some p => dsimp only; split <;> rfl
  | none =>
    dsimp only
    cases tyAt h1 d with
    | none => rfl
    | some t => dsimp only; split <;> rfl
end
end HR
set_option Elab.async false
set_option linter.all false
set_option maxRecDepth 20000
set_option maxHeartbeats 1000000
/-! dict(d) of an own dict; [(k, list(m[f][k])) for k in m[f]]: the dict m[f] is locked meanwhile -/
set_option Elab.async false
set_option linter.all false
set_option maxRecDepth 20000
set_option maxHeartbeats 1000000
/-! x == y, x an instance of a class with its own __eq__, y one of them or a value of a built-in type; x != y by the same __eq__ -/
set_option Elab.async false
set_option linter.all false
set_option maxRecDepth 20000
namespace HR
open PySem L2
/-! ### methods that may raise -/
section
variable {X : Cx} {W : WX} {CX : CXT} {k : Nat} {f : Addr} {fd : FuncData} {ps : List Str} {g : FN}
/-- o.m(e, ..), the class written; what is raised goes out -/
def sMethX (C mt : String) (g : FN) (o : SE) (a : SA) : SE := fun e h => (o e h).bind fun x h1 => match insAt h1 x with
  | some q => if q.1 = C ∧ q.2.lookup mt = none then (a e h1).bind fun ys h2 => g (x :: ys) h2 else .bad
  | none => .bad
end
section
variable {PD : D → OH → Prop}
@[simp] theorem W_sMethX (K mt : String) (g : FN) (o : SE) (a : SA) (e : Env') (h : OH) : (sMethX K mt g o a e h).W PD = (o e h).W fun x h1 => lkS (insAt h1 x) fun q => q.1 = K ∧ hasNo q.2 mt ∧ (a e h1).W fun ys h2 => (g (x :: ys) h2).W PD := by
  unfold sMethX
  rw [W_bind]; congr; funext x h1
  cases insAt h1 x with
  | none => rfl
  | some q =>
    simp only [lkS_some]
    by_cases hz : q.1 = K ∧ q.2.lookup mt = none
    · have h1 : q.1 = K := hz.1
      have h2 : hasNo q.2 mt := hz.2
      rw [if_pos hz]
      simp [h1, h2]
    · rw [if_neg hz]
      exact propext ⟨fun z => z.elim, fun z => absurd ⟨z.1, z.2.1⟩ hz⟩
end
end HR
set_option Elab.async false
set_option linter.all false
set_option maxRecDepth 20000
set_option Elab.async false
set_option linter.all false
set_option maxRecDepth 100000
set_option maxHeartbeats 2000000
namespace HR
open PySem L2
/-! ### C(e, ..), what __init__ raises goes out -/
/-- C(e, ..): __init__ may raise -/
def sMakeX (C : String) (g : FN) (a : SA) : SE := fun e h => (a e h).bind fun ys h1 => match g (.ref h1.length :: ys) (h1 ++ [.ins C []]) with
  | .ok .non h2 => .ok (.ref h1.length) h2
  | .exc D p h2 => .exc D p h2
  | _ => .bad
section
variable {PD : D → OH → Prop}
@[simp] theorem W_sMakeX (C : String) (g : FN) (a : SA) (e : Env') (h : OH) : (sMakeX C g a e h).W PD = (a e h).W fun ys h1 => (g (.ref h1.length :: ys) (h1 ++ [.ins C []])).W fun d h2 => d = .non ∧ PD (.ref h1.length) h2 := by
  unfold sMakeX
  rw [W_bind]; congr; funext ys h1
  cases g (.ref h1.length :: ys) (h1 ++ [.ins C []]) with
  | ok d h2 => cases d <;> simp
  | exc D p h2 => rfl
  | bad => rfl
end
end HR
set_option Elab.async false
set_option linter.all false
set_option maxRecDepth 100000
set_option maxHeartbeats 2000000
set_option Elab.async false
set_option linter.all false
set_option maxRecDepth 100000
set_option maxHeartbeats 2000000
/-! a chain of three comparisons, xs.count(text), slices of texts, xs.index(x) of deep values, an except suite with a choice -/
namespace HR
open PySem L2 RZ PySem.Spec PyProof.Rows
/-! ### a <= b <= c <= d, as a test -/
def tChain3 (r : R2) (ta tb tc td : TE) : TT := fun σ H Q => ta σ H fun x H1 => tb σ H1 fun y H2 => r x y H2 fun z H3 => ∃ k, z = .bl k ∧
  (if k = true then tc σ H3 fun w H4 => r y w H4 fun z' H5 => ∃ k', z' = .bl k' ∧ (if k' = true then td σ H5 fun u H6 => r w u H6 fun z2 H7 => ∃ k2, z2 = .bl k2 ∧ Q k2 H7 else Q false H5) else Q false H3)
section
variable {X : Cx}
theorem pt_chain3 {op : CmpOp} {r : R2} {a b c d : Expr} {pos : Pos} {ta tb tc td : TE} (ho : OpR X (compareOp op) r) (ha : PE X a ta) (hb : PE X b tb) (hc : PE X c tc) (hd : PE X d td)
    (hm : lastMarks [op, op, op] [b, c, d] = false := by with_unfolding_all rfl) : PT X (.Compare a [op, op, op] [b, c, d] pos) (tChain3 r ta tb tc td) := by
  refine ⟨fun pins s σ H Q I h => ?_⟩
  refine isTrue_chain (thn (ha.run pins s σ H _ I h) fun v s1 ⟨x, H1, I1, r1, q1⟩ => test_link (thn (hb.run pins s1 σ H1 _ I1 q1) fun u s2 ⟨y, H2, I2, r2, q2⟩ =>
    thn (ho pins s2 σ H2 x y v u _ I2 r1 r2 q2) fun e s3 ⟨z, H3, I3, r3, k, ez, q3⟩ => ?_)) hm
  subst ez
  cases r3
  refine wpAny_truthy_bool ?_
  cases k with
  | false => exact ite_ff ⟨H3, I3, q3⟩
  | true =>
    refine ite_tt (test_link (thn (hc.run pins s3 σ H3 _ I3 q3) fun w' s4 ⟨w, H4, I4, r4, q4⟩ => thn (ho pins s4 σ H4 y w u w' _ I4 r2 r4 q4) fun e' s5 ⟨z2, H5, I5, r5, k2, e2, q5⟩ => ?_))
    subst e2
    cases r5
    refine wpAny_truthy_bool ?_
    cases k2 with
    | false => exact ite_ff ⟨H5, I5, q5⟩
    | true =>
      refine ite_tt (test_last (thn (hd.run pins s5 σ H5 _ I5 q5) fun d' s6 ⟨u3, H6, I6, r6, q6⟩ => thn (ho pins s6 σ H6 w u3 w' d' _ I6 r4 r6 q6) fun e3 s7 ⟨z3, H7, I7, r7, k3, e4, q7⟩ => ?_))
      subst e4
      cases r7
      exact wpAny_truthy_bool ⟨H7, I7, q7⟩
end
def isBlT (d : D) (h : OH) (t : OH → Res Bool) : Res Bool := match d with
  | .bl true => t h
  | .bl false => .ok false h
  | _ => .bad
def sChain3 (fa fb fc fd : SE) : ST := fun e h => (fa e h).bind fun a h1 => (fb e h1).bind fun b h2 => (opLe a b h2).bind fun k h3 => isBlT k h3 fun h3 =>
  (fc e h3).bind fun c h4 => (opLe b c h4).bind fun k h5 => isBlT k h5 fun h5 => (fd e h5).bind fun d h6 => (opLe c d h6).bind fun k h7 => isBlT k h7 fun h7 => .ok true h7
section
variable {X : Cx} {W : WX}
theorem dt_le3 {a b c d : Expr} {pos : Pos} {fa fb fc fd : SE} (ha : DE X W a fa) (hb : DE X W b fb) (hc : DE X W c fc) (hd : DE X W d fd) (hm : lastMarks [.LtE, .LtE, .LtE] [b, c, d] = false := by with_unfolding_all rfl) :
    DT X W (.Compare a [.LtE, .LtE, .LtE] [b, c, d] pos) (sChain3 fa fb fc fd) := PT.of (pt_chain3 op_le ha hb hc hd hm) fun σ H Q => by
  have hg : OpH X.K W opLe _ := opI2_h0 fun _ _ _ _ => .bl _
  rintro ⟨P, F, m, e, h, S, E, fin⟩
  refine rd_seq S E fin fun F1 m1 h1 H1 x dx x1 S1 E1 r1 fin1 => ?_
  refine rd_seq S1 E1 fin1 fun F2 m2 h2 H2 y dy x2 S2 E2 r2 fin2 => ?_
  refine hg P F2 m2 h2 H2 σ _ x y dx dy S2 (r1.mono x2) r2 ?_
  cases q : opLe dx dy h2 with
  | bad => rw [q] at fin2; exact fin2
  | exc C p h3 => rw [q] at fin2; exact fin2
  | ok z h3 =>
    rw [q] at fin2
    intro v F3 m3 H3 x3 S3 r3
    cases r3 with
    | bl b =>
      refine ⟨b, rfl, ?_⟩
      cases b with
      | false =>
        rw [if_neg Bool.false_ne_true]
        exact FinG.okX fin2 x3 S3 rfl
      | true =>
        rw [if_pos rfl]
        refine rd_seq S3 ((E2.mono x3)) (FinG.weak x3 fin2) fun F4 m4 h4 H4 u du x4 S4 E4 r4 fin4 => ?_
        refine hg P F4 m4 h4 H4 σ _ y u dy du S4 (r2.mono (x3.trans x4)) r4 ?_
        cases q2 : opLe dy du h4 with
        | bad => rw [q2] at fin4; exact fin4
        | exc C p h5 => rw [q2] at fin4; exact fin4
        | ok z5 h5 =>
          rw [q2] at fin4
          intro v5 F5 m5 H5 x5 S5 r5
          cases r5 with
          | bl b5 =>
            refine ⟨b5, rfl, ?_⟩
            cases b5 with
            | false =>
              rw [if_neg Bool.false_ne_true]
              exact FinG.okX fin4 x5 S5 rfl
            | true =>
              rw [if_pos rfl]
              refine rd_seq S5 ((E4.mono x5)) (FinG.weak x5 fin4) fun F6 m6 h6 H6 t dt x6 S6 E6 r6 fin6 => ?_
              refine hg P F6 m6 h6 H6 σ _ u t du dt S6 (r4.mono (x5.trans x6)) r6 ?_
              cases q3 : opLe du dt h6 with
              | bad => rw [q3] at fin6; exact fin6
              | exc C p h7 => rw [q3] at fin6; exact fin6
              | ok z7 h7 =>
                rw [q3] at fin6
                intro v7 F7 m7 H7 x7 S7 r7
                cases r7 with
                | bl b7 =>
                  refine ⟨b7, rfl, ?_⟩
                  cases b7 with
                  | false => exact FinG.okX fin6 x7 S7 rfl
                  | true => exact FinG.okX fin6 x7 S7 rfl
                | _ => exact FinG.bad_elim fin6
          | _ => exact FinG.bad_elim fin4
    | _ => exact FinG.bad_elim fin2
end
/-! ### xs.count(x), flat -/
theorem countU {x : V} : ∀ {xs : List V} {us : List Value}, Vals xs us → xs.all flatV = true → us.countP (eqU x) = xs.countP fun y => eqV y x
  | _, _, .nil, _ => rfl
  | y :: xs, u :: us, .cons r t, f => by
    rw [List.all_cons, Bool.and_eq_true] at f
    rw [List.countP_cons, List.countP_cons, countU t f.2, eqU_of r f.1]
def rCntF (K : PySem.W.Frag) : V → List V → Hp → VK → Prop := fun x xs H Q => ∃ (p : Addr) (ys : List V) (y : V), x = .ref p ∧ xs = [y] ∧ SqL K H p ys ∧ flatV y = true ∧ ys.all flatV = true ∧ Q (.int (ys.countP fun z => eqV z y : Nat)) H
section
variable {X : Cx}
theorem mt_countF : MtR X "list.count" (rCntF X.K) := by
  intro pins s σ H x xs v us Q I rx rxs h
  obtain ⟨p, ys, y, rfl, rfl, hs, fy, fys, q⟩ := h
  cases rx
  cases rxs with
  | cons ry rt =>
    rename_i uy ut
    cases rt
    obtain ⟨its, rv, ⟨⟨cls, dd, data, sl⟩, n, ho, hc, hdn, hd⟩, hlen⟩ := I.list hs
    simp only at hc hd
    subst hc hd
    refine call_meets PySem.F.slot_list_count ⟨_, ho, rfl⟩ PySem.F.entry_list_count (PySem.F.args_list_count_2 _ _)
      (SeqAt.list_countAt p its.toArray n dd sl uy (eqU y)) ⟨ho, fun u' hu' => mem_eqAt ry fy rv fys u' (by simpa using hu'), ?_⟩
    have ec : its.toArray.toList.countP (eqU y) = ys.countP fun z => eqV z y := countU rv fys
    refine ⟨.int (ys.countP fun z => eqV z y : Nat), H, I.tok _, ⟨s.toks, ?_⟩, q⟩
    show Value.int ((its.toArray.toList.countP (eqU y) : Nat) : Int) s.toks = _
    rw [ec]
end
def opCnt : D → D → OH → Res D := fun a b h => match (lsqAt h a).bind flatsD, flatD b with
  | some xs, some x => if flatV x && xs.all flatV then .ok (.int (xs.countP fun z => eqV z x : Nat)) h else .bad
  | _, _ => .bad
def sCnt (o : SE) (a : SA) : SE := fun e h => (o e h).bind fun x h1 => if (lsqAt h1 x).isSome then (a e h1).bind fun ys h2 => (match ys with
  | [y] => opCnt x y h2
  | _ => .bad) else .bad
section
variable {X : Cx} {W : WX}
theorem de_count {o a : Expr} {fo fa : SE} {apos cpos : Pos} (ho : DE X W o fo) (ha : DE X W a fa) (hbase : attributeBase o "count" X.env (eval o X.env) = eval o X.env := by rfl)
    (hfew : ((backTo cpos (starEach [a] X.env)).all (fun x => !x.1) && (backToKw cpos (keywordEach [] X.env)).all (fun x => x.1.isSome) && decide (([a] : List Expr).length + ([] : List Keyword).length + (if ([] : List Keyword).isEmpty then 0 else 1) < 30)) = true := by rfl)
    (hline : (apos.endLine == cpos.line) = true := by rfl) (hs : starEach [a] X.env = (false, eval a X.env) :: starEach [] X.env := by rfl) (hplain : (backTo cpos (starEach [] X.env)).any (·.1) = false := by rfl) : DE X W (.Call (.Attribute o "count" apos) [a] [] cpos) (sCnt fo (sCons fa sNil)) :=
  PE.of (pe_bm PySem.F.plainAttrs_list PySem.F.slot_list_count PySem.F.type_list_count mt_countF ho (da_cons ha da_nil hs) hbase hfew hline hs hplain) fun σ H Q => by
    rintro ⟨P, F, m, e, h, S, E, fin⟩
    refine rd_seq S E fin fun F1 m1 h1 H1 x dx x1 S1 E1 r1 fin1 => ?_
    by_cases hi : (lsqAt h1 dx).isSome = true
    · rw [if_pos hi] at fin1
      obtain ⟨xs, q⟩ := Option.isSome_iff_exists.mp hi
      obtain ⟨c, vs, rfl, hc, rc⟩ := lsqAt_ok S1 r1 q
      refine ⟨.inl ⟨rfl, vs, hc⟩, rd_seq S1 E1 fin1 fun F2 m2 h2 H2 ws ys x2 S2 E2 r2 fin2 => ?_⟩
      have r3 := r1.mono x2
      cases r2 with
      | nil => exact fin2.bad_elim
      | cons ra rr =>
        cases rr with
        | cons _ _ => exact fin2.bad_elim
        | nil =>
          dsimp only at fin2
          unfold opCnt at fin2
          cases q1 : lsqAt h2 dx with
          | none => rw [q1] at fin2; exact fin2.bad_elim
          | some ys =>
            rw [q1, Option.bind_some] at fin2
            cases q2 : flatsD ys with
            | none => rw [q2] at fin2; exact fin2.bad_elim
            | some zs =>
              rw [q2] at fin2
              rename_i vy dy
              cases q3 : flatD dy with
              | none => rw [q3] at fin2; exact fin2.bad_elim
              | some y =>
                rw [q3] at fin2
                dsimp only at fin2
                obtain ⟨c2, us, ec, hc2, rl⟩ := lsqAt_ok S2 r3 q1
                cases ec
                by_cases hz : (flatV y && zs.all flatV) = true
                · rw [if_pos hz] at fin2
                  obtain ⟨z1, z2⟩ := and2 hz
                  obtain rfl := flatD_ok ra q3
                  obtain rfl := flatsD_ok rl q2
                  exact ⟨c, us, vy, rfl, rfl, hc2, z1, z2, fin2.ok S2 (.int _)⟩
                · rw [if_neg hz] at fin2
                  exact fin2.bad_elim
    · rw [if_neg hi] at fin1
      exact fin1.bad_elim
end
/-! ### s[i:j], a text -/
def opCutT (a : D) (lo hi : Option Int) (h : OH) : Res D := match a with
  | .str z => if z.length ≤ big then .ok (.str (cutS z lo hi)) h else .bad
  | _ => .bad
def sCutT (a : SE) (lo hi : SO) : SE := fun e h => (a e h).bind fun x h1 => (lo e h1).bind fun l h2 => (hi e h2).bind fun u h3 => opCutT x l u h3
theorem de_cutT {X : Cx} {W : WX} {a : Expr} {lo hi : Option Expr} {p2 pos : Pos} {fa : SE} {fl fu : SO} (ha : DE X W a fa) (hl : DO X W lo fl) (hh : DO X W hi fu) : DE X W (.Subscript a (.Slice lo hi none p2) pos) (sCutT fa fl fu) :=
  PE.of (pe_slice sl_str ha hl hh) fun σ H Q => by
    rintro ⟨P, F, m, e, h, S, E, fin⟩
    refine rd_seq S E fin fun F1 m1 h1 H1 x dx x1 S1 E1 r1 fin1 => ?_
    refine rd_seq S1 E1 fin1 fun F2 m2 h2 H2 l dl x2 S2 E2 r2 fin2 => ?_
    refine rd_seq S2 E2 fin2 fun F3 m3 h3 H3 u du x3 S3 E3 r3 fin3 => ?_
    have r2 : l = dl := r2
    have r3 : u = du := r3
    subst r2 r3
    unfold opCutT at fin3
    cases r1 with
    | str z =>
      dsimp only at fin3
      by_cases hz : z.length ≤ big
      · rw [if_pos hz] at fin3
        exact ⟨z, rfl, big_line hz, fin3.ok S3 (.str _)⟩
      · rw [if_neg hz] at fin3
        exact fin3.bad_elim
    | _ => exact fin3.bad_elim
/-! ### xs.index(x), deep -/
def idxP (x : PyData) : List PyData → Option Nat
  | [] => none
  | y :: ys => if PyData.eqv y x then some 0 else (idxP x ys).map (· + 1)
theorem idxP_ok {x : PyData} : ∀ {ys : List PyData} {j : Nat}, idxP x ys = some j → ∃ z, ys[j]? = some z ∧ PyData.eqv z x = true ∧ ∀ (m : Nat) z', m < j → ys[m]? = some z' → PyData.eqv z' x = false
  | [], j, h => by cases h
  | y :: ys, j, h => by
    unfold idxP at h
    by_cases e : PyData.eqv y x = true
    · rw [if_pos e] at h
      cases h
      exact ⟨y, rfl, e, fun m z' hm => by omega⟩
    · rw [if_neg e, Option.map_eq_some_iff] at h
      obtain ⟨k, hk, rfl⟩ := h
      obtain ⟨z, h1, h2, h3⟩ := idxP_ok hk
      refine ⟨z, by simpa using h1, h2, fun m z' hm hz => ?_⟩
      cases m with
      | zero =>
        simp at hz
        subst hz
        simpa using e
      | succ m => exact h3 m z' (by omega) (by simpa using hz)
def opIdxD : D → D → OH → Res D := fun a b h => match pyAt h b, pyAt h a with
  | some d, some (.list ds) => if SeqAt.shaped d && SeqAt.shaped (.list ds) then (match idxP d ds with
    | some j => .ok (.int (j : Nat)) h
    | none => .bad) else .bad
  | _, _ => .bad
def sIdxD (o : SE) (a : SA) : SE := fun e h => (o e h).bind fun x h1 => if (lsqAt h1 x).isSome then (a e h1).bind fun ys h2 => (match ys with
  | [y] => opIdxD x y h2
  | _ => .bad) else .bad
section
variable {X : Cx} {W : WX}
theorem de_indexD {o a : Expr} {fo fa : SE} {apos cpos : Pos} (hu : X.A.units + 65 < cLine) (ho : DE X W o fo) (ha : DE X W a fa) (hbase : attributeBase o "index" X.env (eval o X.env) = eval o X.env := by rfl)
    (hfew : ((backTo cpos (starEach [a] X.env)).all (fun x => !x.1) && (backToKw cpos (keywordEach [] X.env)).all (fun x => x.1.isSome) && decide (([a] : List Expr).length + ([] : List Keyword).length + (if ([] : List Keyword).isEmpty then 0 else 1) < 30)) = true := by rfl)
    (hline : (apos.endLine == cpos.line) = true := by rfl) (hs : starEach [a] X.env = (false, eval a X.env) :: starEach [] X.env := by rfl) (hplain : (backTo cpos (starEach [] X.env)).any (·.1) = false := by rfl) : DE X W (.Call (.Attribute o "index" apos) [a] [] cpos) (sIdxD fo (sCons fa sNil)) :=
  PE.of (pe_bm PySem.F.plainAttrs_list PySem.F.slot_list_index PySem.F.type_list_index (mt_indexD hu) ho (da_cons ha da_nil hs) hbase hfew hline hs hplain) fun σ H Q => by
    rintro ⟨P, F, m, e, h, S, E, fin⟩
    refine rd_seq S E fin fun F1 m1 h1 H1 x dx x1 S1 E1 r1 fin1 => ?_
    by_cases hi : (lsqAt h1 dx).isSome = true
    · rw [if_pos hi] at fin1
      obtain ⟨xs, q⟩ := Option.isSome_iff_exists.mp hi
      obtain ⟨c, vs, rfl, hc, rc⟩ := lsqAt_ok S1 r1 q
      refine ⟨.inl ⟨rfl, vs, hc⟩, rd_seq S1 E1 fin1 fun F2 m2 h2 H2 ws ys x2 S2 E2 r2 fin2 => ?_⟩
      have r3 := r1.mono x2
      cases r2 with
      | nil => exact fin2.bad_elim
      | cons ra rr =>
        cases rr with
        | cons _ _ => exact fin2.bad_elim
        | nil =>
          dsimp only at fin2
          rename_i vy dy
          dsimp only [opIdxD] at fin2
          cases e1 : pyAt h2 dy with
          | none => rw [e1] at fin2; exact fin2.bad_elim
          | some p =>
            cases e2 : pyAt h2 dx with
            | none => rw [e1, e2] at fin2; exact fin2.bad_elim
            | some q =>
              rw [e1, e2] at fin2
              cases q with
              | list ds =>
                dsimp only at fin2
                by_cases hs : (SeqAt.shaped p && SeqAt.shaped (.list ds)) = true
                · rw [if_pos hs] at fin2
                  obtain ⟨s1, s2⟩ := and2 hs
                  cases q4 : idxP p ds with
                  | none => rw [q4] at fin2; exact fin2.bad_elim
                  | some j =>
                    rw [q4] at fin2
                    obtain ⟨z, j1, j2, j3⟩ := idxP_ok q4
                    exact ⟨c, vy, p, ds, j, z, rfl, rfl, pyAt_ok S2 r3 e2, pyAt_ok S2 ra e1, s2, s1, j1, j2, j3, fin2.ok S2 (.int _)⟩
                · rw [if_neg hs] at fin2
                  exact fin2.bad_elim
              | _ => exact fin2.bad_elim
    · rw [if_neg hi] at fin1
      exact fin1.bad_elim
end
/-! ### try: b, except B as n: m = x if g(n) == w else y -/
def sTryG (xs : List String) (i j : Nat) (g : FN) (fw fa fb : SE) (b : SS) : SS := fun e h => match b e h with
  | .exc C p e1 h1 => if C ∈ xs then (match g [excD C p] h1 with
      | .ok d h2 => (match fw (e1.set i (some (excD C p))) h2 with
        | .ok s h3 => (match opEqT false d s h3 with
          | .ok (.bl t) h4 => (match (if t then fa else fb) (e1.set i (some (excD C p))) h4 with
            | .ok r h5 => .nx (((e1.set i (some (excD C p))).set j (some r)).set i none) h5
            | _ => .bad)
          | _ => .bad)
        | _ => .bad)
      | _ => .bad) else .bad
  | r => r
section
variable {X : Cx} {W : WX}
theorem ds_tryG {B : String} {x n m y : Str} {xs : List String} {k : Nat} {f : Addr} {ps : List Str} {g : FN} (i j : Nat) {body : List Stmt} {ew ea eb : Expr} {fw fa fz : SE} {np p1 p2 p3 p4 p5 p6 hpos pos pos2 : Pos} {fb : SS} (hs : X.stack = X.env :: X.outer) (hf : X.env.frame = some X.env.locals) (hex : X.ex = []) (hN : X.N.Nodup)
    (hi : X.N[i]? = some n) (hj : X.N[j]? = some m) (hij : i ≠ j) (hln : X.env.kindOf n = some .local) (hx : x = Str.ofString B) (hc : Names X x (.ref (He.ga X.K (Str.ofString B))))
    (hm : ∀ C ∈ xs, PySem.W.exmOne X.K (.ref (He.ga X.K (Str.ofString C))) (.ref (He.ga X.K (Str.ofString B))) = some true)
    (D : DefHot X.prog X.w X.K X.mg X.base k f ps g) (hp : ps.length = 1) (hr : Room k X.A) (hu : X.A.units + 64 < cLine) (hmf : X.mg y = some (.ref f)) (hgf : Gl X y) (hv : Vis X.env.scope n) (hlm : Loc X.env.scope m) (hfn : X.fn m = true ∨ X.env.scope.names.lookup m = some .local)
    (hfw : ∀ (a : Addr) (pn : List (Addr × Obj)), DE (X.suite a pn) W0 ew fw) (hfa : ∀ (a : Addr) (pn : List (Addr × Obj)), DE (X.suite a pn) W0 ea fa) (hfz : ∀ (a : Addr) (pn : List (Addr × Obj)), DE (X.suite a pn) W0 eb fz)
    (hb : ∀ (W : WX) (pn : List (Addr × Obj)) (xe : Value → Shared → Prop), L2N.Takes (X.tr pn xe) W → PassesOwn (model X.prog X.w) X.A X.env xe → DSs (X.tr pn xe) W body fb)
    (hd : (n == ("__debug__" : Str)) = false := by decide) (hcd : (n == ("__classdict__" : Str)) = false := by decide) (hdb : (y == ("__debug__" : Str)) = false := by decide)
    (hmk : behindInMarks .Eq ew = false := by rfl)
    (he : starEach [.Name n p2] X.env = (false, eval (.Name n p2) X.env) :: starEach [] X.env := by rfl) (hpl : (backTo p4 (starEach [] X.env)).any (·.1) = false := by rfl)
    (hsw : swapsWith (.IfExp (.Compare (.Call (.Name y p3) [.Name n p2] [] p4) [.Eq] [ew] p5) ea eb p6) (some (.Name m p1)) pos2.line X.env = pure false := by rfl) :
    DS X W (.Try body [.ExceptHandler (some (.Name x np)) (some n) [.Assign [.Name m p1] (.IfExp (.Compare (.Call (.Name y p3) [.Name n p2] [] p4) [.Eq] [ew] p5) ea eb p6) pos2] hpos] [] [] pos) (sTryG xs i j g fw fa fz fb) := by
  refine PS.of (ps_try_suiteN (tb := fun W => rdS X.K W fb) (ts := fun a ob => tAsg (tIf (tTest (tOp (rEqT X.K false) (tHot i a ob (spN X.K ps.length g)) (rdG X.K W0 (Den X.K) fw))) (rdG X.K W0 (Den X.K) fa) (rdG X.K W0 (Den X.K) fz)) (gName j)) hs hf hex hN hi hln hc hb
    (fun a ob ws pn d1 d2 => pss_one (ps_set (X := X.suite a pn) hN hj hlm (pe_ifExp (X := X.suite a pn) (pt_cmpR (X := X.suite a pn) (op_eqTE (X := X.suite a pn) hu) (pe_hot D hp hr d1 d2 hi hv hmf hgf hd hcd hdb he hpl) (hfw a pn) hmk) (hfa a pn) (hfz a pn)) hsw hfn))) fun Dn σ H => ?_
  rintro ⟨P, F, m, e, h, S, E, fin⟩
  refine ⟨P, F, m, e, h, S, E, ?_⟩
  unfold sTryG at fin
  cases q : fb e h with
  | nx e1 h1 => rw [q] at fin; exact fin
  | bk e1 h1 => rw [q] at fin; exact fin
  | ct e1 h1 => rw [q] at fin; exact fin
  | rt d h1 => rw [q] at fin; exact fin
  | bad => rw [q] at fin; exact fin.elim
  | exc C p e1 h1 =>
    rw [q] at fin
    dsimp only at fin
    intro od σ1 F1 m1 H1 x1 S1 pd E1
    have y : ∀ (a : Addr) (ob : Obj), H1 a = none → Ext F1 m1 (upd F1 a (.frz ob (HexZ (.ref (He.ga X.K (Str.ofString C))) od a))) m1 := fun a ob na => S1.extF na
    have r : ∀ (a : Addr) (ob : Obj), H1 a = none → Den X.K (upd F1 a (.frz ob (HexZ (.ref (He.ga X.K (Str.ofString C))) od a))) m1 (.ref a) (excD C p) := fun a ob na => by
      cases p with
      | none =>
        cases pd
        exact .exc (.inr ⟨ob, upd_same⟩)
      | some z =>
        obtain ⟨dx, v, rfl, e2, rv⟩ := pd
        exact .excf (.inr ⟨ob, upd_same⟩) ((y a ob na).s _ _ e2) (rv.mono (y a ob na))
    by_cases hC : C ∈ xs
    · rw [if_pos hC] at fin
      refine ⟨hm C hC, fun a ob hl na => ?_⟩
      refine ⟨by rw [List.getElem?_set_self hl], ⟨_, upd_same⟩, by rw [hp]; rfl, P, _, m1, [excD C p], h1, S1.frozen na, .cons (r a ob na) .nil, ?_⟩
      cases gq : g [excD C p] h1 with
      | bad => rw [gq] at fin; exact fin.elim
      | exc _ _ _ => rw [gq] at fin; exact fin.elim
      | ok d h2 =>
        rw [gq] at fin
        dsimp only at fin
        intro v F2 m2 H2 x2 S2 rv
        have E2 := ((E1.mono (y a ob na)).set i (r a ob na)).mono x2
        refine ⟨P, F2, m2, e1.set i (some (excD C p)), h2, S2, E2, ?_⟩
        cases fq : fw (e1.set i (some (excD C p))) h2 with
        | bad => rw [fq] at fin; exact fin.elim
        | exc _ _ _ => rw [fq] at fin; exact fin.elim
        | ok s h3 =>
          rw [fq] at fin
          dsimp only at fin
          intro w F3 m3 H3 x3 S3 rw_
          refine opEqT_h (X := X) (W := W0) false P F3 m3 h3 H3 σ1 _ v w d s S3 (rv.mono x3) rw_ ?_
          cases oq : opEqT false d s h3 with
          | bad => rw [oq] at fin; exact fin.elim
          | exc _ _ _ => rw [oq] at fin; exact fin.elim
          | ok t h4 =>
            rw [oq] at fin
            intro z F4 m4 H4 x4 S4 rz
            cases rz with
            | bl b =>
              refine ⟨b, rfl, ?_⟩
              cases b with
              | true =>
                rw [if_pos rfl]
                dsimp only at fin
                refine ⟨P, F4, m4, e1.set i (some (excD C p)), h4, S4, E2.mono (x3.trans x4), ?_⟩
                rw [if_pos rfl] at fin
                cases aq : fa (e1.set i (some (excD C p))) h4 with
                | bad => rw [aq] at fin; exact fin.elim
                | exc _ _ _ => rw [aq] at fin; exact fin.elim
                | ok r5 h5 =>
                  rw [aq] at fin
                  dsimp only at fin
                  intro z5 F5 m5 H5 x5 S5 rz5
                  exact fin _ F5 m5 H5 (x1.trans ((y a ob na).trans (x2.trans (x3.trans (x4.trans x5))))) S5 (((E2.mono (x3.trans (x4.trans x5))).set j rz5).clr i)
              | false =>
                rw [if_neg Bool.false_ne_true]
                dsimp only at fin
                refine ⟨P, F4, m4, e1.set i (some (excD C p)), h4, S4, E2.mono (x3.trans x4), ?_⟩
                rw [if_neg Bool.false_ne_true] at fin
                cases aq : fz (e1.set i (some (excD C p))) h4 with
                | bad => rw [aq] at fin; exact fin.elim
                | exc _ _ _ => rw [aq] at fin; exact fin.elim
                | ok r5 h5 =>
                  rw [aq] at fin
                  dsimp only at fin
                  intro z5 F5 m5 H5 x5 S5 rz5
                  exact fin _ F5 m5 H5 (x1.trans ((y a ob na).trans (x2.trans (x3.trans (x4.trans x5))))) S5 (((E2.mono (x3.trans (x4.trans x5))).set j rz5).clr i)
            | _ => exact fin.elim
    · rw [if_neg hC] at fin
      exact fin.elim
end
section
variable {N C B : Env' → OH → Prop} {R : D → OH → Prop} {xs : List String} {i j : Nat} {g : FN} {fa fz : SE} {b : SS} {e e1 : Env'} {h h1 : OH} {C0 : String} {p : Pay}
theorem SW_tryG_nx {fw : SE} (hb : b e h = .nx e1 h1) (q : N e1 h1) : (sTryG xs i j g fw fa fz b e h).W N C B R := by
  unfold sTryG
  rw [hb]
  exact q
theorem SW_tryG_1 {w : Str} (hb : b e h = .exc C0 p e1 h1) (hC : C0 ∈ xs) (q : (g [excD C0 p] h1).W fun d h2 => d = .str w ∧ (fa (e1.set i (some (excD C0 p))) h2).W fun r h3 => N (((e1.set i (some (excD C0 p))).set j (some r)).set i none) h3) : (sTryG xs i j g (sC (.str w)) fa fz b e h).W N C B R := by
  unfold sTryG
  rw [hb]
  dsimp only
  rw [if_pos hC]
  cases z : g [excD C0 p] h1 with
  | bad => rw [z] at q; exact q.elim
  | exc _ _ _ => rw [z] at q; exact q.elim
  | ok d h2 =>
    rw [z] at q
    simp only [W_ok] at q
    obtain ⟨rfl, q⟩ := q
    have t : (w == w) = true := by rw [beq_self_eq_true]
    simp only [sC, opEqT, t, if_true, Bool.false_eq_true, if_false]
    cases z2 : fa (e1.set i (some (excD C0 p))) h2 with
    | bad => rw [z2] at q; exact q.elim
    | exc _ _ _ => rw [z2] at q; exact q.elim
    | ok r h3 => rw [z2] at q; exact q
end
end HR
set_option Elab.async false
set_option linter.all false
set_option maxRecDepth 100000
set_option maxHeartbeats 2000000
/-! min, max of a tuple of ints; str(None) -/
namespace HR
open PySem L2 RZ PySem.Spec PyProof.Rows
section
variable {X : Cx}
def rMinT (K : PySem.W.Frag) : List V → Hp → VK → Prop := fun vs H Q => ∃ (a : Addr) (x : Int) (ns : List Int), vs = [V.ref a] ∧ SqT K H a ((x :: ns).map V.int) ∧ Q (.int (PySem.W.minOf x ns)) H
def rMaxT (K : PySem.W.Frag) : List V → Hp → VK → Prop := fun vs H Q => ∃ (a : Addr) (x : Int) (ns : List Int), vs = [V.ref a] ∧ SqT K H a ((x :: ns).map V.int) ∧ Q (.int (PySem.W.maxOf x ns)) H
theorem cr_minT (hc : X.calm = true) (hu : X.A.units + 64 < cLine) : CallR X (.builtin "min") (rMinT X.K) := by
  intro pins s σ H vs us Q I r h
  obtain ⟨a, x, ns, rfl, hs, q⟩ := h
  obtain ⟨its, rv, hl, _⟩ := I.tuple hs
  rw [Vals.ref1 r]
  refine PySem.W.min_tuple_datum (α := Int) (I.ok.hd hc) hl (PySem.W.HoldAll.of_ints rv.ints) (by show X.A.units + 1 + 0 < cLine; omega) fun i v h' tk hi hv hk => ?_
  obtain ⟨t, rfl⟩ := PySem.W.int_of_holds hv
  exact ⟨.int _, H, I.kept hk, ⟨_, rfl⟩, q⟩
theorem cr_maxT (hc : X.calm = true) (hu : X.A.units + 64 < cLine) : CallR X (.builtin "max") (rMaxT X.K) := by
  intro pins s σ H vs us Q I r h
  obtain ⟨a, x, ns, rfl, hs, q⟩ := h
  obtain ⟨its, rv, hl, _⟩ := I.tuple hs
  rw [Vals.ref1 r]
  refine PySem.W.max_tuple_datum (α := Int) (I.ok.hd hc) hl (PySem.W.HoldAll.of_ints rv.ints) (by show X.A.units + 1 + 0 < cLine; omega) fun i v h' tk hi hv hk => ?_
  obtain ⟨t, rfl⟩ := PySem.W.int_of_holds hv
  exact ⟨.int _, H, I.kept hk, ⟨_, rfl⟩, q⟩
theorem call_strN : CallR X (.type "str") (fun xs H Q => (∃ i, xs = [.int i] ∧ i.natAbs.log2 < 1920 ∧ Q (.str (toString i)) H) ∨ (xs = [.non] ∧ Q (.str "None") H)) := by
  intro pins s σ H xs us Q I r h
  rcases h with ⟨i, rfl, hz, q⟩ | ⟨rfl, q⟩
  · obtain ⟨u, rfl, t, rfl⟩ := vals1 r
    exact PySem.P.str_of_int hz ⟨.str _, H, I.tok _, ⟨_, rfl⟩, q⟩
  · obtain ⟨u, rfl, r1⟩ := vals1 r
    cases r1
    exact PySem.P.str_of_none ⟨.str _, H, I.tok _, ⟨_, rfl⟩, q⟩
end
def minI (x : Int) (ns : List Int) : Int := PySem.W.minOf x ns
def maxI (x : Int) (ns : List Int) : Int := PySem.W.maxOf x ns
def opMinT : D → OH → Res D := fun d h => match d with
  | .tup ds => (match intsOf ds with
    | some (x :: r) => .ok (.int (minI x r)) h
    | _ => .bad)
  | _ => .bad
def opMaxT : D → OH → Res D := fun d h => match d with
  | .tup ds => (match intsOf ds with
    | some (x :: r) => .ok (.int (maxI x r)) h
    | _ => .bad)
  | _ => .bad
def opStrN : D → OH → Res D := fun d h => match d with
  | .int i => if i.natAbs.log2 < 1920 then .ok (.str (strI i)) h else .bad
  | .non => .ok (.str "None") h
  | _ => .bad
section
variable {X : Cx} {W : WX}
theorem bMinT_h : ClH X.K W (b1 opMinT) (rMinT X.K) := by
  intro P F m h H σ Q vs ds S r fin
  obtain ⟨v, d, rfl, r1, fin⟩ := b1_inv r fin
  unfold opMinT at fin
  cases r1 with
  | tup ct tt =>
    dsimp only at fin
    rename_i c vs ds
    cases e : intsOf ds with
    | none => rw [e] at fin; exact fin.bad_elim
    | some ns =>
      rw [e] at fin
      cases ns with
      | nil => exact fin.bad_elim
      | cons x ns =>
        have ev := intsOf_ok tt e
        subst ev
        exact ⟨c, x, ns, rfl, Same.sqT S.sub ct, fin.ok S (.int _)⟩
  | _ => exact fin.bad_elim
theorem bMaxT_h : ClH X.K W (b1 opMaxT) (rMaxT X.K) := by
  intro P F m h H σ Q vs ds S r fin
  obtain ⟨v, d, rfl, r1, fin⟩ := b1_inv r fin
  unfold opMaxT at fin
  cases r1 with
  | tup ct tt =>
    dsimp only at fin
    rename_i c vs ds
    cases e : intsOf ds with
    | none => rw [e] at fin; exact fin.bad_elim
    | some ns =>
      rw [e] at fin
      cases ns with
      | nil => exact fin.bad_elim
      | cons x ns =>
        have ev := intsOf_ok tt e
        subst ev
        exact ⟨c, x, ns, rfl, Same.sqT S.sub ct, fin.ok S (.int _)⟩
  | _ => exact fin.bad_elim
theorem bStrN_h : ClH X.K W (b1 opStrN) (fun xs H Q => (∃ i, xs = [.int i] ∧ i.natAbs.log2 < 1920 ∧ Q (.str (toString i)) H) ∨ (xs = [.non] ∧ Q (.str "None") H)) := by
  intro P F m h H σ Q vs ds S r fin
  obtain ⟨v, d, rfl, r1, fin⟩ := b1_inv r fin
  unfold opStrN at fin
  cases d with
  | int i =>
    cases r1
    dsimp only at fin
    by_cases hz : i.natAbs.log2 < 1920
    · rw [if_pos hz] at fin
      exact .inl ⟨i, rfl, hz, fin.ok S (.str _)⟩
    · rw [if_neg hz] at fin
      exact fin.bad_elim
  | non =>
    cases r1
    exact .inr ⟨rfl, fin.ok S (.str _)⟩
  | _ => exact fin.bad_elim
theorem de_minT {p pos : Pos} {a : Expr} {fa : SE} (hu : X.A.units + 64 < cLine) (hc : X.calm = true) (hx : Gl X "min") (hm : X.mg "min" = none) (ha : DE X W a fa) (he : starEach [a] X.env = (false, eval a X.env) :: starEach [] X.env := by rfl) : DE X W (.Call (.Name "min" p) [a] [] pos) (sCall (b1 opMinT) (sCons fa sNil)) :=
  de_blt (cr_minT hc hu) bMinT_h hx hm (by decide +kernel) (da_cons ha da_nil he) (he := he)
theorem de_maxT {p pos : Pos} {a : Expr} {fa : SE} (hu : X.A.units + 64 < cLine) (hc : X.calm = true) (hx : Gl X "max") (hm : X.mg "max" = none) (ha : DE X W a fa) (he : starEach [a] X.env = (false, eval a X.env) :: starEach [] X.env := by rfl) : DE X W (.Call (.Name "max" p) [a] [] pos) (sCall (b1 opMaxT) (sCons fa sNil)) :=
  de_blt (cr_maxT hc hu) bMaxT_h hx hm (by decide +kernel) (da_cons ha da_nil he) (he := he)
theorem de_strN {p pos : Pos} {a : Expr} {fa : SE} (hx : Gl X "str") (hm : X.mg "str" = none) (ha : DE X W a fa) (he : starEach [a] X.env = (false, eval a X.env) :: starEach [] X.env := by rfl) : DE X W (.Call (.Name "str" p) [a] [] pos) (sCall (b1 opStrN) (sCons fa sNil)) :=
  de_bty call_strN bStrN_h hx hm (by decide +kernel) (da_cons ha da_nil he) (he := he)
end
theorem minI_two (a b : Int) : minI a [b] = min a b := by
  show (if decide (b < a) = true then b else a) = min a b
  simp only [decide_eq_true_eq]
  split <;> omega
theorem maxI_two (a b : Int) : maxI a [b] = max a b := by
  show (if decide (a < b) = true then b else a) = max a b
  simp only [decide_eq_true_eq]
  split <;> omega
end HR
set_option Elab.async false
set_option linter.all false
/-! the plain functions -/
namespace HR
open PySem L2
namespace Sh
/-- is_integer -/
def is_integer_b : SS := (sSeq (sIfS (sOr (sNot (sTest (sIsi ["int"] (sVar 0)))) (sTest (sIsi ["bool"] (sVar 0)))) (sRet (sC (.bl false))) sNext) (sRet (sAndV (sBin opGe (sVar 0) (sVar 1)) (sOrV (sBin (opIs false) (sVar 2) (sC .non)) (sBin opLe (sVar 0) (sVar 2))))))
def is_integer : FN := fnOf 3 is_integer_b
/-- is_sequence -/
def is_sequence_b : SS := (sRet (sIsi ["list", "tuple"] (sVar 0)))
def is_sequence : FN := fnOf 1 is_sequence_b
/-- is_name -/
def is_name_b : SS := (sRet (sAndV (sIsi ["str"] (sVar 0)) (sAndV (sChain opLe opLe (sC (.int 1)) (sCall bLen (sCons (sVar 0) sNil)) (sC (.int (8)))) (sCall (b1 opAll) (sCons (sLc false (sIt (sVar 0)) (gN 1) sYes (sBin (opInS false) (sVar 1) (sC (.str "abcdefghijklmnopqrstuvwxyz"))) [1]) sNil)))))
def is_name : FN := fnOf 2 is_name_b
/-- is_talk -/
def is_talk_b : SS := (sRet (sAndV (sCall (withD [] (pureF Sh.is_sequence)) (sCons (sVar 0) sNil)) (sAndV (sBin (opEq false) (sCall bLen (sCons (sVar 0) sNil)) (sC (.int 2))) (sCall (b1 opAll) (sCons (sLc false (sIt (sVar 0)) (gN 1) sYes (sCall (withD [] (pureF Sh.is_integer)) (sCons (sVar 1) (sCons (sC (.int 1)) (sCons (sC (.int (1000000000000000000000000000000))) sNil)))) [1]) sNil)))))
def is_talk : FN := fnOf 2 is_talk_b
/-- are_talks -/
def are_talks_b : SS := (sRet (sAndV (sCall (withD [] (pureF Sh.is_sequence)) (sCons (sVar 0) sNil)) (sAndV (sChain opLe opLe (sVar 1) (sCall bLen (sCons (sVar 0) sNil)) (sC (.int (8)))) (sCall (b1 opAll) (sCons (sLc false (sIt (sVar 0)) (gN 2) sYes (sCall (withD [] (pureF Sh.is_talk)) (sCons (sVar 2) sNil)) [2]) sNil)))))
def are_talks : FN := fnOf 3 are_talks_b
/-- is_talker -/
def is_talker_b : SS := (sSeq (sIfS (sOr (sNot (sTest (sCall (withD [] (pureF Sh.is_sequence)) (sCons (sVar 0) sNil)))) (sOr (sTest (sBin (opEq true) (sCall bLen (sCons (sVar 0) sNil)) (sC (.int 4)))) (sNot (sTest (sCall (withD [] (pureF Sh.is_name)) (sCons (sBin opIx (sVar 0) (sC (.int 0))) sNil)))))) (sRet (sC (.bl false))) sNext) (sRet (sAndV (sCall (withD [] (pureF Sh.is_integer)) (sCons (sBin opIx (sVar 0) (sC (.int 1))) (sCons (sC (.int 1)) (sCons (sC (.int (10))) sNil)))) (sAndV (sCall (withD [] (pureF Sh.are_talks)) (sCons (sBin opIx (sVar 0) (sC (.int 2))) (sCons (sC (.int 0)) sNil))) (sCall (withD [] (pureF Sh.are_talks)) (sCons (sBin opIx (sVar 0) (sC (.int 3))) (sCons (sC (.int 1)) sNil)))))))
def is_talker : FN := fnOf 1 is_talker_b
/-- is_hall -/
def is_hall_b : SS := (sSeq (sIfS (sOr (sNot (sTest (sCall (withD [] (pureF Sh.is_sequence)) (sCons (sVar 0) sNil)))) (sOr (sTest (sBin opGt (sCall bLen (sCons (sVar 0) sNil)) (sC (.int (10))))) (sNot (sTest (sCall (b1 opAll) (sCons (sLc false (sIt (sVar 0)) (gN 1) sYes (sCall (withD [] (pureF Sh.is_talker)) (sCons (sVar 1) sNil)) [1]) sNil)))))) (sRet (sC (.bl false))) sNext) (sRet (sBin (opEq false) (sLenSet (sLc false (sIt (sVar 0)) (gN 1) sYes (sBin opIx (sVar 1) (sC (.int 0))) [1])) (sCall bLen (sCons (sVar 0) sNil)))))
def is_hall : FN := fnOf 2 is_hall_b
/-- _law_draw -/
def l_draw_b : SS := (sSeq (sIfS (sTest (sBin opGt (sBin opIx (sVar 0) (sC (.int 0))) (sC (.int 0)))) (sSeq (sSet 2 (sBin opMod (sBin opIx (sVar 0) (sC (.int 0))) (sVar 1))) (sSeq (sIxS (sVar 0) (sC (.int 0)) (sBin opDiv (sBin opIx (sVar 0) (sC (.int 0))) (sVar 1))) (sRet (sVar 2)))) sNext) (sSeq (sIxS (sVar 0) (sC (.int 2)) (sBin opAdd (sBin opIx (sVar 0) (sC (.int 2))) (sC (.int 1)))) (sSeq (sSet 3 (sBin opMod (sBin opMul (sBin opIx (sVar 0) (sC (.int 1))) (sBin opIx (sVar 0) (sC (.int 1)))) (sC (.int 2305843009213693951)))) (sSeq (sIxS (sVar 0) (sC (.int 1)) (sBin opMod (sBin opAdd (sBin opAdd (sVar 3) (sBin opMul (sBin opMul (sC (.int 7919)) (sBin opIx (sVar 0) (sC (.int 2)))) (sBin opIx (sVar 0) (sC (.int 1))))) (sC (.int 104729))) (sC (.int 2305843009213693951)))) (sRet (sBin opMod (sBin opDiv (sBin opIx (sVar 0) (sC (.int 1))) (sC (.int 65537))) (sVar 1)))))))
def l_draw : FN := fnOf 4 l_draw_b
/-- _law_dressed -/
def l_dressed_b (rec_ : FN) : SS := (sSeq (sIfS (sNot (sTest (sIsi ["list", "tuple"] (sVar 1)))) (sRet (sVar 1)) sNext) (sSeq (sSet 2 (sLc false (sIt (sVar 1)) (gN 3) sYes (sCall (withD [] rec_) (sCons (sVar 0) (sCons (sVar 3) sNil))) [3])) (sRet (sIf (sTest (sBin (opEq false) (sCall (withD [] Sh.l_draw) (sCons (sVar 0) (sCons (sC (.int 2)) sNil))) (sC (.int 0)))) (sVar 2) (sCall (b1 opTuple) (sCons (sVar 2) sNil))))))
def l_dressed_n : Nat → FN
  | 0 => fun _ _ => .bad
  | j + 1 => fnOf 4 (l_dressed_b (l_dressed_n j))
/-- _law_draw -/
def l_draw_1_b : SS := (sSeq (sIfS (sTest (sBin (opNil true) (sBin opIx (sVar 0) (sC (.int 0))) (sLst sNil))) (sSeq (sSet 2 (sBin opIx (sBin opIx (sVar 0) (sC (.int 0))) (sC (.int 0)))) (sSeq (sIxS (sVar 0) (sC (.int 0)) (sBin opAdd (sBin opMul (sLst (sCons (sBin opDiv (sVar 2) (sVar 1)) sNil)) (sCall (b1 opInt) (sCons (sBin opGe (sVar 2) (sVar 1)) sNil))) (sCut false (sBin opIx (sVar 0) (sC (.int 0))) (sPart (sC (.int 1))) sNoPart))) (sRet (sBin opMod (sVar 2) (sVar 1))))) sNext) (sSeq (sIxS (sVar 0) (sC (.int 2)) (sBin opAdd (sBin opIx (sVar 0) (sC (.int 2))) (sC (.int 1)))) (sSeq (sSet 3 (sBin opIx (sBin opIx (sVar 0) (sC (.int 1))) (sBin opMod (sBin opIx (sVar 0) (sC (.int 2))) (sCall bLen (sCons (sBin opIx (sVar 0) (sC (.int 1))) sNil))))) (sSeq (sSet 4 (sBin opAdd (sBin opAdd (sBin opMul (sBin opIx (sVar 0) (sC (.int 3))) (sBin opIx (sVar 0) (sC (.int 3)))) (sBin opMul (sBin opAdd (sVar 3) (sC (.int 5))) (sC (.int 92821)))) (sBin opMul (sBin opIx (sVar 0) (sC (.int 2))) (sC (.int 1000039))))) (sSeq (sIxS (sVar 0) (sC (.int 3)) (sBin opMod (sVar 4) (sBin opSub (sBin opMul (sBin opPow (sC (.int 2)) (sC (.int 64))) (sBin opPow (sC (.int 2)) (sC (.int 63)))) (sC (.int 1))))) (sRet (sBin opMod (sBin opDiv (sBin opIx (sVar 0) (sC (.int 3))) (sBin opPow (sC (.int 2)) (sC (.int 41)))) (sVar 1))))))))
def l_draw_1 : FN := fnOf 5 l_draw_1_b
/-- _law_dressed -/
def l_dressed_1_b (rec_ : FN) : SS := (sSeq (sIfS (sNot (sTest (sIsi ["list", "tuple"] (sVar 1)))) (sRet (sVar 1)) sNext) (sSeq (sSet 2 (sLc false (sIt (sVar 1)) (gN 3) sYes (sCall (withD [] rec_) (sCons (sVar 0) (sCons (sVar 3) sNil))) [3])) (sRet (sIf (sTest (sBin (opEq false) (sCall (withD [] Sh.l_draw_1) (sCons (sVar 0) (sCons (sC (.int 2)) sNil))) (sC (.int 0)))) (sVar 2) (sCall (b1 opTuple) (sCons (sVar 2) sNil))))))
def l_dressed_1_n : Nat → FN
  | 0 => fun _ _ => .bad
  | j + 1 => fnOf 4 (l_dressed_1_b (l_dressed_1_n j))
/-- _law_bag -/
def l_bag_b : SS := (sSeq (sSet 1 (sC (.int 1))) (sSeq (sFor (sIt (sVar 0)) (gN 2) (sSet 1 (sBin opMod (sBin opAdd (sBin opAdd (sBin opMul (sVar 1) (sC (.int 1000003))) (sBin opMod (sVar 2) (sC (.int 2305843009213693951)))) (sC (.int 1))) (sC (.int 2305843009213693951))))) (sRet (sLstO (sCons (sCall (b1 (opList false)) (sCons (sVar 0) sNil)) (sCons (sC (.int 0)) (sCons (sC (.int 0)) (sCons (sC (.int 0)) (sCons (sVar 1) sNil)))))))))
def l_bag : FN := fnOf 3 l_bag_b
/-- _law_stir -/
def l_stir_b : SS := (sSeq (sSet 2 (sBin opMod (sBin opAdd (sBin opAdd (sBin opMul (sVar 0) (sC (.int 998244353))) (sBin opMul (sVar 1) (sC (.int 1000000007)))) (sC (.int 5))) (sC (.int 2305843009213693951)))) (sSeq (sSet 3 (sBin opMod (sBin opMul (sVar 2) (sVar 2)) (sC (.int 2305843009213693951)))) (sRet (sBin opDiv (sBin opMod (sBin opAdd (sBin opAdd (sBin opMul (sVar 3) (sC (.int 2860486313))) (sBin opMul (sBin opMul (sVar 1) (sVar 1)) (sC (.int 48271)))) (sBin opDiv (sVar 2) (sC (.int 3)))) (sC (.int 2305843009213693921))) (sC (.int 1024))))))
def l_stir : FN := fnOf 4 l_stir_b
/-- _law_draw -/
def l_draw_2_b : SS := (sSeq (sIfS (sTest (sBin (opEq false) (sVar 1) (sC (.int 1)))) (sRet (sC (.int 0))) sNext) (sSeq (sIxS (sVar 0) (sC (.int 3)) (sBin opAdd (sBin opIx (sVar 0) (sC (.int 3))) (sC (.int 1)))) (sSeq (sIfS (sAnd (sTest (sBin opLt (sBin opIx (sVar 0) (sC (.int 2))) (sC (.int 2)))) (sTest (sBin (opEq false) (sBin opIx (sVar 0) (sC (.int 1))) (sCall bLen (sCons (sBin opIx (sVar 0) (sC (.int 0))) sNil))))) (sRet (sBin opMod (sCall (withD [] (pureF Sh.l_stir)) (sCons (sBin opIx (sVar 0) (sC (.int 4))) (sCons (sBin opIx (sVar 0) (sC (.int 3))) sNil))) (sVar 1))) sNext) (sSeq (sIfS (sTest (sBin opLt (sBin opIx (sVar 0) (sC (.int 2))) (sC (.int 2)))) (sSeq (sSet 2 (sBin opIx (sBin opIx (sVar 0) (sC (.int 0))) (sBin opIx (sVar 0) (sC (.int 1))))) (sSeq (sIxS (sVar 0) (sC (.int 1)) (sBin opAdd (sBin opIx (sVar 0) (sC (.int 1))) (sC (.int 1)))) (sSeq (sIfS (sTest (sBin opLt (sVar 2) (sBin opPow (sC (.int 10)) (sC (.int 18))))) (sRet (sBin opMod (sCall (withD [] (pureF Sh.l_stir)) (sCons (sBin opMod (sVar 2) (sC (.int 2305843009213693951))) (sCons (sBin opIx (sVar 0) (sC (.int 3))) sNil))) (sVar 1))) sNext) (sIxS (sVar 0) (sC (.int 2)) (sBin opSub (sVar 2) (sBin opPow (sC (.int 10)) (sC (.int 18)))))))) sNext) (sSeq (sSet 3 (sBin opMod (sBin opIx (sVar 0) (sC (.int 2))) (sVar 1))) (sSeq (sIxS (sVar 0) (sC (.int 2)) (sBin opDiv (sBin opIx (sVar 0) (sC (.int 2))) (sVar 1))) (sRet (sVar 3))))))))
def l_draw_2 : FN := fnOf 4 l_draw_2_b
/-- _law_talks -/
def l_talks_2_b : SS := (sSeq (sSet 4 (sBin opAdd (sVar 1) (sCall (withD [] Sh.l_draw_2) (sCons (sVar 0) (sCons (sVar 2) sNil))))) (sRet (sLc false (sRng1 (sVar 4)) (gN 5) sYes (sTup (sCons (sBin opAdd (sC (.int 1)) (sCall (withD [] Sh.l_draw_2) (sCons (sVar 0) (sCons (sVar 3) sNil)))) (sCons (sBin opAdd (sC (.int 1)) (sCall (withD [] Sh.l_draw_2) (sCons (sVar 0) (sCons (sVar 3) sNil)))) sNil))) [5])))
def l_talks_2 : FN := fnOf 6 l_talks_2_b
/-- _law_hall -/
def l_hall_2_b : SS := (sSeq (sSet 3 (sLstO (sCons (sC (.str "a")) (sCons (sC (.str "b")) (sCons (sC (.str "abcdefgh")) (sCons (sC (.str "zz")) (sCons (sC (.str "m")) (sCons (sC (.str "ba")) (sCons (sC (.str "q")) (sCons (sC (.str "xyz")) (sCons (sC (.str "cc")) (sCons (sC (.str "p")) sNil)))))))))))) (sSeq (sSet 4 (sBin opIx (sLst (sCons (sC (.int 1)) (sCons (sC (.int 2)) (sCons (sC (.int 4)) (sCons (sC (.int 10)) sNil))))) (sCall (withD [] Sh.l_draw_2) (sCons (sVar 0) (sCons (sC (.int 4)) sNil))))) (sSeq (sSet 5 (sLstO sNil)) (sSeq (sFor (sRng1 (sCall (withD [] Sh.l_draw_2) (sCons (sVar 0) (sCons (sBin opAdd (sVar 1) (sC (.int 1))) sNil)))) (gN 6) (sSeq (sSet 7 (sMtO gPopAt (sVar 3) (sCons (sCall (withD [] Sh.l_draw_2) (sCons (sVar 0) (sCons (sCall bLen (sCons (sVar 3) sNil)) sNil))) sNil))) (sSeq (sSet 8 (sCall (withD [] Sh.l_talks_2) (sCons (sVar 0) (sCons (sC (.int 0)) (sCons (sBin opIx (sLst (sCons (sC (.int 1)) (sCons (sC (.int 1)) (sCons (sC (.int 3)) (sCons (sC (.int 9)) sNil))))) (sCall (withD [] Sh.l_draw_2) (sCons (sVar 0) (sCons (sC (.int 4)) sNil)))) (sCons (sVar 2) sNil)))))) (sSeq (sSet 9 (sCall (withD [] Sh.l_talks_2) (sCons (sVar 0) (sCons (sC (.int 1)) (sCons (sBin opIx (sLst (sCons (sC (.int 1)) (sCons (sC (.int 3)) (sCons (sC (.int 8)) sNil)))) (sCall (withD [] Sh.l_draw_2) (sCons (sVar 0) (sCons (sC (.int 3)) sNil)))) (sCons (sVar 2) sNil)))))) (sExpr (sMtO gAppend (sVar 5) (sCons (sTup (sCons (sVar 7) (sCons (sBin opAdd (sC (.int 1)) (sCall (withD [] Sh.l_draw_2) (sCons (sVar 0) (sCons (sVar 4) sNil)))) (sCons (sVar 8) (sCons (sVar 9) sNil))))) sNil))))))) (sRet (frzE (sVar 5)))))))
def l_hall_2 : FN := fnOf 10 l_hall_2_b
/-- is_number -/
def is_number_b : SS := (sRet (sAndV (sBin (opEqT true) (sVar 0) (sC (.str ""))) (sAndV (sCall (b1 opAll) (sCons (sLc false (sIt (sVar 0)) (gN 1) sYes (sBin (opInS false) (sVar 1) (sC (.str "0123456789"))) [1]) sNil)) (sOrV (sBin (opEq false) (sVar 0) (sC (.str "0"))) (sBin (opEq true) (sBin opIx (sVar 0) (sC (.int 0))) (sC (.str "0")))))))
def is_number : FN := fnOf 2 is_number_b
/-- talk_in -/
def talk_in_b : SS := (sSeq (sSet 1 (sM1 opSplit (sVar 0) (sC (.str ":")))) (sSeq (sIfS (sOr (sTest (sBin (opEq true) (sCall bLen (sCons (sVar 1) sNil)) (sC (.int 2)))) (sNot (sTest (sCall (b1 opAll) (sCons (sLc false (sIt (sVar 1)) (gN 2) sYes (sCall (withD [] (pureF Sh.is_number)) (sCons (sVar 2) sNil)) [2]) sNil))))) (sRet (sC .non)) sNext) (sRet (sTup (sCons (sCall (b1 opIntT) (sCons (sBin opIx (sVar 1) (sC (.int 0))) sNil)) (sCons (sCall (b1 opIntT) (sCons (sBin opIx (sVar 1) (sC (.int 1))) sNil)) sNil))))))
def talk_in : FN := fnOf 3 talk_in_b
/-- schedule_in -/
def schedule_in_1_b : SS := (sSeq (sIfS (sTest (sBin (opInL true) (sC (.str "|")) (sVar 0))) (sRet (sC .non)) sNext) (sSeq (sSet 1 (sIdx (sVar 0) (sCons (sC (.str "|")) sNil))) (sSeq (sPar 2 3 (sCons (sLc false (sIt (sCut false (sVar 0) sNoPart (sPart (sVar 1)))) (gN 4) sYes (sCall (withD [] (pureF Sh.talk_in)) (sCons (sVar 4) sNil)) [4]) (sCons (sLc false (sIt (sCut false (sVar 0) (sPart (sBin opAdd (sVar 1) (sC (.int 1)))) sNoPart)) (gN 4) sYes (sCall (withD [] (pureF Sh.talk_in)) (sCons (sVar 4) sNil)) [4]) sNil))) (sRet (sIf (sOr (sTest (sBin (opInD false) (sC .non) (sVar 2))) (sOr (sTest (sBin (opInD false) (sC .non) (sVar 3))) (sTest (sBin (opNil false) (sVar 3) (sLst sNil))))) (sC .non) (sTup (sCons (sVar 2) (sCons (sVar 3) sNil))))))))
def schedule_in_1 : FN := fnOf 5 schedule_in_1_b
/-- talker_in -/
def talker_in_1_b : SS := (sSeq (sSet 1 (sM1 opSplit (sVar 0) (sC (.str " ")))) (sSeq (sIfS (sOr (sTest (sBin opLt (sCall bLen (sCons (sVar 1) sNil)) (sC (.int 2)))) (sOr (sNot (sTest (sCall (withD [] (pureF Sh.is_name)) (sCons (sBin opIx (sVar 1) (sC (.int 0))) sNil)))) (sNot (sTest (sCall (withD [] (pureF Sh.is_number)) (sCons (sBin opIx (sVar 1) (sC (.int 1))) sNil)))))) (sRet (sC .non)) sNext) (sSeq (sSet 2 (sCall (withD [] (pureF Sh.schedule_in_1)) (sCons (sCut false (sVar 1) (sPart (sC (.int 2))) sNoPart) sNil))) (sRet (sIf (sTest (sBin (opIs false) (sVar 2) (sC .non))) (sC .non) (sBin opAdd (sTup (sCons (sBin opIx (sVar 1) (sC (.int 0))) (sCons (sCall (b1 opIntT) (sCons (sBin opIx (sVar 1) (sC (.int 1))) sNil)) sNil))) (sVar 2)))))))
def talker_in_1 : FN := fnOf 3 talker_in_1_b
/-- parse_hall -/
def parse_hall_1_b : SS := (sSeq (sIfS (sNot (sTest (sIsi ["str"] (sVar 0)))) (sRaiseF "InvalidText" "line" (sC .non)) sNext) (sSeq (sSet 1 (sLstO sNil)) (sSeq (sFor (sEnum (sCons (sIf (sTest (sBin (opEqT true) (sVar 0) (sC (.str "")))) (sM1 opSplit (sVar 0) (sC (.str "\n"))) (sLst sNil)) sNil)) (gT 2 (gCs (gN 2) (gCs (gN 3) gNl))) (sSeq (sSet 4 (sCall (withD [] (pureF Sh.talker_in_1)) (sCons (sVar 3) sNil))) (sSeq (sIfS (sTest (sBin (opIs false) (sVar 4) (sC .non))) (sRaiseF "InvalidText" "line" (sVar 2)) sNext) (sExpr (sMtO gAppend (sVar 1) (sCons (sVar 4) sNil)))))) (sSeq (sIfS (sNot (sTest (sCall (withD [] (lendF Sh.is_hall)) (sCons (sVar 1) sNil)))) (sRaiseF "InvalidText" "line" (sC .non)) sNext) (sRet (frzE (sVar 1)))))))
def parse_hall_1 : FN := fnOf 5 parse_hall_1_b
/-- parse_record -/
def parse_record_1_b : SS := (sSeq (sIfS (sNot (sTest (sIsi ["str"] (sVar 0)))) (sRaiseF "InvalidText" "line" (sC .non)) sNext) (sSeq (sSet 1 (sIf (sTest (sBin (opEqT true) (sVar 0) (sC (.str "")))) (sM1 opSplit (sVar 0) (sC (.str " "))) (sLst sNil))) (sSeq (sFor (sEnum (sCons (sVar 1) sNil)) (gT 2 (gCs (gN 2) (gCs (gN 3) gNl))) (sIfS (sAnd (sTest (sBin (opEq true) (sVar 3) (sC (.str "-")))) (sNot (sTest (sCall (withD [] (pureF Sh.is_name)) (sCons (sVar 3) sNil))))) (sRaiseF "InvalidText" "line" (sVar 2)) sNext)) (sSeq (sIfS (sTest (sBin opGt (sCall bLen (sCons (sVar 1) sNil)) (sC (.int (400))))) (sRaiseF "InvalidText" "line" (sC .non)) sNext) (sRet (sLc false (sIt (sVar 1)) (gN 3) sYes (sIf (sTest (sBin (opEq false) (sVar 3) (sC (.str "-")))) (sC .non) (sVar 3)) [3]))))))
def parse_record_1 : FN := fnOf 4 parse_record_1_b
/-- _law_stir -/
def l_stir_1_b : SS := (sSeq (sSet 2 (sBin opMod (sBin opAdd (sBin opAdd (sBin opMul (sVar 0) (sC (.int 998244353))) (sBin opMul (sVar 1) (sC (.int 1000000007)))) (sC (.int 5))) (sC (.int 2305843009213693951)))) (sSeq (sSet 3 (sBin opMod (sBin opMul (sVar 2) (sVar 2)) (sC (.int 2305843009213693951)))) (sRet (sBin opDiv (sBin opMod (sBin opAdd (sBin opAdd (sBin opMul (sVar 3) (sC (.int 2860486313))) (sBin opMul (sBin opMul (sVar 1) (sVar 1)) (sC (.int 48271)))) (sBin opDiv (sVar 2) (sC (.int 3)))) (sC (.int 2305843009213693921))) (sC (.int 1024))))))
def l_stir_1 : FN := fnOf 4 l_stir_1_b
/-- _law_draw -/
def l_draw_3_b : SS := (sSeq (sIfS (sTest (sBin (opEq false) (sVar 1) (sC (.int 1)))) (sRet (sC (.int 0))) sNext) (sSeq (sIxS (sVar 0) (sC (.int 3)) (sBin opAdd (sBin opIx (sVar 0) (sC (.int 3))) (sC (.int 1)))) (sSeq (sIfS (sAnd (sTest (sBin opLt (sBin opIx (sVar 0) (sC (.int 2))) (sC (.int 2)))) (sTest (sBin (opEq false) (sBin opIx (sVar 0) (sC (.int 1))) (sCall bLen (sCons (sBin opIx (sVar 0) (sC (.int 0))) sNil))))) (sRet (sBin opMod (sCall (withD [] (pureF Sh.l_stir_1)) (sCons (sBin opIx (sVar 0) (sC (.int 4))) (sCons (sBin opIx (sVar 0) (sC (.int 3))) sNil))) (sVar 1))) sNext) (sSeq (sIfS (sTest (sBin opLt (sBin opIx (sVar 0) (sC (.int 2))) (sC (.int 2)))) (sSeq (sSet 2 (sBin opIx (sBin opIx (sVar 0) (sC (.int 0))) (sBin opIx (sVar 0) (sC (.int 1))))) (sSeq (sIxS (sVar 0) (sC (.int 1)) (sBin opAdd (sBin opIx (sVar 0) (sC (.int 1))) (sC (.int 1)))) (sSeq (sIfS (sTest (sBin opLt (sVar 2) (sBin opPow (sC (.int 10)) (sC (.int 18))))) (sRet (sBin opMod (sCall (withD [] (pureF Sh.l_stir_1)) (sCons (sBin opMod (sVar 2) (sC (.int 2305843009213693951))) (sCons (sBin opIx (sVar 0) (sC (.int 3))) sNil))) (sVar 1))) sNext) (sIxS (sVar 0) (sC (.int 2)) (sBin opSub (sVar 2) (sBin opPow (sC (.int 10)) (sC (.int 18)))))))) sNext) (sSeq (sSet 3 (sBin opMod (sBin opIx (sVar 0) (sC (.int 2))) (sVar 1))) (sSeq (sIxS (sVar 0) (sC (.int 2)) (sBin opDiv (sBin opIx (sVar 0) (sC (.int 2))) (sVar 1))) (sRet (sVar 3))))))))
def l_draw_3 : FN := fnOf 4 l_draw_3_b
/-- _law_talks -/
def l_talks_4_b : SS := (sSeq (sSet 4 (sBin opAdd (sVar 1) (sCall (withD [] Sh.l_draw_3) (sCons (sVar 0) (sCons (sVar 2) sNil))))) (sRet (sLc false (sRng1 (sVar 4)) (gN 5) sYes (sTup (sCons (sBin opAdd (sC (.int 1)) (sCall (withD [] Sh.l_draw_3) (sCons (sVar 0) (sCons (sVar 3) sNil)))) (sCons (sBin opAdd (sC (.int 1)) (sCall (withD [] Sh.l_draw_3) (sCons (sVar 0) (sCons (sVar 3) sNil)))) sNil))) [5])))
def l_talks_4 : FN := fnOf 6 l_talks_4_b
/-- _law_hall -/
def l_hall_4_b : SS := (sSeq (sSet 3 (sLstO (sCons (sC (.str "a")) (sCons (sC (.str "b")) (sCons (sC (.str "abcdefgh")) (sCons (sC (.str "zz")) (sCons (sC (.str "m")) (sCons (sC (.str "ba")) (sCons (sC (.str "q")) (sCons (sC (.str "xyz")) (sCons (sC (.str "cc")) (sCons (sC (.str "p")) sNil)))))))))))) (sSeq (sSet 4 (sBin opIx (sLst (sCons (sC (.int 1)) (sCons (sC (.int 2)) (sCons (sC (.int 4)) (sCons (sC (.int 10)) sNil))))) (sCall (withD [] Sh.l_draw_3) (sCons (sVar 0) (sCons (sC (.int 4)) sNil))))) (sSeq (sSet 5 (sLstO sNil)) (sSeq (sFor (sRng1 (sCall (withD [] Sh.l_draw_3) (sCons (sVar 0) (sCons (sBin opAdd (sVar 1) (sC (.int 1))) sNil)))) (gN 6) (sSeq (sSet 7 (sMtO gPopAt (sVar 3) (sCons (sCall (withD [] Sh.l_draw_3) (sCons (sVar 0) (sCons (sCall bLen (sCons (sVar 3) sNil)) sNil))) sNil))) (sSeq (sSet 8 (sCall (withD [] Sh.l_talks_4) (sCons (sVar 0) (sCons (sC (.int 0)) (sCons (sBin opIx (sLst (sCons (sC (.int 1)) (sCons (sC (.int 1)) (sCons (sC (.int 3)) (sCons (sC (.int 9)) sNil))))) (sCall (withD [] Sh.l_draw_3) (sCons (sVar 0) (sCons (sC (.int 4)) sNil)))) (sCons (sVar 2) sNil)))))) (sSeq (sSet 9 (sCall (withD [] Sh.l_talks_4) (sCons (sVar 0) (sCons (sC (.int 1)) (sCons (sBin opIx (sLst (sCons (sC (.int 1)) (sCons (sC (.int 3)) (sCons (sC (.int 8)) sNil)))) (sCall (withD [] Sh.l_draw_3) (sCons (sVar 0) (sCons (sC (.int 3)) sNil)))) (sCons (sVar 2) sNil)))))) (sExpr (sMtO gAppend (sVar 5) (sCons (sTup (sCons (sVar 7) (sCons (sBin opAdd (sC (.int 1)) (sCall (withD [] Sh.l_draw_3) (sCons (sVar 0) (sCons (sVar 4) sNil)))) (sCons (sVar 8) (sCons (sVar 9) sNil))))) sNil))))))) (sRet (frzE (sVar 5)))))))
def l_hall_4 : FN := fnOf 10 l_hall_4_b
/-- _law_class -/
def l_class_6_b : SS := (sSeq (sSet 1 (sNotV (sIsK ["InvalidText"] ["ValueError"] (sVar 0)))) (sSeq (sSet 1 (sOrV (sVar 1) (sIsK ["InvalidText"] ["Inconsistent", "InvalidCommand", "InvalidHall", "InvalidMembers"] (sVar 0)))) (sSeq (sSet 1 (sOrV (sVar 1) (sIsK ["InvalidText"] ["InvalidNumber", "InvalidPosition", "InvalidRank", "InvalidRanks"] (sVar 0)))) (sSeq (sSet 1 (sOrV (sVar 1) (sIsK ["InvalidText"] ["InvalidRecord", "InvalidTalker", "InvalidTick", "NothingToUndo"] (sVar 0)))) (sSeq (sSet 1 (sOrV (sVar 1) (sIsK ["InvalidText"] ["TooMany", "UnknownTalker"] (sVar 0)))) (sSeq (sSet 2 (sLstO sNil)) (sSeq (sExpr (sMtO gAppend (sVar 2) (sCons (sTup (sCons (sC (.str "InvalidText")) (sCons (sIsK ["InvalidText"] ["InvalidText"] (sVar 0)) sNil))) sNil))) (sSeq (sSet 3 (sLcO false (sVar 2) (gTt 2 (gCs (gN 4) (gCs (gN 5) gNl))) (sTest (sVar 5)) (sVar 4) [4, 5])) (sRet (sIf (sAnd (sTest (sBin (opEq false) (sCall bLen (sCons (sVar 3) sNil)) (sC (.int 1)))) (sNot (sTest (sVar 1)))) (sBin opIx (sVar 3) (sC (.int 0))) (sC (.str "odd"))))))))))))
def l_class_6 : FN := fnOf 6 l_class_6_b
/-- _law_number -/
def l_number_1_b : SS := (sSeq (sIfS (sOr (sTest (sBin (opEqT false) (sVar 0) (sC (.str "")))) (sTest (sBin (opNil true) (sLc false (sIt (sVar 0)) (gN 1) (sTest (sBin (opInS true) (sVar 1) (sC (.str "0123456789")))) (sVar 1) [1]) (sLst sNil)))) (sRet (sC .non)) sNext) (sRet (sIf (sOr (sTest (sBin (opEq false) (sVar 0) (sC (.str "0")))) (sTest (sBin (opEq true) (sBin opIx (sVar 0) (sC (.int 0))) (sC (.str "0"))))) (sCall (b1 opIntT) (sCons (sVar 0) sNil)) (sC .non))))
def l_number_1 : FN := fnOf 2 l_number_1_b
/-- _law_is_name -/
def l_is_name_1_b : SS := (sRet (sAndV (sChain opLe opLe (sC (.int 1)) (sCall bLen (sCons (sVar 0) sNil)) (sC (.int 8))) (sBin (opNil false) (sLc false (sIt (sVar 0)) (gN 1) (sTest (sBin (opInS true) (sVar 1) (sC (.str "abcdefghijklmnopqrstuvwxyz")))) (sVar 1) [1]) (sLst sNil))))
def l_is_name_1 : FN := fnOf 2 l_is_name_1_b
/-- _law_pair -/
def l_pair_1_b : SS := (sSeq (sSet 1 (sLc false (sIt (sM1 opSplit (sVar 0) (sC (.str ":")))) (gN 2) sYes (sCall (withD [] (pureF Sh.l_number_1)) (sCons (sVar 2) sNil)) [2])) (sRet (sIf (sAnd (sTest (sBin (opEq false) (sCall bLen (sCons (sVar 1) sNil)) (sC (.int 2)))) (sTest (sBin (opInL true) (sC .non) (sVar 1)))) (sTup (sCons (sBin opIx (sVar 1) (sC (.int 0))) (sCons (sBin opIx (sVar 1) (sC (.int 1))) sNil))) (sC .non))))
def l_pair_1 : FN := fnOf 3 l_pair_1_b
/-- _law_line -/
def l_line_2_b : SS := (sSeq (sSet 1 (sM1 opSplit (sVar 0) (sC (.str " ")))) (sSeq (sIfS (sOr (sTest (sBin opLt (sCall bLen (sCons (sVar 1) sNil)) (sC (.int 4)))) (sOr (sNot (sTest (sCall (withD [] (pureF Sh.l_is_name_1)) (sCons (sBin opIx (sVar 1) (sC (.int 0))) sNil)))) (sOr (sTest (sBin (opIs false) (sCall (withD [] (pureF Sh.l_number_1)) (sCons (sBin opIx (sVar 1) (sC (.int 1))) sNil)) (sC .non))) (sTest (sBin (opEq true) (sCnt (sVar 1) (sCons (sC (.str "|")) sNil)) (sC (.int 1))))))) (sRet (sC .non)) sNext) (sSeq (sSet 2 (sIdx (sVar 1) (sCons (sC (.str "|")) sNil))) (sSeq (sPar 3 4 (sCons (sLc false (sIt (sCut false (sVar 1) (sPart (sC (.int 2))) (sPart (sVar 2)))) (gN 5) sYes (sCall (withD [] (pureF Sh.l_pair_1)) (sCons (sVar 5) sNil)) [5]) (sCons (sLc false (sIt (sCut false (sVar 1) (sPart (sBin opAdd (sVar 2) (sC (.int 1)))) sNoPart)) (gN 5) sYes (sCall (withD [] (pureF Sh.l_pair_1)) (sCons (sVar 5) sNil)) [5]) sNil))) (sSeq (sIfS (sOr (sTest (sBin opLt (sVar 2) (sC (.int 2)))) (sOr (sTest (sBin (opInD false) (sC .non) (sVar 3))) (sOr (sTest (sBin (opInD false) (sC .non) (sVar 4))) (sTest (sBin (opNil false) (sVar 4) (sLst sNil)))))) (sRet (sC .non)) sNext) (sRet (sTup (sCons (sBin opIx (sVar 1) (sC (.int 0))) (sCons (sCall (withD [] (pureF Sh.l_number_1)) (sCons (sBin opIx (sVar 1) (sC (.int 1))) sNil)) (sCons (sVar 3) (sCons (sVar 4) sNil)))))))))))
def l_line_2 : FN := fnOf 6 l_line_2_b
/-- _law_is_hall -/
def l_is_hall_b : SS := (sSeq (sIfS (sOr (sTest (sBin opGt (sCall bLen (sCons (sVar 0) sNil)) (sC (.int 10)))) (sTest (sBin opLt (sLenSet (sLc false (sIt (sVar 0)) (gN 1) sYes (sBin opIx (sVar 1) (sC (.int 0))) [1])) (sCall bLen (sCons (sVar 0) sNil))))) (sRet (sC (.bl false))) sNext) (sSeq (sFor (sIt (sVar 0)) (gT 4 (gCs (gN 2) (gCs (gN 3) (gCs (gN 4) (gCs (gN 5) gNl))))) (sSeq (sIfS (sOr (sNot (sTest (sChain opLe opLe (sC (.int 1)) (sVar 3) (sC (.int 10))))) (sOr (sTest (sBin opGt (sCall bLen (sCons (sVar 4) sNil)) (sC (.int 8)))) (sTest (sBin opGt (sCall bLen (sCons (sVar 5) sNil)) (sC (.int 8)))))) (sRet (sC (.bl false))) sNext) (sIfS (sTest (sBin (opNil true) (sLc false (sIt (sBin opAdd (sVar 4) (sVar 5))) (gN 6) (sNot (sChain3 (sC (.int 1)) (sCall (b1 opMinT) (sCons (sVar 6) sNil)) (sCall (b1 opMaxT) (sCons (sVar 6) sNil)) (sBin opPow (sC (.int 10)) (sC (.int 30))))) (sVar 6) [6]) (sLst sNil))) (sRet (sC (.bl false))) sNext))) (sRet (sC (.bl true)))))
def l_is_hall : FN := fnOf 7 l_is_hall_b
/-- _law_hall_of -/
def l_hall_of_1_b : SS := (sSeq (sSet 1 (sIf (sTest (sBin (opEqT true) (sVar 0) (sC (.str "")))) (sLc false (sIt (sM1 opSplit (sVar 0) (sC (.str "\n")))) (gN 2) sYes (sCall (withD [] (pureF Sh.l_line_2)) (sCons (sVar 2) sNil)) [2]) (sLst sNil))) (sSeq (sIfS (sTest (sBin (opInD false) (sC .non) (sVar 1))) (sRet (sBin opAdd (sC (.str "error ")) (sCall (b1 opStrI) (sCons (sIdxD (sVar 1) (sCons (sC .non) sNil)) sNil)))) sNext) (sRet (sIf (sTest (sCall (withD [] (pureF Sh.l_is_hall)) (sCons (sVar 1) sNil))) (sVar 1) (sC (.str "error None"))))))
def l_hall_of_1 : FN := fnOf 3 l_hall_of_1_b
/-- _law_record_of -/
def l_record_of_b : SS := (sSeq (sSet 1 (sIf (sTest (sBin (opEqT true) (sVar 0) (sC (.str "")))) (sM1 opSplit (sVar 0) (sC (.str " "))) (sLst sNil))) (sSeq (sSet 2 (sLc false (sEnum (sCons (sVar 1) sNil)) (gT 2 (gCs (gN 3) (gCs (gN 4) gNl))) (sAnd (sTest (sBin (opEq true) (sVar 4) (sC (.str "-")))) (sNot (sTest (sCall (withD [] (pureF Sh.l_is_name_1)) (sCons (sVar 4) sNil))))) (sVar 3) [3, 4])) (sSeq (sIfS (sTest (sBin (opNil true) (sVar 2) (sLst sNil))) (sRet (sBin opAdd (sC (.str "error ")) (sCall (b1 opStrI) (sCons (sBin opIx (sVar 2) (sC (.int 0))) sNil)))) sNext) (sRet (sIf (sTest (sBin opLe (sCall bLen (sCons (sVar 1) sNil)) (sC (.int 400)))) (sLc false (sIt (sVar 1)) (gN 4) sYes (sIf (sTest (sBin (opEq false) (sVar 4) (sC (.str "-")))) (sC .non) (sVar 4)) [4]) (sC (.str "error None")))))))
def l_record_of : FN := fnOf 5 l_record_of_b
/-- _law_read -/
def l_read_b : SS := (sSeq (sSet 2 (sC (.str "odd"))) (sSeq (sTryG ["InvalidText"] 3 2 Sh.l_class_6 (sC (.str "InvalidText")) (sBin opAdd (sC (.str "error ")) (sCall (b1 opStrN) (sCons (sXfl ["InvalidText"] "line" (sVar 3)) sNil))) (sC (.str "odd")) (sSet 2 (sIf (sTest (sBin (opEq false) (sVar 0) (sC (.int 0)))) (sCall (withD [] (pureF Sh.parse_hall_1)) (sCons (sVar 1) sNil)) (sCall (withD [] (pureF Sh.parse_record_1)) (sCons (sVar 1) sNil))))) (sRet (sVar 2))))
def l_read : FN := fnOf 4 l_read_b
/-- _law_changed -/
def l_changed_5_b : SS := (sSeq (sSet 2 (sLst (sCons (sC (.str "")) (sCons (sC (.str "|")) (sCons (sC (.str "-")) (sCons (sC (.str "a")) (sCons (sC (.str "A")) (sCons (sC (.str "0")) (sCons (sC (.str "01")) (sCons (sC (.str "1:1")) (sCons (sC (.str "1:")) (sCons (sC (.str ":1")) (sCons (sC (.str "1:1:1")) (sCons (sC (.str "0:1")) (sCons (sC (.str "1:0")) (sCons (sC (.str "11")) (sCons (sC (.str "abcdefghi")) (sCons (sC (.str "+1")) sNil)))))))))))))))))) (sSeq (sSet 2 (sBin opAdd (sVar 2) (sLst (sCons (sC (.str "1 |")) (sCons (sC (.str "1_0")) (sCons (sC (.str "1_0:1")) (sCons (sC (.str "a_b")) (sCons (sC (.str "1.0:1")) sNil)))))))) (sSeq (sSet 3 (sC (.str " 0123456789:|-ab\nA_.+',;"))) (sSeq (sPar 4 5 (sCons (sCall (withD [] Sh.l_draw_3) (sCons (sVar 0) (sCons (sBin opAdd (sCall bLen (sCons (sVar 1) sNil)) (sC (.int 1))) sNil))) (sCons (sBin opIx (sVar 3) (sCall (withD [] Sh.l_draw_3) (sCons (sVar 0) (sCons (sC (.int 24)) sNil)))) sNil))) (sSeq (sSet 6 (sBin opIx (sLst (sCons (sC (.str " ")) (sCons (sC (.str "\n")) sNil))) (sCall (withD [] Sh.l_draw_3) (sCons (sVar 0) (sCons (sC (.int 2)) sNil))))) (sSeq (sSet 7 (sM1 opSplit (sVar 1) (sVar 6))) (sSeq (sSet 8 (sCall (withD [] Sh.l_draw_3) (sCons (sVar 0) (sCons (sCall bLen (sCons (sVar 7) sNil)) sNil)))) (sSeq (sSet 9 (sLst (sCons (sBin opAdd (sBin opAdd (sCutT (sVar 1) sNoPart (sPart (sVar 4))) (sVar 5)) (sCutT (sVar 1) (sPart (sVar 4)) sNoPart)) (sCons (sBin opAdd (sCutT (sVar 1) sNoPart (sPart (sVar 4))) (sCutT (sVar 1) (sPart (sBin opAdd (sVar 4) (sC (.int 1)))) sNoPart)) (sCons (sBin opAdd (sBin opAdd (sCutT (sVar 1) sNoPart (sPart (sVar 4))) (sVar 5)) (sCutT (sVar 1) (sPart (sBin opAdd (sVar 4) (sC (.int 1)))) sNoPart)) sNil))))) (sSeq (sSet 9 (sBin opAdd (sVar 9) (sLst (sCons (sM1 opJoin (sVar 6) (sBin opAdd (sCut false (sVar 7) sNoPart (sPart (sVar 8))) (sCut false (sVar 7) (sPart (sBin opAdd (sVar 8) (sC (.int 1)))) sNoPart))) (sCons (sM1 opJoin (sVar 6) (sBin opAdd (sCut false (sVar 7) sNoPart (sPart (sBin opAdd (sVar 8) (sC (.int 1))))) (sCut false (sVar 7) (sPart (sVar 8)) sNoPart))) sNil))))) (sSeq (sSet 9 (sBin opAdd (sVar 9) (sLst (sCons (sM1 opJoin (sVar 6) (sCutS false (sVar 7) sNoPart sNoPart (sPart (sUn opNeg (sC (.int 1)))))) (sCons (sM1 opJoin (sVar 6) (sBin opAdd (sBin opAdd (sCut false (sVar 7) sNoPart (sPart (sVar 8))) (sLst (sCons (sBin opIx (sVar 2) (sCall (withD [] Sh.l_draw_3) (sCons (sVar 0) (sCons (sC (.int 21)) sNil)))) sNil))) (sCut false (sVar 7) (sPart (sBin opAdd (sVar 8) (sC (.int 1)))) sNoPart))) sNil))))) (sRet (sBin opIx (sVar 9) (sCall (withD [] Sh.l_draw_3) (sCons (sVar 0) (sCons (sC (.int 7)) sNil)))))))))))))))
def l_changed_5 : FN := fnOf 10 l_changed_5_b
/-- law -/
def law_k56_1_b : SS := (sSeq (sSet 1 (sCall (withD [] Sh.l_bag) (sCons (sVar 0) sNil))) (sSeq (sFor (sRng1 (sBin opAdd (sC (.int 4)) (sCall bMin (sCons (sC (.int 8)) (sCons (sCall bLen (sCons (sVar 0) sNil)) sNil))))) (gN 2) (sSeq (sSet 3 (sLstO sNil)) (sSeq (sFor (sIt (sCall (withD [] Sh.l_hall_4) (sCons (sVar 1) (sCons (sC (.int 4)) (sCons (sBin opIx (sLst (sCons (sC (.int 9)) (sCons (sBin opPow (sC (.int 10)) (sC (.int 30))) sNil))) (sCall (withD [] Sh.l_draw_3) (sCons (sVar 1) (sCons (sC (.int 2)) sNil)))) sNil))))) (gT 4 (gCs (gN 4) (gCs (gN 5) (gCs (gN 6) (gCs (gN 7) gNl))))) (sSeq (sSet 8 (sLc false (sIt (sBin opAdd (sVar 6) (sVar 7))) (gN 9) sYes (sBin opAdd (sBin opAdd (sCall (b1 opStrI) (sCons (sBin opIx (sVar 9) (sC (.int 0))) sNil)) (sC (.str ":"))) (sCall (b1 opStrI) (sCons (sBin opIx (sVar 9) (sC (.int 1))) sNil))) [9])) (sExpr (sMtO gAppend (sVar 3) (sCons (sM1 opJoin (sC (.str " ")) (sBin opAdd (sBin opAdd (sBin opAdd (sLst (sCons (sVar 4) (sCons (sCall (b1 opStrI) (sCons (sVar 5) sNil)) sNil))) (sCut false (sVar 8) sNoPart (sPart (sCall bLen (sCons (sVar 6) sNil))))) (sLst (sCons (sC (.str "|")) sNil))) (sCut false (sVar 8) (sPart (sCall bLen (sCons (sVar 6) sNil))) sNoPart))) sNil))))) (sSeq (sSet 10 (sLst (sCons (sC (.str "-")) (sCons (sC (.str "a")) (sCons (sC (.str "b")) (sCons (sC (.str "zz")) (sCons (sC (.str "abcdefgh")) sNil))))))) (sSeq (sSet 11 (sLst (sCons (sM1 opJoin (sC (.str "\n")) (sVar 3)) (sCons (sM1 opJoin (sC (.str " ")) (sLc false (sRng1 (sCall (withD [] Sh.l_draw_3) (sCons (sVar 1) (sCons (sC (.int 30)) sNil)))) (gN 12) sYes (sBin opIx (sVar 10) (sCall (withD [] Sh.l_draw_3) (sCons (sVar 1) (sCons (sC (.int 5)) sNil)))) [12])) sNil)))) (sFor (sRng1 (sC (.int 6))) (gN 12) (sSeq (sSet 13 (sBin opIx (sVar 11) (sCall (withD [] Sh.l_draw_3) (sCons (sVar 1) (sCons (sC (.int 2)) sNil))))) (sSeq (sFor (sRng1 (sCall (withD [] Sh.l_draw_3) (sCons (sVar 1) (sCons (sC (.int 4)) sNil)))) (gN 14) (sSet 13 (sCall (withD [] Sh.l_changed_5) (sCons (sVar 1) (sCons (sVar 13) sNil))))) (sSeq (sSet 13 (sCutT (sVar 13) sNoPart (sPart (sC (.int 4000))))) (sSeq (sSet 15 (sLst (sCons (sCall (withD [] (pureF Sh.l_hall_of_1)) (sCons (sVar 13) sNil)) (sCons (sCall (withD [] (pureF Sh.l_record_of)) (sCons (sVar 13) sNil)) sNil)))) (sIfS (sTest (sBin (opEqT true) (sCall (b1 opReprX) (sCons (sLst (sCons (sCall (withD [] (pureF Sh.l_read)) (sCons (sC (.int 0)) (sCons (sVar 13) sNil))) (sCons (sCall (withD [] (pureF Sh.l_read)) (sCons (sC (.int 1)) (sCons (sVar 13) sNil))) sNil))) sNil)) (sCall (b1 opReprX) (sCons (sVar 15) sNil)))) (sRet (sC (.bl false))) sNext))))))))))) (sSeq (sFor (sIt (sLst (sCons (sC .non) (sCons (sC (.int 0)) (sCons (sLst (sCons (sC (.str "a")) sNil)) (sCons (sC (.bl true)) (sCons sDct0 (sCons (sTup (sCons (sC (.str "a")) (sCons (sC (.int 1)) sNil))) sNil)))))))) (gN 16) (sIfS (sTest (sBin (opEq true) (sLst (sCons (sCall (withD [] (pureF Sh.l_read)) (sCons (sC (.int 0)) (sCons (sVar 16) sNil))) (sCons (sCall (withD [] (pureF Sh.l_read)) (sCons (sC (.int 1)) (sCons (sVar 16) sNil))) sNil))) (sBin opMul (sLst (sCons (sC (.str "error None")) sNil)) (sC (.int 2))))) (sRet (sC (.bl false))) sNext)) (sSeq (sSet 17 (sM1 opJoin (sC (.str " ")) (sBin opMul (sLst (sCons (sC (.str "a")) sNil)) (sC (.int 401))))) (sSeq (sSet 18 (sLst (sCons (sCall (withD [] (pureF Sh.l_read)) (sCons (sC (.int 1)) (sCons (sVar 17) sNil))) (sCons (sCall (withD [] (pureF Sh.l_read)) (sCons (sC (.int 1)) (sCons (sBin opAdd (sVar 17) (sC (.str " A"))) sNil))) (sCons (sCall (withD [] (pureF Sh.l_read)) (sCons (sC (.int 1)) (sCons (sCutT (sVar 17) (sPart (sC (.int 2))) sNoPart) sNil))) (sCons (sCall (withD [] (pureF Sh.l_read)) (sCons (sC (.int 0)) (sCons (sC (.str "a 11 | 1:1")) sNil))) sNil)))))) (sRet (sBin (opEq false) (sVar 18) (sLst (sCons (sC (.str "error None")) (sCons (sC (.str "error 401")) (sCons (sBin opMul (sLst (sCons (sC (.str "a")) sNil)) (sC (.int 400))) (sCons (sC (.str "error None")) sNil))))))))))))
def law_k56_1 : FN := fnOf 19 law_k56_1_b
end Sh
end HR
set_option Elab.async false
set_option linter.all false
set_option maxRecDepth 20000
namespace HR
open PySem L2
/-! ### the spring: draw -/
/-- the spring at i -/
def Spr (h : OH) (i : Nat) : Prop := ∃ a b c : Int, h[i]? = some (.lst [.int a, .int b, .int c]) ∧ 0 ≤ b ∧ b < 2305843009213693951
/-- nothing but i is changed; the heap may have grown -/
def Chg (i : Nat) (h h' : OH) : Prop := h.length ≤ h'.length ∧ ∀ j, j < h.length → j ≠ i → h'[j]? = h[j]?
theorem Chg.refl (i : Nat) (h : OH) : Chg i h h := ⟨Nat.le_refl _, fun _ _ _ => rfl⟩
theorem Chg.trans {i : Nat} {h1 h2 h3 : OH} (a : Chg i h1 h2) (b : Chg i h2 h3) : Chg i h1 h3 := ⟨Nat.le_trans a.1 b.1, fun j hj n => (b.2 j (Nat.lt_of_lt_of_le hj a.1) n).trans (a.2 j hj n)⟩
theorem Chg.set (i : Nat) (h : OH) (o : OO) : Chg i h (h.set i o) := ⟨by simp, fun j hj n => by rw [List.getElem?_set_ne (Ne.symm n)]⟩
theorem Chg.get {i : Nat} {h h' : OH} (c : Chg i h h') {j : Nat} {o : OO} (e : h[j]? = some o) (n : j ≠ i) : h'[j]? = some o := (c.2 j (List.getElem?_eq_some_iff.mp e).1 n).trans e
theorem Chg.app (i : Nat) (h t : OH) : Chg i h (h ++ t) := ⟨by simp, fun j hj _ => List.getElem?_append_left hj⟩
theorem Spr.lt {h : OH} {i : Nat} (s : Spr h i) : i < h.length := by
  obtain ⟨a, b, c, e, _⟩ := s
  exact (List.getElem?_eq_some_iff.mp e).1
theorem Spr.app {h : OH} {i : Nat} (s : Spr h i) (t : OH) : Spr (h ++ t) i := by
  have := s.lt
  obtain ⟨a, b, c, e, r⟩ := s
  exact ⟨a, b, c, by rw [List.getElem?_append_left this]; exact e, r⟩
theorem Spr.set {h : OH} {i j : Nat} (s : Spr h i) (n : j ≠ i) (o : OO) : Spr (h.set j o) i := by
  obtain ⟨a, b, c, e, r⟩ := s
  exact ⟨a, b, c, by rw [List.getElem?_set_ne n]; exact e, r⟩
end HR
set_option Elab.async false
set_option linter.all false
set_option maxRecDepth 20000
namespace HR
open PySem L2
/-! ### halls: the talks, the talkers -/
def dT (p : Int × Int) : D := .tup [.int p.1, .int p.2]
structure Tk where
  name : Str
  rank : Int
  pre : List (Int × Int)
  cyc : List (Int × Int)
def dTk (t : Tk) : D := .tup [.str t.name, .int t.rank, .lst (t.pre.map dT), .lst (t.cyc.map dT)]
def In1 (m : Int) (p : Int × Int) : Prop := 1 ≤ p.1 ∧ p.1 ≤ m ∧ 1 ≤ p.2 ∧ p.2 ≤ m
theorem pickI {ns : List Int} {v : Int} {P : D → Prop} (h0 : 0 ≤ v) (h1 : v < ns.length) (q : ∀ n ∈ ns, P (.int n)) : lkS (atI (ns.map D.int) v) P := by
  have hl : v.toNat < ns.length := by omega
  refine lkS_of (x := .int ns[v.toNat]) ?_ (q _ (List.getElem_mem hl))
  rw [atI_z h0 (by simpa using h1)]
  simp [hl]
def WfN (x : Str) : Prop := 1 ≤ x.length ∧ x.length ≤ 8 ∧ ∀ c ∈ x.cps.toList, c ∈ ("abcdefghijklmnopqrstuvwxyz" : Str).cps.toList
structure WfTk (m : Int) (t : Tk) : Prop where
  name : WfN t.name
  r1 : 1 ≤ t.rank
  r2 : t.rank ≤ 10
  lp : t.pre.length ≤ 8
  lc1 : 1 ≤ t.cyc.length
  lc : t.cyc.length ≤ 8
  pre : ∀ p ∈ t.pre, In1 m p
  cyc : ∀ p ∈ t.cyc, In1 m p
structure WfHall (m : Int) (ts : List Tk) : Prop where
  len : ts.length ≤ 10
  tk : ∀ t ∈ ts, WfTk m t
  nd : (ts.map (·.name)).Nodup
def NAMES : List Str := ["a", "b", "abcdefgh", "zz", "m", "ba", "q", "xyz", "cc", "p"]
theorem names_wf : ∀ x ∈ NAMES, WfN x := by unfold WfN; decide +kernel
theorem names_nd : NAMES.Nodup := by decide +kernel
theorem eraseIdx_mapF {α β : Type} (f : α → β) : ∀ (l : List α) (n : Nat), (l.map f).eraseIdx n = (l.eraseIdx n).map f
  | [], _ => rfl
  | _ :: _, 0 => rfl
  | x :: l, n + 1 => by simp [eraseIdx_mapF f l n]
theorem eraseIdx_permF {α : Type} : ∀ (l : List α) (n : Nat) (h : n < l.length), (l[n] :: l.eraseIdx n).Perm l
  | [], _, h => absurd h (Nat.not_lt_zero _)
  | x :: l, 0, _ => List.Perm.refl _
  | x :: l, n + 1, h => (List.Perm.swap x _ _).trans ((eraseIdx_permF l n (Nat.lt_of_succ_lt_succ h)).cons x)
end HR
set_option Elab.async false
set_option linter.all false
set_option maxRecDepth 20000
namespace HR
open PySem L2
/-! ### the checks of a hall -/
abbrev T30 : Int := 1000000000000000000000000000000
theorem pure_dT (p : Int × Int) : (dT p).pure = true := by simp [dT]
@[simp] theorem pureL_dT (ts : List (Int × Int)) : D.pureL (ts.map dT) = true := pureL_map _ pure_dT ts
theorem pure_dTk (t : Tk) : (dTk t).pure = true := by simp [dTk]
@[simp] theorem pureL_dTk (ts : List Tk) : D.pureL (ts.map dTk) = true := pureL_map _ pure_dTk ts
@[simp] theorem isseq_l (xs : List D) (h : OH) (hp : D.pureL xs = true) : pureF Sh.is_sequence [.lst xs] h = .ok (.bl true) h := by
  refine pure_eq h (by simp [hp]) rfl ?_
  unfold Sh.is_sequence; rw [W_fn]; unfold Sh.is_sequence_b; simp
@[simp] theorem isseq_t (xs : List D) (h : OH) (hp : D.pureL xs = true) : pureF Sh.is_sequence [.tup xs] h = .ok (.bl true) h := by
  refine pure_eq h (by simp [hp]) rfl ?_
  unfold Sh.is_sequence; rw [W_fn]; unfold Sh.is_sequence_b; simp
@[simp] theorem isint2 (v lo hi : Int) (h : OH) : pureF Sh.is_integer [.int v, .int lo, .int hi] h = .ok (.bl (decide (lo ≤ v) && decide (v ≤ hi))) h := by
  refine pure_eq h rfl rfl ?_
  unfold Sh.is_integer; rw [W_fn]; unfold Sh.is_integer_b; simp
  split
  · rename_i q; simp [q]
  · rename_i q; simp [q]
@[simp] theorem isint1 (v lo : Int) (h : OH) : pureF Sh.is_integer [.int v, .int lo, .non] h = .ok (.bl (decide (lo ≤ v))) h := by
  refine pure_eq h rfl rfl ?_
  unfold Sh.is_integer; rw [W_fn]; unfold Sh.is_integer_b; simp
end HR
set_option Elab.async false
set_option linter.all false
set_option maxRecDepth 20000
namespace HR
open PySem L2
/-! ### schedules -/
/-- 0, x0, x0 + x1, .. -/
def sums (l : List Int) : List Int := (List.range (l.length + 1)).map fun k => (l.take k).sum
def dSch (p c : List (Int × Int)) : D := .obj "Schedule" [("prefix", .lst (p.map dT)), ("cycle", .lst (c.map dT)), ("prefix_silences", .lst ((sums (p.map (·.1))).map D.int)), ("prefix_lengths", .lst ((sums (p.map (·.2))).map D.int)), ("cycle_silences", .lst ((sums (c.map (·.1))).map D.int)), ("cycle_lengths", .lst ((sums (c.map (·.2))).map D.int))]
@[simp] theorem pure_dSch (p c : List (Int × Int)) : (dSch p c).pure = true := by simp [dSch]
def dMem (t : Tk) : D := .obj "Member" [("name", .str t.name), ("rank", .int t.rank), ("schedule", dSch t.pre t.cyc)]
@[simp] theorem pure_dMem (t : Tk) : (dMem t).pure = true := by simp [dMem]
@[simp] theorem pureL_dMem (ts : List Tk) : D.pureL (ts.map dMem) = true := pureL_map _ pure_dMem ts
end HR
set_option Elab.async false
set_option linter.all false
set_option maxRecDepth 20000
namespace HR
open PySem L2
/-! ### the talks of a schedule, their sums -/
def nth (p c : List (Int × Int)) (i : Nat) : Int × Int := if i < p.length then p.getD i (0, 0) else c.getD ((i - p.length) % c.length) (0, 0)
/-- the sum over the first n talks -/
def acc (f : Int × Int → Int) (p c : List (Int × Int)) : Nat → Int
  | 0 => 0
  | n + 1 => acc f p c n + f (nth p c n)
end HR
set_option Elab.async false
set_option linter.all false
set_option maxRecDepth 20000
namespace HR
open PySem L2
section
variable {p c : List (Int × Int)}
/-- the two lists of sums -/
def dSums (f : Int × Int → Int) (l : List (Int × Int)) : D := .lst ((sums (l.map f)).map D.int)
end
end HR
set_option Elab.async false
set_option linter.all false
set_option maxRecDepth 20000
namespace HR
open PySem L2
section
variable {p c : List (Int × Int)}
def schFs (p c : List (Int × Int)) : List (String × D) := [("prefix", .lst (p.map dT)), ("cycle", .lst (c.map dT)), ("prefix_silences", dSums (·.1) p), ("prefix_lengths", dSums (·.2) p), ("cycle_silences", dSums (·.1) c), ("cycle_lengths", dSums (·.2) c)]
@[simp] theorem ins_dSch (h : OH) : insAt h (dSch p c) = some ("Schedule", schFs p c) := rfl
@[simp] theorem fs_1 : (schFs p c).lookup "prefix" = some (.lst (p.map dT)) := rfl
@[simp] theorem fs_2 : (schFs p c).lookup "cycle" = some (.lst (c.map dT)) := rfl
@[simp] theorem fs_3 : (schFs p c).lookup "prefix_silences" = some (dSums (·.1) p) := rfl
@[simp] theorem fs_4 : (schFs p c).lookup "prefix_lengths" = some (dSums (·.2) p) := rfl
@[simp] theorem fs_5 : (schFs p c).lookup "cycle_silences" = some (dSums (·.1) c) := rfl
@[simp] theorem fs_6 : (schFs p c).lookup "cycle_lengths" = some (dSums (·.2) c) := rfl
@[simp] theorem fs_m1 : hasNo (schFs p c) "sum_of_first" = True := eq_true rfl
@[simp] theorem fs_m2 : hasNo (schFs p c) "nth_ready" = True := eq_true rfl
@[simp] theorem fs_m3 : hasNo (schFs p c) "nth_talk" = True := eq_true rfl
@[simp] theorem fs_m4 : hasNo (schFs p c) "count_ready" = True := eq_true rfl
@[simp] theorem fs_m5 : hasNo (schFs p c) "length_ready" = True := eq_true rfl
end
end HR
set_option Elab.async false
set_option linter.all false
set_option maxRecDepth 20000
set_option Elab.async false
set_option linter.all false
set_option maxRecDepth 20000
namespace HR
open PySem L2
/-! ### inverse of a growing function: the plain law -/
/-- g l: the least q with l ≤ f q -/
def Gal (f g : Nat → Nat) : Prop := ∀ q l, l ≤ f q ↔ g l ≤ q
def Inc (f : Nat → Nat) : Prop := ∀ q, f q < f (q + 1)
section
variable {f g f' g' : Nat → Nat}
theorem Inc.lt (i : Inc f) {a : Nat} : ∀ {b : Nat}, a < b → f a < f b
  | 0, h => absurd h (Nat.not_lt_zero _)
  | b + 1, h => by
    rcases Nat.lt_or_ge a b with h1 | h1
    · exact Nat.lt_trans (i.lt h1) (i b)
    · have : a = b := by omega
      subst this; exact i a
theorem Inc.le (i : Inc f) {a b : Nat} (h : a ≤ b) : f a ≤ f b := by
  rcases Nat.lt_or_ge a b with h1 | h1
  · exact Nat.le_of_lt (i.lt h1)
  · have : a = b := by omega
    subst this; exact Nat.le_refl _
theorem Gal.le (a : Gal f g) (l : Nat) : l ≤ f (g l) := (a (g l) l).mpr (Nat.le_refl _)
theorem Gal.lt (a : Gal f g) {q l : Nat} (h : q < g l) : f q < l := by
  rcases Nat.lt_or_ge (f q) l with k | k
  · exact k
  · have := (a q l).mp k; omega
end
/-! ### how many talks are ready, how long they are -/
section
variable {p c : List (Int × Int)}
def cnt (p c : List (Int × Int)) : Nat → Nat
  | 0 => 0
  | q + 1 => if acc (·.1) p c (cnt p c q + 1) ≤ ((q + 1 : Nat) : Int) then cnt p c q + 1 else cnt p c q
/-- ticks of the talks that are ready at q -/
def len2 (p c : List (Int × Int)) (q : Nat) : Nat := (acc (·.2) p c (cnt p c q)).toNat
end
/-! ### the clocks -/
def LL (ts : List Tk) (r q : Nat) : Nat := ((ts.filter fun t => t.rank == (r : Int)).map fun t => len2 t.pre t.cyc q).sum
def LI (ts : List Tk) (r q : Nat) : Nat := q + LL ts r q
end HR
set_option Elab.async false
set_option linter.all false
set_option maxRecDepth 20000
namespace HR
open PySem L2
/-! ### the clocks: what the functions of the program compute -/
def memFs (t : Tk) : List (String × D) := [("name", .str t.name), ("rank", .int t.rank), ("schedule", dSch t.pre t.cyc)]
@[simp] theorem ins_dMem (t : Tk) (h : OH) : insAt h (dMem t) = some ("Member", memFs t) := rfl
@[simp] theorem mem_1 (t : Tk) : (memFs t).lookup "name" = some (.str t.name) := rfl
@[simp] theorem mem_2 (t : Tk) : (memFs t).lookup "rank" = some (.int t.rank) := rfl
@[simp] theorem mem_3 (t : Tk) : (memFs t).lookup "schedule" = some (dSch t.pre t.cyc) := rfl
section
variable {ts : List Tk}
/-- the i-th tick left for rank k + 1, as a tick -/
def TO (ts : List Tk) : Nat → Nat → Nat
  | 0, q => q
  | k + 1, q => TO ts k (LI ts (k + 1) q)
end
end HR
set_option Elab.async false
set_option linter.all false
set_option maxRecDepth 20000
set_option exponentiation.threshold 5000
set_option Elab.async false
set_option linter.all false
set_option maxRecDepth 20000
namespace HR
open PySem L2
/-! small things of many laws -/
theorem In1.mono {m m' : Int} {p : Int × Int} (w : In1 m p) (h : m ≤ m') : In1 m' p := ⟨w.1, by have := w.2.1; omega, w.2.2.1, by have := w.2.2.2; omega⟩
theorem WfHall.mono {m m' : Int} {ts : List Tk} (w : WfHall m ts) (h : m ≤ m') : WfHall m' ts := ⟨w.len, fun t ht => let a := w.tk t ht; ⟨a.name, a.r1, a.r2, a.lp, a.lc1, a.lc, fun p hp => (a.pre p hp).mono h, fun p hp => (a.cyc p hp).mono h⟩, w.nd⟩
@[simp] theorem W_addLL (xs ys : List D) (h : OH) {PD : D → OH → Prop} : (opAdd (.lst xs) (.lst ys) h).W PD = if xs.length + ys.length ≤ 1000000 then PD (.lst (xs ++ ys)) h else False := by
  simp [opAdd, lstAt, big]
@[simp] theorem SW_aug (i : Nat) (g : D → D → OH → Res D) (f : SE) (e : Env') (h : OH) {N C B : Env' → OH → Prop} {R : D → OH → Prop} : (sAug i g f e h).W N C B R = (sVar i e h).W fun x _ => (f e h).W fun y h1 => (g x y h1).W fun z h2 => N (e.set i (some z)) h2 := by
  unfold sAug sVar
  rcases e[i]? with _ | _ | x
  · rfl
  · rfl
  · simp
@[simp] theorem W_tointB (b : Bool) (h : OH) {PD : D → OH → Prop} : (opInt (.bl b) h).W PD = PD (.int (if b then 1 else 0)) h := rfl
@[simp] theorem W_tointI (b : Int) (h : OH) {PD : D → OH → Prop} : (opInt (.int b) h).W PD = PD (.int b) h := rfl
end HR
set_option Elab.async false
set_option linter.all false
set_option maxRecDepth 20000
namespace HR
open PySem L2
/-! ### how long a repr may be -/
theorem textFrom_up : ∀ (ts : List Str) (k : Nat) (acc : Str) (n : Nat), (∀ t ∈ ts, t.length ≤ n) → (textFrom k acc ts).length ≤ acc.length + ts.length * (n + 2)
  | [], k, acc, n, _ => by simp [textFrom]
  | t :: ts, k, acc, n, hn => by
    have h1 := hn t List.mem_cons_self
    have h2 := textFrom_up ts (k + 1) (acc ++ (if k > 0 then ", " else "" : String) ++ t) n fun y hy => hn y (List.mem_cons_of_mem _ hy)
    have e : (acc ++ (if k > 0 then ", " else "" : String) ++ t).length ≤ acc.length + 2 + t.length := by
      rw [strLen_append, strLen_append]
      split <;> simp only [Nat.add_le_add_iff_right, Nat.add_le_add_iff_left] <;> decide
    simp only [textFrom, List.length_cons, Nat.add_mul]
    omega
theorem listText_up {ts : List Str} {n : Nat} (hn : ∀ t ∈ ts, t.length ≤ n) : (listText ts).length ≤ ts.length * (n + 2) + 2 := by
  have := textFrom_up ts 0 "[" n hn
  unfold listText
  rw [strLen_append]
  have a : (("[" : String) : Str).length = 1 := rfl
  have b : (("]" : String) : Str).length = 1 := rfl
  omega
theorem join_up : ∀ (ts : List Str) (n : Nat), (∀ t ∈ ts, t.length ≤ n) → (Str.join ", " ts).length ≤ ts.length * (n + 2)
  | [], n, _ => by
    show (0 : Nat) ≤ _
    omega
  | [t], n, hn => by
    have h1 := hn t List.mem_cons_self
    show t.length ≤ _
    simp only [List.length_cons, List.length_nil]
    omega
  | t :: u :: r, n, hn => by
    have h1 := hn t List.mem_cons_self
    have h2 := join_up (u :: r) n fun y hy => hn y (List.mem_cons_of_mem _ hy)
    have e : Str.join ", " (t :: u :: r) = t ++ ((", " : String) : Str) ++ Str.join ", " (u :: r) := rfl
    rw [e, strLen_append, strLen_append]
    have c : ((", " : String) : Str).length = 2 := rfl
    simp only [List.length_cons, Nat.add_mul] at h2 ⊢
    omega
theorem tupleText_up {ts : List Str} {n : Nat} (hn : ∀ t ∈ ts, t.length ≤ n) : (tupleText ts).length ≤ ts.length * (n + 2) + 3 := by
  have := join_up ts n hn
  unfold tupleText
  rw [strLen_append, strLen_append]
  have a : (("(" : String) : Str).length = 1 := rfl
  have b : ((if ts.length == 1 then ",)" else ")" : String) : Str).length ≤ 2 := by split <;> decide
  omega
/-- d is read as p: shown within n signs, of depth at most k -/
structure RpP (d : D) (p : PyData) (k n : Nat) : Prop where
  py : ∀ get, pyR get d = some p
  sh : p.showable = true
  dp : p.depth ≤ k
  ln : p.shown.length ≤ n
def Rp (d : D) (k n : Nat) : Prop := ∃ p, RpP d p k n
theorem Rp.mono {d : D} {k n k' n' : Nat} (h : Rp d k n) (hk : k ≤ k') (hn : n ≤ n') : Rp d k' n' := let ⟨p, a, b, c, e⟩ := h; ⟨p, a, b, Nat.le_trans c hk, Nat.le_trans e hn⟩
theorem rp_non : Rp .non 0 4 := ⟨.none, fun _ => rfl, rfl, Nat.le_refl _, by decide⟩
theorem rp_int {i : Int} {k : Nat} (hk : 0 < k) (hk2 : k ≤ 1920) (h : i.natAbs < 2 ^ k) : Rp (.int i) 0 (k + 1) := by
  have hl : i.natAbs.log2 < k := by
    by_cases h0 : i.natAbs = 0
    · rw [h0]; simpa using hk
    · exact (Nat.log2_lt h0).mpr h
  refine ⟨.int i, fun _ => rfl, by simp only [PyData.showable, decide_eq_true_eq]; omega, Nat.le_refl _, ?_⟩
  simp only [PyData.shown]
  have := int_text_length_le hk hl
  rw [ofString_length]
  exact this
theorem rp_str {x : Str} (h : ∀ c ∈ x.cps.toList, c < 16 ^ 8) : Rp (.str x) 0 (10 * x.length + 2) := by
  refine ⟨.str x, fun _ => rfl, rfl, Nat.le_refl _, ?_⟩
  simp only [PyData.shown]
  have := StrLaws.foldl_repr_len (reprQuote x) x.cps.toList #[reprQuote x] h
  show (reprText x).cps.size ≤ _
  unfold reprText
  rw [Array.size_push, ← Array.foldl_toList]
  have e : x.cps.toList.length = x.length := by simp [Str.length]
  simp only [List.size_toArray, List.length_cons, List.length_nil] at this
  omega
theorem rpL {k n : Nat} : ∀ {ds : List D}, (∀ d ∈ ds, Rp d k n) → ∃ ps, (∀ get, pyRL get ds = some ps) ∧ PyData.showableAll ps = true ∧ PyData.depthAll ps ≤ k ∧ (∀ t ∈ PyData.shownAll ps, t.length ≤ n) ∧ (PyData.shownAll ps).length = ds.length
  | [], _ => ⟨[], fun _ => rfl, rfl, Nat.zero_le _, (fun _ h => by cases h), rfl⟩
  | d :: ds, h => by
    obtain ⟨p, a, b, c, e⟩ := h d List.mem_cons_self
    obtain ⟨ps, a2, b2, c2, e2, l2⟩ := rpL fun y hy => h y (List.mem_cons_of_mem _ hy)
    refine ⟨p :: ps, fun get => by simp [pyRL, a get, a2 get], by simp [PyData.showableAll, b, b2], by simp only [PyData.depthAll]; omega, fun t ht => ?_, by simp [PyData.shownAll, l2]⟩
    simp only [PyData.shownAll, List.mem_cons] at ht
    rcases ht with rfl | ht
    · exact e
    · exact e2 t ht
theorem rp_lst {ds : List D} {k n : Nat} (h : ∀ d ∈ ds, Rp d k n) : Rp (.lst ds) (k + 1) (ds.length * (n + 2) + 2) := by
  obtain ⟨ps, a, b, c, e, l⟩ := rpL h
  refine ⟨.list ps, fun get => by simp [pyR, a get], by simp [PyData.showable, b], by simp only [PyData.depth]; omega, ?_⟩
  simp only [PyData.shown]
  rw [← l]
  exact listText_up e
theorem rp_tup {ds : List D} {k n : Nat} (h : ∀ d ∈ ds, Rp d k n) : Rp (.tup ds) (k + 1) (ds.length * (n + 2) + 3) := by
  obtain ⟨ps, a, b, c, e, l⟩ := rpL h
  refine ⟨.tuple ps, fun get => by simp [pyR, a get], by simp [PyData.showable, b], by simp only [PyData.depth]; omega, ?_⟩
  simp only [PyData.shown]
  rw [← l]
  exact tupleText_up e
/-- repr of a list or tuple, frozen -/
theorem W_reprF {d : D} {h : OH} {k n : Nat} (r : isRf d = true) (q : Rp d k n) (hk : k ≤ 60) (hn : n ≤ big) : ∃ x, ∀ h PD, (opReprX d h).W PD = PD (.str x) h := by
  obtain ⟨p, a, b, c, e⟩ := q
  refine ⟨p.shown, fun h PD => ?_⟩
  have ok : reprOkX p = true := by
    simp only [reprOkX, b, Bool.true_and, Bool.and_eq_true, decide_eq_true_eq]
    omega
  unfold opReprX
  rw [if_pos r]
  simp [pyRAt, a, ok]
end HR
set_option Elab.async false
set_option linter.all false
set_option maxRecDepth 20000
set_option exponentiation.threshold 5000
namespace HR
open PySem L2
/-! ### values that are no halls -/
def gTk : Tk := ⟨"k", 1, [], [(1, 1)]⟩
theorem ddK_le : ∀ (ks acc : List Key), (ddK acc ks).length ≤ acc.length + ks.length
  | [], acc => by simp [ddK]
  | x :: r, acc => by
    have a := ddK_le r acc
    have b := ddK_le r (acc ++ [x])
    simp only [List.length_append, List.length_singleton] at b
    simp only [ddK, List.length_cons]
    split <;> omega
/-! what they are to repr -/
/-! the def that draws one -/
@[simp] theorem W_dct0 (e : Env') (h : OH) {PD : D → OH → Prop} : (sDct0 e h).W PD = PD (.dct []) h := rfl
end HR
set_option Elab.async false
set_option linter.all false
set_option maxRecDepth 20000
set_option exponentiation.threshold 5000
set_option Elab.async false
set_option linter.all false
set_option maxRecDepth 20000
set_option exponentiation.threshold 5000
namespace HR
open PySem L2
/-! ### small things of the laws of errors -/
@[simp] theorem W_eqNS (neg : Bool) (y : Str) (h : OH) {PD : D → OH → Prop} (hy : PyData.strOk y = true) : (opEq neg .non (.str y) h).W PD = PD (.bl neg) h := by
  simp [opEq, SeqAt.shaped, PyData.canLay0, PyData.depth, PyData.eqv, hy]
end HR
set_option Elab.async false
set_option linter.all false
set_option maxRecDepth 20000
namespace HR
open PySem L2
/-! ### the bag of the laws of records and texts: draws -/
/-- the bag at i, after at most c draws -/
def Bag (ns : List Int) (h : OH) (i c : Nat) : Prop := ∃ p rest cnt total : Int, h[i]? = some (.lst [.lst (ns.map D.int), .int p, .int rest, .int cnt, .int total]) ∧ 0 ≤ p ∧ p ≤ ns.length ∧ 0 ≤ cnt ∧ cnt ≤ c ∧ 0 ≤ total ∧ total < 2305843009213693951
section
variable {ns : List Int} {h : OH} {i c : Nat}
theorem Bag.lt (s : Bag ns h i c) : i < h.length := by
  obtain ⟨p, r, n, t, e, _⟩ := s
  exact (List.getElem?_eq_some_iff.mp e).1
theorem Bag.mono {c' : Nat} (s : Bag ns h i c) (hc : c ≤ c') : Bag ns h i c' := by
  obtain ⟨p, r, n, t, e, a1, a2, a3, a4, a5⟩ := s
  exact ⟨p, r, n, t, e, a1, a2, a3, by omega, a5⟩
theorem Bag.app (s : Bag ns h i c) (t : OH) : Bag ns (h ++ t) i c := by
  have := s.lt
  obtain ⟨p, r, n, t', e, q⟩ := s
  exact ⟨p, r, n, t', by rw [List.getElem?_append_left this]; exact e, q⟩
theorem Bag.set {j : Nat} (s : Bag ns h i c) (n : j ≠ i) (o : OO) : Bag ns (h.set j o) i c := by
  obtain ⟨p, r, m, t, e, q⟩ := s
  exact ⟨p, r, m, t, by rw [List.getElem?_set_ne n]; exact e, q⟩
theorem stir_ok {a b : Int} (hb : 0 ≤ b) (hb2 : b < 2 ^ 62) : ∃ s : Int, ∀ h, pureF Sh.l_stir [.int a, .int b] h = .ok (.int s) h := by
  have key : (Sh.l_stir [.int a, .int b] []).W fun d _ => ∃ s : Int, d = .int s := by
    unfold Sh.l_stir; rw [W_fn]; unfold Sh.l_stir_b
    have m1 : mulOk a 998244353 = true := mulOk_r (by decide)
    have m2 : mulOk b 1000000007 = true := mulOk_r (by decide)
    have m3 : ∀ x : Int, mulOk (x % 2305843009213693951) (x % 2305843009213693951) = true := fun x => mulOk_l (by have := Int.emod_nonneg x (show (2305843009213693951 : Int) ≠ 0 by decide); have := Int.emod_lt_of_pos x (show (0 : Int) < 2305843009213693951 by decide); omega)
    have m4 : ∀ x : Int, mulOk x 2860486313 = true := fun x => mulOk_r (by decide)
    have m5 : mulOk b b = true := mulOk_l (by omega)
    have m6 : ∀ x : Int, mulOk x 48271 = true := fun x => mulOk_r (by decide)
    have d1 : ∀ x : Int, divOk x 3 = true := fun x => divOk_small (small_64 (by decide)) (by decide)
    have d2 : ∀ x : Int, divOk x 1024 = true := fun x => divOk_small (small_64 (by decide)) (by decide)
    simp [m1, m2, m3, m4, m5, m6, d1, d2]
  obtain ⟨d, h', e, s, rfl⟩ := key.out
  have r0 : D.pureL [D.int a, D.int b] = true := rfl
  exact ⟨s, fun h => by unfold pureF; rw [if_pos r0, e]; rfl⟩
end
theorem bag_ok (ns : List Int) (h : OH) (hl : ns.length ≤ 63) {P : D → OH → Prop} (q : ∀ o, Bag ns (h ++ [o]) h.length 0 → P (.ref h.length) (h ++ [o])) : (Sh.l_bag [.scr (ns.map D.int)] h).W P := by
  unfold Sh.l_bag
  rw [W_fn]
  unfold Sh.l_bag_b
  simp
  refine W_forL (fun k e h' => h' = h ∧ ∃ (t : Int) (c : Option D), e = [some (.scr (ns.map D.int)), some (.int t), c] ∧ 0 ≤ t ∧ t < 2305843009213693951) _ _ _ ⟨rfl, 1, none, rfl, by decide, by decide⟩ (fun k d hd e h' hI => ?_) (fun e h' hI => ?_)
  · obtain ⟨rfl, t, c, rfl, t1, t2⟩ := hI
    rw [List.getElem?_map, Option.map_eq_some_iff] at hd
    obtain ⟨x, hx, rfl⟩ := hd
    refine ⟨_, rfl, ?_⟩
    have m1 : mulOk t 1000003 = true := mulOk_r (by decide)
    have s3 : ∀ y : Int, 0 ≤ y % 2305843009213693951 ∧ y % 2305843009213693951 < 2305843009213693951 := fun y => ⟨Int.emod_nonneg _ (by decide), Int.emod_lt_of_pos _ (by decide)⟩
    simp [m1]
    exact ⟨(s3 _).1, (s3 _).2⟩
  · obtain ⟨rfl, t, c, rfl, t1, t2⟩ := hI
    simp [opList, seqAt, Res.W]
    exact q _ ⟨0, 0, 0, t, by simp, by decide, by omega, by decide, by decide, t1, t2⟩
end HR
set_option Elab.async false
set_option linter.all false
set_option maxRecDepth 20000
namespace HR
open PySem L2
/-! ### records as texts -/
abbrev Item := Option Str
def dI : Item → D
  | none => .non
  | some x => .str x
theorem pure_dI (x : Item) : (dI x).pure = true := by cases x <;> rfl
@[simp] theorem pureL_dI (xs : List Item) : D.pureL (xs.map dI) = true := pureL_map _ pure_dI xs
@[simp] theorem ok_dash : PyData.strOk "-" = true := by decide +kernel
@[simp] theorem W_sM1 (g : Str → D → OH → Res D) (o a : SE) (e : Env') (h : OH) {PD : D → OH → Prop} : (sM1 g o a e h).W PD = (o e h).W fun x h1 => match x with | .str s => (a e h1).W fun d h2 => (g s d h2).W PD | _ => False := by
  unfold sM1
  rw [W_bind]
  congr; funext x h1
  cases x with
  | str s => rw [W_bind]
  | _ => rfl
theorem W_joinS (s : Str) (ys : List Str) (h : OH) {PD : D → OH → Prop} : (opJoin s (.lst (ys.map D.str)) h).W PD = if (ys.map (·.length)).sum + ys.length * s.length ≤ 1000000 then PD (.str (Txt.join s ys)) h else False := by
  unfold opJoin
  simp only [lsqAt, seqAt, Option.bind_some, strsOf_map, big]
  split <;> rfl
end HR
set_option Elab.async false
set_option linter.all false
set_option maxRecDepth 20000
set_option exponentiation.threshold 5000
namespace HR
open PySem L2
/-! ### the simulation: it runs through -/
def runFs (t : Tk) (i : Nat) (b : Bool) (sp wt : Int) : List (String × D) := [("member", dMem t), ("index", .int i), ("is_ready", .bl b), ("spoken", .int sp), ("waited", .int wt)]
def oRun (t : Tk) (i : Nat) (b : Bool) (sp wt : Int) : OO := .ins "Running" (runFs t i b sp wt)
@[simp] theorem W_make (K : String) (g : FN) (a : SA) (e : Env') (h : OH) {PD : D → OH → Prop} : (sMake K g a e h).W PD = (a e h).W fun ys h1 => (g (.ref h1.length :: ys) (h1 ++ [.ins K []])).W fun d h2 => (match d with | .non => PD (.ref h1.length) h2 | _ => False) := by
  unfold sMake
  rw [W_bind]
  congr; funext ys h1
  rw [W_bind, W_noX]
  congr; funext d h2
  cases d <;> rfl
@[simp] theorem SW_fldA (K f : String) (o v : SE) (e : Env') (h : OH) {N C B : Env' → OH → Prop} {R : D → OH → Prop} : (sFldA K f o v e h).W N C B R = (o e h).W fun x h1 => isR x fun n => lkI h1[n]? fun K' fs => if K' = K then (lkS (fs.lookup f) fun d => match d with
    | .int i => (v e h1).W fun y h2 => (match y with
      | .int j => lkI h2[n]? fun K2 fs2 => if K2 = K ∧ fs2.length < 900 then N e (h2.set n (.ins K (putS f (.int (i + j)) fs2))) else False
      | _ => False)
    | _ => False) else False := by
  unfold sFldA
  rw [W_toS]
  congr; funext x h1
  cases x with
  | ref n =>
    dsimp only [isR]
    cases h1[n]? with
    | none => rfl
    | some ob =>
      cases ob with
      | ins K' fs =>
        simp only [lkI_ins]
        by_cases q : K' = K
        · rw [if_pos q, if_pos q]
          cases fs.lookup f with
          | none => rfl
          | some d =>
            simp only [lkS_some]
            cases d with
            | int i =>
              dsimp only
              rw [W_toS]
              congr; funext y h2
              cases y with
              | int j =>
                cases h2[n]? with
                | none => rfl
                | some ob2 =>
                  cases ob2 with
                  | ins K2 fs2 => simp only [lkI_ins]; split <;> rfl
                  | _ => rfl
              | _ => cases h2[n]? <;> rfl
            | _ => rfl
        · rw [if_neg q, if_neg q]; rfl
      | _ => rfl
  | _ => rfl
section
variable {t : Tk} {i : Nat} {b : Bool} {sp wt : Int}
@[simp] theorem rf_member : (runFs t i b sp wt).lookup "member" = some (dMem t) := rfl
@[simp] theorem rf_index : (runFs t i b sp wt).lookup "index" = some (.int i) := rfl
@[simp] theorem rf_ready : (runFs t i b sp wt).lookup "is_ready" = some (.bl b) := rfl
@[simp] theorem rf_spoken : (runFs t i b sp wt).lookup "spoken" = some (.int sp) := rfl
@[simp] theorem rf_waited : (runFs t i b sp wt).lookup "waited" = some (.int wt) := rfl
@[simp] theorem rf_len : (runFs t i b sp wt).length = 5 := rfl
@[simp] theorem rf_wait : hasNo (runFs t i b sp wt) "wait" = True := eq_true rfl
@[simp] theorem rf_speak : hasNo (runFs t i b sp wt) "speak" = True := eq_true rfl
@[simp] theorem put_index : putS "index" (.int ((i : Int) + 1)) (runFs t i b sp wt) = runFs t (i + 1) b sp wt := by simp [putS, runFs]
@[simp] theorem put_ready (x : Bool) : putS "is_ready" (.bl x) (runFs t i b sp wt) = runFs t i x sp wt := by simp [putS, runFs]
@[simp] theorem put_spoken (x : Int) : putS "spoken" (.int x) (runFs t i b sp wt) = runFs t i b x wt := by simp [putS, runFs]
@[simp] theorem put_waited (x : Int) : putS "waited" (.int x) (runFs t i b sp wt) = runFs t i b sp x := by simp [putS, runFs]
@[simp] theorem put_all : putS "waited" (.int 0) (putS "spoken" (.int 0) (putS "is_ready" (.bl false) (putS "index" (.int 0) (putS "member" (dMem t) [])))) = runFs t 0 false 0 0 := by simp [putS, runFs]
@[simp] theorem ins_set {h : OH} {n : Nat} {C : String} {fs : List (String × D)} (lt : n < h.length) : insAt (h.set n (.ins C fs)) (.ref n) = some (C, fs) := ins_ref (by simp [lt])
end
/-- the instances of all talkers, in order, from 0 on; K: no index is above -/
def RunSt (ts : List Tk) (h : OH) (K : Nat) : Prop := ∀ (k : Nat) (t : Tk), ts[k]? = some t → ∃ (i : Nat) (b : Bool) (sp wt : Int), i ≤ K ∧ h[k]? = some (oRun t i b sp wt)
end HR
set_option Elab.async false
set_option linter.all false
set_option maxRecDepth 20000
set_option exponentiation.threshold 5000
namespace HR
open PySem L2
section
variable {ts : List Tk} {h : OH} {K : Nat}
theorem RunSt.mono {K' : Nat} (S : RunSt ts h K) (hk : K ≤ K') : RunSt ts h K' := fun k t e => by
  obtain ⟨i, b, sp, wt, a, q⟩ := S k t e
  exact ⟨i, b, sp, wt, by omega, q⟩
theorem RunSt.lt (S : RunSt ts h K) {k : Nat} (hk : k < ts.length) : k < h.length := by
  obtain ⟨i, b, sp, wt, _, q⟩ := S k ts[k] (by simp [hk])
  exact (List.getElem?_eq_some_iff.mp q).1
theorem RunSt.other (S : RunSt ts h K) {n : Nat} (hn : ts.length ≤ n) (o : OO) : RunSt ts (h.set n o) K := fun k t e => by
  obtain ⟨i, b, sp, wt, a, q⟩ := S k t e
  have := (List.getElem?_eq_some_iff.mp e).1
  exact ⟨i, b, sp, wt, a, by rw [List.getElem?_set_ne (by omega)]; exact q⟩
theorem RunSt.app (S : RunSt ts h K) (o : OH) : RunSt ts (h ++ o) K := fun k t e => by
  obtain ⟨i, b, sp, wt, a, q⟩ := S k t e
  exact ⟨i, b, sp, wt, a, by rw [List.getElem?_append_left (List.getElem?_eq_some_iff.mp q).1]; exact q⟩
theorem RunSt.at_ (S : RunSt ts h K) {k : Nat} (hk : k < ts.length) : ∃ (i : Nat) (b : Bool) (sp wt : Int), i ≤ K ∧ h[k]? = some (oRun ts[k] i b sp wt) := S k ts[k] (by simp [hk])
end
end HR
set_option Elab.async false
set_option linter.all false
set_option maxRecDepth 20000
set_option exponentiation.threshold 5000
namespace HR
open PySem L2
/-! ### texts of numbers, talks, talkers, halls (plain) -/
theorem strI_signs (n : Nat) : (strI (n : Int)).cps.toList = (Nat.toDigits 10 n).map Char.toNat := PySem.W.KIN.signs_num n
theorem digits_len : ∀ (k : Nat) (n : Nat), 1 ≤ k → n < 10 ^ k → (Nat.toDigits 10 n).length ≤ k
  | 0, _, h, _ => by omega
  | 1, n, _, h => by
    rw [Nat.toDigits_of_lt_base (by simpa using h)]
    exact Nat.le_refl _
  | k + 2, n, _, h => by
    by_cases c : n < 10
    · rw [Nat.toDigits_of_lt_base c]
      simp
    · have hm : n % 10 < 10 := Nat.mod_lt n (by decide)
      have t : Nat.toDigits 10 (n / 10) ++ Nat.toDigits 10 (n % 10) = Nat.toDigits 10 (10 * (n / 10) + n % 10) := Nat.toDigits_append_toDigits (by decide) (by omega) hm
      rw [Nat.div_add_mod] at t
      have r := digits_len (k + 1) (n / 10) (by omega) (by
        rw [Nat.pow_succ] at h
        omega)
      rw [← t, List.length_append, Nat.toDigits_of_lt_base hm]
      simp
      omega
theorem digits_head : ∀ (n : Nat), 1 ≤ n → ∃ c cs, Nat.toDigits 10 n = c :: cs ∧ c ≠ '0' := by
  intro n
  induction n using Nat.strongRecOn with
  | _ n ih =>
    intro h
    by_cases c : n < 10
    · rw [Nat.toDigits_of_lt_base c]
      refine ⟨_, [], rfl, ?_⟩
      have : ∀ d : Nat, d < 10 → 1 ≤ d → Nat.digitChar d ≠ '0' := by decide
      exact this n c h
    · have hm : n % 10 < 10 := Nat.mod_lt n (by decide)
      have t : Nat.toDigits 10 (n / 10) ++ Nat.toDigits 10 (n % 10) = Nat.toDigits 10 (10 * (n / 10) + n % 10) := Nat.toDigits_append_toDigits (by decide) (by omega) hm
      rw [Nat.div_add_mod] at t
      obtain ⟨c, cs, e, ne⟩ := ih (n / 10) (by omega) (by omega)
      exact ⟨c, cs ++ Nat.toDigits 10 (n % 10), by rw [← t, e]; rfl, ne⟩
/-- a number from 1 to 10 ** 30 -/
def NumOk (i : Int) : Prop := 1 ≤ i ∧ i ≤ T30
theorem num_nat {i : Int} (w : NumOk i) : ∃ n : Nat, i = (n : Int) ∧ 1 ≤ n ∧ n < 10 ^ 31 := by
  obtain ⟨a, b⟩ := w
  refine ⟨i.toNat, by omega, by omega, ?_⟩
  have : (10 : Nat) ^ 31 = 10000000000000000000000000000000 := by decide
  rw [this]
  simp only [T30] at b
  omega
theorem num_digits {i : Int} (w : NumOk i) : ∀ c ∈ (strI i).cps.toList, 48 ≤ c ∧ c ≤ 57 := by
  obtain ⟨n, rfl, _, _⟩ := num_nat w
  intro c hc
  rw [strI_signs] at hc
  obtain ⟨ch, hch, e⟩ := List.mem_map.mp hc
  have r := Nat.isDigit_of_mem_toDigits (by decide) (by decide) hch
  rw [← e]
  have : 48 ≤ ch.toNat ∧ ch.toNat ≤ 57 := by
    simp only [Char.isDigit, Bool.and_eq_true, decide_eq_true_eq] at r
    exact ⟨r.1, r.2⟩
  exact this
theorem num_len {i : Int} (w : NumOk i) : 1 ≤ (strI i).length ∧ (strI i).length ≤ 31 := by
  obtain ⟨n, rfl, h1, h2⟩ := num_nat w
  have e : (strI (n : Int)).length = (Nat.toDigits 10 n).length := by
    have := congrArg List.length (strI_signs n)
    rw [List.length_map] at this
    rw [← this]
    simp [Str.length]
  have l := digits_len 31 n (by decide) h2
  obtain ⟨c, cs, e2, _⟩ := digits_head n h1
  rw [e2] at e l
  rw [e]
  simp at l ⊢
  omega
theorem num_bits {i : Int} (w : NumOk i) : i.natAbs.log2 < 1920 := by
  obtain ⟨n, rfl, h1, h2⟩ := num_nat w
  have : n < 2 ^ 1920 := Nat.lt_of_lt_of_le h2 (by decide)
  exact (Nat.log2_lt (by omega)).mpr (by simpa using this)
end HR
set_option Elab.async false
set_option linter.all false
set_option maxRecDepth 20000
set_option exponentiation.threshold 5000
namespace HR
open PySem L2
def sgs (x : Str) : List Nat := x.cps.toList
theorem sgs_app (x y : Str) : sgs (x ++ y) = sgs x ++ sgs y := TL.tl_append x y
theorem sgs_S (l : List Nat) : sgs (SX.S l) = l := by simp [sgs, SX.S]
theorem sgs_len (x : Str) : (sgs x).length = x.length := by simp [sgs, Str.length]
theorem S_sgs : ∀ xs : List Str, (xs.map sgs).map SX.S = xs
  | [] => rfl
  | x :: xs => by
    simp only [List.map_cons, S_sgs xs]
    rw [show SX.S (sgs x) = x from SX.S_tl x]
theorem join_sgs (c : Nat) (xs : List Str) : sgs (Txt.join (SX.S [c]) xs) = TL.joinL [c] (xs.map sgs) := by
  conv => lhs; rw [← S_sgs xs]
  rw [SX.join_S, sgs_S]
theorem joinL_mem {c : Nat} : ∀ {l : List (List Nat)} {x : Nat}, x ∈ TL.joinL [c] l → x = c ∨ ∃ p ∈ l, x ∈ p
  | [], x, h => by cases h
  | [p], x, h => .inr ⟨p, by simp, h⟩
  | p :: q :: r, x, h => by
    have h : x ∈ p ++ ([c] ++ TL.joinL [c] (q :: r)) := h
    rcases List.mem_append.mp h with h | h
    · exact .inr ⟨p, by simp, h⟩
    · rcases List.mem_append.mp h with h | h
      · exact .inl (by simpa using h)
      · rcases joinL_mem h with e | ⟨y, hy, hx⟩
        · exact .inl e
        · exact .inr ⟨y, List.mem_cons_of_mem _ hy, hx⟩
theorem joinL_le {c M : Nat} : ∀ {l : List (List Nat)}, (∀ p ∈ l, p.length ≤ M) → (TL.joinL [c] l).length ≤ (M + 1) * l.length
  | [], _ => by simp [TL.joinL]
  | [p], h => by
    have := h p (by simp)
    simp only [TL.joinL, List.length_cons, List.length_nil]
    omega
  | p :: q :: r, h => by
    have a := h p (by simp)
    have b := joinL_le (c := c) (l := q :: r) fun x hx => h x (List.mem_cons_of_mem _ hx)
    have e : (M + 1) * (p :: q :: r).length = (M + 1) + (M + 1) * (q :: r).length := by
      simp only [List.length_cons, Nat.mul_add, Nat.mul_one]
      omega
    rw [e]
    show (p ++ ([c] ++ TL.joinL [c] (q :: r))).length ≤ _
    simp only [List.length_append, List.length_cons, List.length_nil] at b ⊢
    omega
theorem joinS_len {c M : Nat} {xs : List Str} (h : ∀ x ∈ xs, x.length ≤ M) : (Txt.join (SX.S [c]) xs).length ≤ (M + 1) * xs.length := by
  rw [← sgs_len, join_sgs]
  have := joinL_le (c := c) (l := xs.map sgs) (M := M) fun p hp => by
    obtain ⟨x, hx, rfl⟩ := List.mem_map.mp hp
    rw [sgs_len]
    exact h x hx
  simpa using this
theorem join_ne {c : Nat} {x : Str} {xs : List Str} (h : 1 ≤ x.length) : 1 ≤ (Txt.join (SX.S [c]) (x :: xs)).length := by
  rw [← sgs_len, join_sgs]
  cases xs with
  | nil =>
    show 1 ≤ (sgs x).length
    rw [sgs_len]
    exact h
  | cons y ys =>
    show 1 ≤ (sgs x ++ _).length
    rw [List.length_append, sgs_len]
    omega
def SP : Str := " "
def NL : Str := "\n"
def CO : Str := ":"
def BA : Str := "|"
theorem sp_S : SP = SX.S [32] := rfl
theorem nl_S : NL = SX.S [10] := rfl
theorem co_S : CO = SX.S [58] := rfl
theorem ba_S : BA = SX.S [124] := rfl
/-- the word of a talk, the words of a talker, its line, the text of a hall -/
def wordT (p : Int × Int) : Str := strI p.1 ++ CO ++ strI p.2
def wdsC (t : Tk) : List Str := t.pre.map wordT ++ [BA] ++ t.cyc.map wordT
def wds (t : Tk) : List Str := t.name :: strI t.rank :: wdsC t
def lineT (t : Tk) : Str := Txt.join SP (wds t)
def hallT (ts : List Tk) : Str := Txt.join NL (ts.map lineT)
def PNum (p : Int × Int) : Prop := NumOk p.1 ∧ NumOk p.2
theorem pnum {p : Int × Int} (w : In1 T30 p) : PNum p := ⟨⟨w.1, w.2.1⟩, w.2.2.1, w.2.2.2⟩
theorem word_sgs {p : Int × Int} (w : PNum p) : ∀ c ∈ sgs (wordT p), 48 ≤ c ∧ c ≤ 58 := by
  intro c hc
  unfold wordT at hc
  rw [sgs_app, sgs_app, co_S, sgs_S [58]] at hc
  simp only [List.mem_append, List.mem_singleton] at hc
  rcases hc with (hc | hc) | hc
  · have := num_digits w.1 c hc
    omega
  · omega
  · have := num_digits w.2 c hc
    omega
theorem word_len {p : Int × Int} (w : PNum p) : 3 ≤ (wordT p).length ∧ (wordT p).length ≤ 63 := by
  have a := num_len w.1
  have b := num_len w.2
  rw [← sgs_len]
  unfold wordT
  rw [sgs_app, sgs_app, co_S, sgs_S [58], List.length_append, List.length_append, sgs_len, sgs_len]
  simp
  omega
theorem name_sgs {x : Str} (w : WfN x) : ∀ c ∈ sgs x, 97 ≤ c ∧ c ≤ 122 := by
  have e : ∀ c ∈ ("abcdefghijklmnopqrstuvwxyz" : Str).cps.toList, 97 ≤ c ∧ c ≤ 122 := by decide +kernel
  exact fun c hc => e c (w.2.2 c hc)
theorem rank_num {m : Int} {t : Tk} (w : WfTk m t) : NumOk t.rank := ⟨w.r1, by have := w.r2; simp only [T30]; omega⟩
section
variable {t : Tk}
/-- signs of the words: no blank, no newline -/
theorem wds_sgs (w : WfTk T30 t) : ∀ x ∈ wds t, ∀ c ∈ sgs x, 48 ≤ c ∧ c ≤ 124 := by
  intro x hx c hc
  unfold wds wdsC at hx
  simp only [List.mem_cons, List.mem_append, List.mem_map, List.not_mem_nil, or_false] at hx
  rcases hx with rfl | rfl | (⟨p, hp, rfl⟩ | rfl) | ⟨p, hp, rfl⟩
  · have := name_sgs w.name c hc
    omega
  · have := num_digits (rank_num w) c hc
    omega
  · have := word_sgs (pnum (w.pre p hp)) c hc
    omega
  · rw [ba_S, sgs_S [124]] at hc
    simp at hc
    omega
  · have := word_sgs (pnum (w.cyc p hp)) c hc
    omega
theorem wds_len (w : WfTk T30 t) : ∀ x ∈ wds t, 1 ≤ x.length ∧ x.length ≤ 63 := by
  intro x hx
  unfold wds wdsC at hx
  simp only [List.mem_cons, List.mem_append, List.mem_map, List.not_mem_nil, or_false] at hx
  rcases hx with rfl | rfl | (⟨p, hp, rfl⟩ | rfl) | ⟨p, hp, rfl⟩
  · have := w.name.1
    have := w.name.2.1
    omega
  · have := num_len (rank_num w)
    omega
  · have := word_len (pnum (w.pre p hp))
    omega
  · decide
  · have := word_len (pnum (w.cyc p hp))
    omega
theorem wds_count (w : WfTk T30 t) : (wds t).length ≤ 19 := by
  have a := w.lp
  have b := w.lc
  simp [wds, wdsC]
  omega
theorem line_len (w : WfTk T30 t) : 1 ≤ (lineT t).length ∧ (lineT t).length ≤ 1216 := by
  have c := wds_count w
  refine ⟨join_ne (wds_len w _ List.mem_cons_self).1, ?_⟩
  have := joinS_len (c := 32) (M := 63) (xs := wds t) fun x hx => (wds_len w x hx).2
  have e : (63 + 1) * (wds t).length ≤ 64 * 19 := Nat.mul_le_mul_left _ c
  unfold lineT
  rw [sp_S]
  omega
end
section
variable {ts : List Tk}
theorem hall_len (w : WfHall T30 ts) : (hallT ts).length ≤ 12170 ∧ (ts ≠ [] → 1 ≤ (hallT ts).length) := by
  have l := w.len
  refine ⟨?_, fun ne => ?_⟩
  · have := joinS_len (c := 10) (M := 1216) (xs := ts.map lineT) fun x hx => by
      obtain ⟨t, ht, rfl⟩ := List.mem_map.mp hx
      exact (line_len (w.tk t ht)).2
    rw [List.length_map] at this
    have e : (1216 + 1) * ts.length ≤ 1217 * 10 := Nat.mul_le_mul_left _ l
    unfold hallT
    rw [nl_S]
    omega
  · cases ts with
    | nil => exact absurd rfl ne
    | cons t ts => exact join_ne (line_len (w.tk t List.mem_cons_self)).1
end
end HR
set_option Elab.async false
set_option linter.all false
set_option maxRecDepth 20000
set_option exponentiation.threshold 5000
namespace HR
open PySem L2
/-! ### what the program takes for halls: any frozen value -/
mutual
def szD : D → Bool
  | .lst xs => decide (xs.length ≤ 1000) && szL xs
  | .tup xs => decide (xs.length ≤ 1000) && szL xs
  | .str x => decide (x.length ≤ 1000)
  | .non => true
  | .bl _ => true
  | .int _ => true
  | .dct [] => true
  | _ => false
def szL : List D → Bool
  | [] => true
  | x :: xs => szD x && szL xs
end
mutual
theorem sz_pure : ∀ d : D, szD d = true → d.pure = true
  | .lst xs, h => by simp only [szD, Bool.and_eq_true] at h; exact szL_pure xs h.2
  | .tup xs, h => by simp only [szD, Bool.and_eq_true] at h; exact szL_pure xs h.2
  | .str x, _ => rfl
  | .non, _ => rfl
  | .bl _, _ => rfl
  | .int _, _ => rfl
  | .dct [], _ => rfl
  | .dct (_ :: _), h => by simp [szD] at h
  | .scr _, h => by simp [szD] at h
  | .obj _ _, h => by simp [szD] at h
  | .ref _, h => by simp [szD] at h
  | .exc _, h => by simp [szD] at h
  | .excf _ _ _, h => by simp [szD] at h
theorem szL_pure : ∀ ds : List D, szL ds = true → D.pureL ds = true
  | [], _ => rfl
  | d :: ds, h => by
    simp only [szL, Bool.and_eq_true] at h
    simp [sz_pure d h.1, szL_pure ds h.2]
end
theorem szL_mem : ∀ {ds : List D}, szL ds = true → ∀ d ∈ ds, szD d = true
  | [], _, d, hd => by cases hd
  | x :: xs, h, d, hd => by
    simp only [szL, Bool.and_eq_true] at h
    rcases List.mem_cons.mp hd with rfl | hd
    · exact h.1
    · exact szL_mem h.2 d hd
def sqD : D → Option (List D)
  | .lst xs => some xs
  | .tup xs => some xs
  | _ => none
theorem sq_sz {d : D} {xs : List D} (h : szD d = true) (e : sqD d = some xs) : xs.length ≤ 1000 ∧ szL xs = true := by
  cases d <;> first | (cases e; simpa [szD] using h) | cases e
/-- the type's name -/
def tyD : D → String
  | .lst _ => "list"
  | .tup _ => "tuple"
  | .str _ => "str"
  | .non => "NoneType"
  | .bl _ => "bool"
  | .int _ => "int"
  | _ => "dict"
theorem ty_sz {d : D} (z : szD d = true) (h : OH) : tyAt h d = some (tyD d) := by
  cases d <;> first | rfl | (simp [szD] at z)
@[simp] theorem isi_t1 : isiB "NoneType" "list" = false := by decide
@[simp] theorem isi_t2 : isiB "NoneType" "tuple" = false := by decide
@[simp] theorem isi_t3 : isiB "bool" "list" = false := by decide
@[simp] theorem isi_t4 : isiB "bool" "tuple" = false := by decide
@[simp] theorem isi_t5 : isiB "dict" "list" = false := by decide
@[simp] theorem isi_t6 : isiB "dict" "tuple" = false := by decide
@[simp] theorem isi_t7 : isiB "NoneType" "int" = false := by decide
@[simp] theorem isi_t8 : isiB "list" "int" = false := by decide
@[simp] theorem isi_t9 : isiB "tuple" "int" = false := by decide
@[simp] theorem isi_ta : isiB "dict" "int" = false := by decide
@[simp] theorem isi_tb : isiB "bool" "bool" = true := by decide
@[simp] theorem isi_tc : isiB "NoneType" "str" = false := by decide
@[simp] theorem isi_td : isiB "list" "str" = false := by decide
@[simp] theorem isi_te : isiB "tuple" "str" = false := by decide
@[simp] theorem isi_tf : isiB "dict" "str" = false := by decide
@[simp] theorem isi_tg : isiB "bool" "str" = false := by decide
theorem isSeqD (d : D) (z : szD d = true) (h : OH) : pureF Sh.is_sequence [d] h = .ok (.bl (sqD d).isSome) h := by
  refine pure_eq h (by simp [sz_pure d z]) rfl ?_
  unfold Sh.is_sequence; rw [W_fn]; unfold Sh.is_sequence_b
  simp [ty_sz z]
  cases d <;> first | (simp [tyD, sqD]; done) | (simp [szD] at z)
def isIntD (lo hi : Int) : D → Bool
  | .int v => decide (lo ≤ v) && decide (v ≤ hi)
  | _ => false
theorem isInt3 (d : D) (z : szD d = true) (lo hi : Int) (h : OH) : pureF Sh.is_integer [d, .int lo, .int hi] h = .ok (.bl (isIntD lo hi d)) h := by
  cases d with
  | int v => exact isint2 v lo hi h
  | _ =>
    refine pure_eq h (by simp [sz_pure _ z]) rfl ?_
    unfold Sh.is_integer; rw [W_fn]; unfold Sh.is_integer_b
    simp [ty_sz z]
    first | (simp [tyD, isIntD]; done) | (simp [szD] at z)
def isNameD : D → Bool
  | .str x => decide (1 ≤ x.length) && (decide (x.length ≤ 8) && x.cps.toList.all fun c => decide (c ∈ ("abcdefghijklmnopqrstuvwxyz" : Str).cps.toList))
  | _ => false
theorem isNameDD (d : D) (z : szD d = true) (h : OH) : pureF Sh.is_name [d] h = .ok (.bl (isNameD d)) h := by
  refine pure_eq h (by simp [sz_pure d z]) rfl ?_
  unfold Sh.is_name; rw [W_fn]; unfold Sh.is_name_b
  simp [ty_sz z]
  cases d with
  | str x =>
    have zl : x.length ≤ 1000 := by simpa [szD] using z
    have lb : x.length ≤ big := by simp only [big]; omega
    have ln : x.cps.toList.length = x.length := by simp [Str.length]
    simp [tyD, wipeD, W_lenS, lb, signsD]
    by_cases c1 : (1 : Int) ≤ x.length
    · by_cases c2 : (x.length : Int) ≤ 8
      · simp [c1, c2]
        refine W_lcMap1 x.cps.toList (fun c => .str ⟨#[c]⟩) (fun c => .bl (decide (c ∈ ("abcdefghijklmnopqrstuvwxyz" : Str).cps.toList))) [] (by simp only [big]; omega) (fun c hc => ⟨_, rfl, by simp⟩) ?_
        rw [bs_mapF]
        have c1' : 1 ≤ x.length := by omega
        have c2' : x.length ≤ 8 := by omega
        simp [isNameD, c1', c2', List.all_map]
      · have c2' : ¬ x.length ≤ 8 := by omega
        simp [c1, c2, isNameD, c2']
    · have c1' : ¬ 1 ≤ x.length := by omega
      simp [c1, isNameD, c1']
  | _ => first | (simp [tyD, isNameD]; done) | (simp [szD] at z)
def isTalkD (d : D) : Bool := match sqD d with
  | some xs => decide (xs.length = 2) && xs.all (isIntD 1 T30)
  | none => false
theorem lenD {d : D} {xs : List D} (e : sqD d = some xs) (h : OH) {PD : D → OH → Prop} : (opLen d h).W PD = PD (.int xs.length) h := by
  cases d <;> first | (cases e; rfl) | cases e
theorem itD {d : D} {xs : List D} (e : sqD d = some xs) : itAt d = some xs := by
  cases d <;> first | (cases e; rfl) | cases e
theorem ixD {d : D} {xs : List D} (e : sqD d = some xs) (i : Int) (h : OH) {PD : D → OH → Prop} : (opIx d (.int i) h).W PD = lkS (atI xs i) fun d => PD d h := by
  cases d <;> first | (cases e; simp) | cases e
theorem W_lcId {g : TF} {tt : ST} {el : SE} {e : Env'} {PL : List D → OH → Prop} (xs : List D) (f : D → D) (h : OH) (hb : xs.length ≤ big)
    (st : ∀ x ∈ xs, ∃ e1, g x e h = some e1 ∧ (tt e1 h).W fun b h1 => b = true ∧ h1 = h ∧ (el e1 h1).W fun y h2 => y = f x ∧ h2 = h) (fin : PL (xs.map f) h) : (lcGo g tt el e xs h []).W PL := by
  have := W_lcMap1 xs (fun x => x) f h hb st fin
  simpa using this
theorem isTalkDD (d : D) (z : szD d = true) (h : OH) : pureF Sh.is_talk [d] h = .ok (.bl (isTalkD d)) h := by
  refine pure_eq h (by simp [sz_pure d z]) rfl ?_
  unfold Sh.is_talk; rw [W_fn]; unfold Sh.is_talk_b
  simp [isSeqD d z]
  cases e : sqD d with
  | none => simp [isTalkD, e]
  | some xs =>
    obtain ⟨l1, l2⟩ := sq_sz z e
    simp [lenD e, itD e, wipeD]
    by_cases c : (xs.length : Int) = 2
    · have c' : xs.length = 2 := by omega
      simp [c]
      refine W_lcId xs (fun x => .bl (isIntD 1 T30 x)) [] (by simp only [big]; omega) (fun x hx => ⟨_, rfl, by simp [isInt3 x (szL_mem l2 x hx)]⟩) ?_
      rw [bs_mapF]
      simp [isTalkD, e, c', List.all_map]
    · have c' : ¬ xs.length = 2 := by omega
      simp [c, isTalkD, e, c']
def areTalksD (least : Nat) (d : D) : Bool := match sqD d with
  | some xs => decide (least ≤ xs.length) && (decide (xs.length ≤ 8) && xs.all isTalkD)
  | none => false
theorem areTalksDD (least : Nat) (d : D) (z : szD d = true) (h : OH) : pureF Sh.are_talks [d, .int least] h = .ok (.bl (areTalksD least d)) h := by
  refine pure_eq h (by simp [sz_pure d z]) rfl ?_
  unfold Sh.are_talks; rw [W_fn]; unfold Sh.are_talks_b
  simp [isSeqD d z]
  cases e : sqD d with
  | none => simp [areTalksD, e]
  | some xs =>
    obtain ⟨l1, l2⟩ := sq_sz z e
    simp [lenD e, itD e, wipeD]
    by_cases c1 : least ≤ xs.length
    · by_cases c2 : xs.length ≤ 8
      · have c2' : (xs.length : Int) ≤ 8 := by omega
        simp [c1, c2']
        refine W_lcId xs (fun x => .bl (isTalkD x)) [] (by simp only [big]; omega) (fun x hx => ⟨_, rfl, by simp [isTalkDD x (szL_mem l2 x hx)]⟩) ?_
        rw [bs_mapF]
        simp [areTalksD, e, c1, c2, List.all_map]
      · have c2' : ¬ (xs.length : Int) ≤ 8 := by omega
        simp [c1, c2', areTalksD, e, c2]
    · simp [c1, areTalksD, e]
def isTalkerD (d : D) : Bool := match sqD d with
  | some [a, b, c, f] => isNameD a && (isIntD 1 10 b && (areTalksD 0 c && areTalksD 1 f))
  | _ => false
theorem isTalkerDD (d : D) (z : szD d = true) (h : OH) : pureF Sh.is_talker [d] h = .ok (.bl (isTalkerD d)) h := by
  refine pure_eq h (by simp [sz_pure d z]) rfl ?_
  unfold Sh.is_talker; rw [W_fn]; unfold Sh.is_talker_b
  simp [isSeqD d z]
  cases e : sqD d with
  | none => simp [isTalkerD, e]
  | some xs =>
    obtain ⟨l1, l2⟩ := sq_sz z e
    simp [lenD e, ixD e]
    by_cases c : xs.length = 4
    · match xs, c with
      | [a, b, f, g], _ =>
        have za := szL_mem l2 a (by simp)
        have zb := szL_mem l2 b (by simp)
        have zf := szL_mem l2 f (by simp)
        have zg := szL_mem l2 g (by simp)
        have t0 : ∀ h, pureF Sh.are_talks [f, .int 0] h = .ok (.bl (areTalksD 0 f)) h := areTalksDD 0 f zf
        have t1 : ∀ h, pureF Sh.are_talks [g, .int 1] h = .ok (.bl (areTalksD 1 g)) h := areTalksDD 1 g zg
        have ed : isTalkerD d = (isNameD a && (isIntD 1 10 b && (areTalksD 0 f && areTalksD 1 g))) := by simp [isTalkerD, e]
        rw [ed]
        simp [isNameDD a za, isInt3 b zb, t0, t1]
        generalize isNameD a = p1
        generalize isIntD 1 10 b = p2
        generalize areTalksD 0 f = p3
        generalize areTalksD 1 g = p4
        cases p1 <;> cases p2 <;> cases p3 <;> cases p4 <;> simp
    · have c' : ¬ (xs.length : Int) = 4 := by omega
      simp [c']
      unfold isTalkerD
      rw [e]
      split
      · rename_i h1; cases h1; simp at c
      · rfl
/-- what is a talker, part by part -/
theorem isTalkerD_sq {d : D} (h : isTalkerD d = true) : ∃ (x : Str) (b c f : D), sqD d = some [.str x, b, c, f] ∧ isNameD (.str x) = true := by
  unfold isTalkerD at h
  split at h
  · rename_i a b c f e
    simp only [Bool.and_eq_true] at h
    cases a with
    | str x => exact ⟨x, b, c, f, e, h.1⟩
    | _ => simp [isNameD] at h
  · cases h
def nmD (d : D) : Str := match sqD d with
  | some (.str x :: _) => x
  | _ => ""
def namesOk (xs : List D) : Bool := decide ((ddK [] ((xs.map nmD).map (Sum.inr : Str → Key))).length = xs.length)
def isHallD (d : D) : Bool := match sqD d with
  | some xs => decide (xs.length ≤ 10) && (xs.all isTalkerD && namesOk xs)
  | none => false
theorem isHallDD (d : D) (z : szD d = true) (h : OH) : pureF Sh.is_hall [d] h = .ok (.bl (isHallD d)) h := by
  refine pure_eq h (by simp [sz_pure d z]) rfl ?_
  unfold Sh.is_hall; rw [W_fn]; unfold Sh.is_hall_b
  simp [isSeqD d z]
  cases e : sqD d with
  | none => simp [isHallD, e]
  | some xs =>
    obtain ⟨l1, l2⟩ := sq_sz z e
    simp [lenD e, itD e, wipeD]
    by_cases c1 : xs.length ≤ 10
    · have c1' : ¬ (10 : Int) < xs.length := by omega
      simp [c1']
      refine W_lcId xs (fun x => .bl (isTalkerD x)) [] (by simp only [big]; omega) (fun x hx => ⟨_, rfl, by simp [isTalkerDD x (szL_mem l2 x hx)]⟩) ?_
      rw [bs_mapF]
      simp [List.all_map]
      by_cases c2 : xs.all isTalkerD = true
      · have c2' : ∀ x ∈ xs, isTalkerD x = true := List.all_eq_true.mp c2
        have c3 : xs.all (id ∘ isTalkerD) = true := c2
        have n2 : ¬ ∃ a, a ∈ xs ∧ isTalkerD a = false := fun ⟨a, h1, h2⟩ => by simp [c2' a h1] at h2
        rw [if_neg n2]
        simp [sLenSet, wipeD, itD e]
        refine W_lcId xs (fun x => .str (nmD x)) [] (by simp only [big]; omega) (fun x hx => ⟨_, rfl, ?_⟩) ?_
        · obtain ⟨y, b, c, f, e2, _⟩ := isTalkerD_sq (c2' x hx)
          simp [ixD e2, nmD, e2]
        · have em : xs.map (fun x => D.str (nmD x)) = (xs.map nmD).map D.str := by simp
          rw [em]
          simp only [lsqAt, seqAt, Option.bind_some, keys_strs]
          have eh : isHallD d = namesOk xs := by simp [isHallD, e, c1, c2]
          rw [eh]
          simp [namesOk]
          refine ⟨by omega, ?_⟩
          rw [Bool.eq_iff_iff]
          simp
          omega
      · have n2 : ∃ a, a ∈ xs ∧ isTalkerD a = false := by simpa using c2
        rw [if_pos n2]
        simp [isHallD, e, c2]
    · have c1' : (10 : Int) < xs.length := by omega
      simp [c1', isHallD, e, c1]
/-! ### halls with lists and tuples exchanged -/
def AllR {ξ : Type} (R : D → ξ → Prop) (xs : List D) (ps : List ξ) : Prop := xs.length = ps.length ∧ ∀ (k : Nat) (x : D), xs[k]? = some x → ∃ p, ps[k]? = some p ∧ R x p
def DrT (d : D) (p : Int × Int) : Prop := sqD d = some [.int p.1, .int p.2]
def DrTs (d : D) (ts : List (Int × Int)) : Prop := ∃ xs, sqD d = some xs ∧ AllR DrT xs ts
def DrTk (d : D) (t : Tk) : Prop := ∃ a b, sqD d = some [.str t.name, .int t.rank, a, b] ∧ DrTs a t.pre ∧ DrTs b t.cyc
theorem AllR.all {ξ : Type} {R : D → ξ → Prop} {xs : List D} {ps : List ξ} (ar : AllR R xs ps) {p : D → Bool} (h : ∀ x q, x ∈ xs → q ∈ ps → R x q → p x = true) : xs.all p = true := by
  rw [List.all_eq_true]
  intro x hx
  obtain ⟨k, hk⟩ := List.mem_iff_getElem?.mp hx
  obtain ⟨q, hq, r⟩ := ar.2 k x hk
  exact h x q hx (List.mem_of_getElem? hq) r
end HR
set_option Elab.async false
set_option linter.all false
set_option maxRecDepth 20000
set_option exponentiation.threshold 5000
namespace HR
open PySem L2
theorem W_addTx (x y : Str) (h : OH) {PD : D → OH → Prop} : (opAdd (.str x) (.str y) h).W PD = if x.length + y.length ≤ 1000000 then PD (.str (x ++ y)) h else False := by
  simp only [opAdd, big]
  split <;> rfl
/-! ### format_hall -/
theorem join_all {c : Nat} {xs : List Str} {M : Nat} (h : ∀ x ∈ xs, x.length ≤ M) : (xs.map (·.length)).sum ≤ M * xs.length := by
  induction xs with
  | nil => simp
  | cons x xs ih =>
    have a := h x List.mem_cons_self
    have b := ih fun y hy => h y (List.mem_cons_of_mem _ hy)
    simp only [List.map_cons, List.sum_cons, List.length_cons, Nat.mul_add, Nat.mul_one]
    omega
theorem W_line {t : Tk} (w : WfTk T30 t) (h : OH) {PD : D → OH → Prop} : (opJoin SP (.lst ((wds t).map D.str)) h).W PD = PD (.str (lineT t)) h := by
  rw [W_joinS, if_pos]
  · rfl
  · have a := join_all (c := 0) (M := 63) fun x hx => (wds_len w x hx).2
    have b := wds_count w
    have : SP.length = 1 := rfl
    rw [this]
    have : 63 * (wds t).length ≤ 63 * 19 := Nat.mul_le_mul_left _ b
    omega
theorem W_joinA {s : Str} {d : D} {ys : List Str} {h : OH} (e : lsqAt h d = some (ys.map D.str)) (b : (ys.map (·.length)).sum + ys.length * s.length ≤ 1000000) {PD : D → OH → Prop} : (opJoin s d h).W PD = PD (.str (Txt.join s ys)) h := by
  unfold opJoin
  rw [e, Option.bind_some, strsOf_map]
  dsimp only
  rw [if_pos (by simpa [big] using b)]
  rfl
end HR
set_option Elab.async false
set_option linter.all false
set_option maxRecDepth 20000
set_option exponentiation.threshold 5000
namespace HR
open PySem L2
/-! ### law k01: its own checks, on any frozen value -/
theorem p1030 : sBin opPow (sC (.int 10)) (sC (.int 30)) = sC (.int T30) := by
  funext e h
  simp only [T30]
  rfl
end HR
set_option Elab.async false
set_option linter.all false
set_option maxRecDepth 20000
set_option exponentiation.threshold 5000
namespace HR
open PySem L2
/-! ### law k01: lists and tuples exchanged at random -/
def Drs (j i : Nat) (x : D) (R : D → Prop) : Prop := ∀ (h : OH) (P : D → OH → Prop), Spr h i → (∀ d h', R d → Spr h' i → Chg i h h' → P d h') → (Sh.l_dressed_n j [.ref i, x] h).W P
theorem Drs.mono {j i : Nat} {x : D} {R R' : D → Prop} (a : Drs j i x R) (q : ∀ d, R d → R' d) : Drs j i x R' := fun h P s z => a h P s fun d h' r => z d h' (q d r)
end HR
set_option Elab.async false
set_option linter.all false
set_option maxRecDepth 20000
namespace HR
open PySem L2
/-! ### the reel of laws 21 to 41: draw, talks, halls -/
abbrev RM : Int := 170141183460469231731687303715884105727
structure RlS (gs ms : List Int) (c s : Int) : Prop where
  g0 : ∀ g ∈ gs, 0 ≤ g
  gl : gs.length ≤ 63
  mn : ms ≠ []
  ml : ms.length ≤ 64
  m0 : ∀ x ∈ ms, 0 ≤ x ∧ x < 1000003
  c0 : 0 ≤ c
  s0 : 0 ≤ s
  s1 : s < RM
def rlD (gs ms : List Int) (c s : Int) : OO := .lst [.lst (gs.map D.int), .lst (ms.map D.int), .int c, .int s]
/-- the reel at i -/
def Rl (h : OH) (i : Nat) : Prop := ∃ (gs ms : List Int) (c s : Int), h[i]? = some (rlD gs ms c s) ∧ RlS gs ms c s
theorem Rl.lt {h : OH} {i : Nat} (s : Rl h i) : i < h.length := by
  obtain ⟨a, b, c, d, e, _⟩ := s
  exact (List.getElem?_eq_some_iff.mp e).1
theorem Rl.app {h : OH} {i : Nat} (s : Rl h i) (t : OH) : Rl (h ++ t) i := by
  have := s.lt
  obtain ⟨a, b, c, d, e, r⟩ := s
  exact ⟨a, b, c, d, by rw [List.getElem?_append_left this]; exact e, r⟩
theorem Rl.set {h : OH} {i j : Nat} (s : Rl h i) (n : j ≠ i) (o : OO) : Rl (h.set j o) i := by
  obtain ⟨a, b, c, d, e, r⟩ := s
  exact ⟨a, b, c, d, by rw [List.getElem?_set_ne n]; exact e, r⟩
end HR
set_option Elab.async false
set_option linter.all false
set_option maxRecDepth 20000
set_option exponentiation.threshold 5000
namespace HR
open PySem L2
/-! ### lists and tuples exchanged at random, over the reel -/
def Rrs (j i : Nat) (x : D) (R : D → Prop) : Prop := ∀ (h : OH) (P : D → OH → Prop), Rl h i → (∀ d h', R d → Rl h' i → Chg i h h' → P d h') → (Sh.l_dressed_1_n j [.ref i, x] h).W P
theorem Rrs.mono {j i : Nat} {x : D} {R R' : D → Prop} (a : Rrs j i x R) (q : ∀ d, R d → R' d) : Rrs j i x R' := fun h P s z => a h P s fun d h' r => z d h' (q d r)
end HR
set_option Elab.async false
set_option linter.all false
set_option maxRecDepth 20000
set_option Elab.async false
set_option linter.all false
set_option maxRecDepth 20000
set_option exponentiation.threshold 5000
namespace HR
open PySem L2
/-! ### law k36: the program's own copies of talkers -/
def rk (r : D) (t : Tk) : Int := match r with
  | .int v => v
  | _ => t.rank
/-- the copy of t whose lists stand at b and b + 1 -/
def oTk (name : Str) (r : Int) (b : Nat) : D := .tup [.str name, .int r, .ref b, .ref (b + 1)]
def oLs (t : Tk) : OH := [.lst (t.pre.map dT), .lst (t.cyc.map dT)]
theorem DrTs.all {d : D} {ts : List (Int × Int)} (r : DrTs d ts) : ∃ xs, sqD d = some xs ∧ AllR DrT xs ts := r
theorem SW_par {N C B : Env' → OH → Prop} {R : D → OH → Prop} (i j : Nat) (f : SA) (e : Env') (h : OH) : (sPar i j f e h).W N C B R = (f e h).W fun ds h1 => match ds with
  | [x, y] => N ((e.set i (some x)).set j (some y)) h1
  | _ => False := by
  unfold sPar
  rw [W_toS]
  congr; funext ds h1
  match ds with
  | [] => rfl
  | [_] => rfl
  | [_, _] => rfl
  | _ :: _ :: _ :: _ => rfl
end HR
set_option Elab.async false
set_option linter.all false
set_option maxRecDepth 20000
set_option exponentiation.threshold 5000
namespace HR
open PySem L2
/-- copies of talkers, the first with its lists at b -/
def oTks : List Tk → Nat → List D
  | [], _ => []
  | t :: ts, b => oTk t.name t.rank b :: oTks ts (b + 2)
end HR
set_option Elab.async false
set_option linter.all false
set_option maxRecDepth 20000
set_option exponentiation.threshold 5000
set_option Elab.async false
set_option linter.all false
set_option maxRecDepth 20000
set_option exponentiation.threshold 5000
set_option Elab.async false
set_option linter.all false
set_option maxRecDepth 20000
set_option exponentiation.threshold 5000
namespace HR
open PySem L2
/-! ### law k01: talkers with one part changed -/
structure CH (d : D) : Prop where
  sz : szD d = true
  rp : Rp d 3 13540
end HR
set_option Elab.async false
set_option linter.all false
set_option maxRecDepth 20000
set_option exponentiation.threshold 5000
namespace HR
open PySem L2
/-! ### law k01: names with one other character; a hall that is changed in place -/
/-- a def that reads own lists, its answer a boolean -/
theorem lend_isB {g : FN} {d d' : D} {b : Bool} (hz : szD d' = true) (q : ∀ h, pureF g [d'] h = .ok (.bl b) h) (h : OH) (e : snapGL (snapGet h 5) [d] = some [d']) : lendF g [d] h = .ok (.bl b) h := by
  have q0 := q []
  unfold pureF at q0
  rw [if_pos (by simp [sz_pure _ hz])] at q0
  unfold lendF
  rw [e]
  dsimp only
  cases r : g [d'] [] with
  | ok d h1 =>
    rw [r] at q0
    dsimp only at q0
    split at q0
    · cases q0; rfl
    · cases q0
  | exc C p h1 =>
    rw [r] at q0
    cases p with
    | none => cases q0
    | some z =>
      dsimp only at q0
      split at q0 <;> cases q0
  | bad => rw [r] at q0; cases q0
/-- n own talkers in a row -/
structure Sb (n : Nat) (f : Nat → Tk) (h : OH) : Prop where
  pre : ∀ m, m < n → h[3 * m]? = some (.lst ((f m).pre.map dT))
  cyc : ∀ m, m < n → h[3 * m + 1]? = some (.lst ((f m).cyc.map dT))
  tk : ∀ m, m < n → h[3 * m + 2]? = some (.lst [.str (f m).name, .int (f m).rank, .ref (3 * m), .ref (3 * m + 1)])
def upd1 (f : Nat → Tk) (k : Nat) (t : Tk) : Nat → Tk := fun m => if m = k then t else f m
theorem Sb.rank {n k : Nat} {f : Nat → Tk} {h : OH} (s : Sb n f h) (hk : k < n) (hl : 3 * n ≤ h.length) (r : Int) : Sb n (upd1 f k { f k with rank := r }) (h.set (3 * k + 2) (.lst [.str (f k).name, .int r, .ref (3 * k), .ref (3 * k + 1)])) := by
  refine ⟨fun m hm => ?_, fun m hm => ?_, fun m hm => ?_⟩
  · rw [List.getElem?_set_ne (by omega)]
    unfold upd1
    split
    · subst m; exact s.pre k hk
    · exact s.pre m hm
  · rw [List.getElem?_set_ne (by omega)]
    unfold upd1
    split
    · subst m; exact s.cyc k hk
    · exact s.cyc m hm
  · unfold upd1
    split
    · subst m
      rw [List.getElem?_set_self (by omega)]
    · rw [List.getElem?_set_ne (by omega)]
      exact s.tk m hm
end HR
set_option Elab.async false
set_option linter.all false
set_option maxRecDepth 20000
set_option exponentiation.threshold 5000
namespace HR
open PySem L2
theorem Sb.app {n : Nat} {f : Nat → Tk} {h : OH} (s : Sb n f h) (l : OH) : Sb n f (h ++ l) := by
  have g : ∀ (i : Nat) o, h[i]? = some o → (h ++ l)[i]? = some o := fun i o e => by rw [List.getElem?_append_left (List.getElem?_eq_some_iff.mp e).1]; exact e
  exact ⟨fun m hm => g _ _ (s.pre m hm), fun m hm => g _ _ (s.cyc m hm), fun m hm => g _ _ (s.tk m hm)⟩
end HR
set_option Elab.async false
set_option linter.all false
set_option maxRecDepth 20000
set_option exponentiation.threshold 5000
namespace HR
open PySem L2
/-! ### how long the repr of many may be: a sum -/
def Rps (k : Nat) : List D → Nat → Prop
  | [], _ => True
  | d :: ds, n => ∃ a m, Rp d k a ∧ Rps k ds m ∧ a + 2 + m ≤ n
theorem Rps.py {k : Nat} : ∀ {ds : List D} {n : Nat}, Rps k ds n → ∃ ps, (∀ get, pyRL get ds = some ps) ∧ PyData.showableAll ps = true ∧ PyData.depthAll ps ≤ k ∧ ∀ (j : Nat) (acc : Str), (textFrom j acc (PyData.shownAll ps)).length ≤ acc.length + n
  | [], n, _ => ⟨[], fun _ => rfl, rfl, Nat.zero_le _, fun j acc => by simp [PyData.shownAll, textFrom]⟩
  | d :: ds, n, ⟨a, m, h1, h2, h3⟩ => by
    obtain ⟨p, a1, b1, c1, e1⟩ := h1
    obtain ⟨ps, a2, b2, c2, e2⟩ := h2.py
    refine ⟨p :: ps, fun get => by simp [pyRL, a1 get, a2 get], by simp [PyData.showableAll, b1, b2], by simp only [PyData.depthAll]; omega, fun j acc => ?_⟩
    simp only [PyData.shownAll, textFrom]
    refine Nat.le_trans (e2 _ _) ?_
    have e : (acc ++ (if j > 0 then ", " else "" : String) ++ p.shown).length ≤ acc.length + 2 + p.shown.length := by
      rw [strLen_append, strLen_append]
      split <;> simp only [Nat.add_le_add_iff_right, Nat.add_le_add_iff_left] <;> decide
    omega
/-! ### the values of the law -/
end HR
set_option Elab.async false
set_option linter.all false
set_option maxRecDepth 20000
set_option exponentiation.threshold 5000
namespace HR
open PySem L2
/-! ### halls that the caller owns, as they lie in the heap -/
structure HAt (h : OH) (j b : Nat) (ns : List Tk) : Prop where
  top : h[j]? = some (.lst (oTks ns b))
  in_ : ∀ i, i < 2 * ns.length → h[b + i]? = (ns.flatMap oLs)[i]?
def HOk (h : OH) (d : D) (ns : List Tk) (lo hi : Nat) : Prop := ∃ j b, d = .ref j ∧ HAt h j b ns ∧ lo ≤ b ∧ b + 2 * ns.length ≤ j ∧ j < hi
theorem HOk.frame {h h' : OH} {d : D} {ns : List Tk} {lo hi : Nat} (o : HOk h d ns lo hi) (k : ∀ i, lo ≤ i → i < hi → h'[i]? = h[i]?) : HOk h' d ns lo hi := by
  obtain ⟨j, b, e, a, l1, l2, l3⟩ := o
  exact ⟨j, b, e, ⟨by rw [k j (by omega) l3]; exact a.top, fun i hi => by rw [k (b + i) (by omega) (by omega)]; exact a.in_ i hi⟩, l1, l2, l3⟩
/-! ### what repr reads -/
def pT (p : Int × Int) : PyData := .tuple [.int p.1, .int p.2]
theorem Rps.ok {n k : Nat} {ds : List D} (q : Rps k ds n) (hk : k + 1 ≤ 60) (hn : n + 2 ≤ big) : ∃ ps, (∀ get, pyRL get ds = some ps) ∧ reprOkX (.list ps) = true := by
  obtain ⟨ps, a, b, c, e⟩ := q.py
  refine ⟨ps, a, ?_⟩
  have t := e 0 (("[" : String) : Str)
  have l1 : (("[" : String) : Str).length = 1 := rfl
  have l2 : (("]" : String) : Str).length = 1 := rfl
  have d1 : (PyData.list ps).depth ≤ 60 := by
    simp only [PyData.depth]
    omega
  have d2 : (PyData.list ps).shown.length ≤ big := by
    simp only [PyData.shown]
    unfold listText
    rw [strLen_append]
    omega
  have d3 : (PyData.list ps).showable = true := by simp only [PyData.showable, b]
  simp only [reprOkX, d3, Bool.true_and, Bool.and_eq_true, decide_eq_true_eq]
  exact ⟨d1, d2⟩
/-! ### several halls, one behind the other; f, f + 1 are none of theirs -/
def Fnd (h : OH) (f : Nat) : Nat → List D → List (List Tk) → Prop
  | lo, [], [] => lo ≤ h.length
  | lo, d :: ds, ns :: nss => ∃ l1 hi, HOk h d ns l1 hi ∧ (hi ≤ f ∨ f + 1 < l1) ∧ lo ≤ l1 ∧ l1 ≤ hi ∧ Fnd h f hi ds nss
  | _, _, _ => False
theorem Fnd.le {h : OH} {f : Nat} : ∀ {ds : List D} {nss : List (List Tk)} {lo : Nat}, Fnd h f lo ds nss → lo ≤ h.length
  | [], [], _, r => r
  | d :: ds, ns :: nss, _, ⟨_, hi, _, _, l1, l2, r⟩ => Nat.le_trans (Nat.le_trans l1 l2) r.le
  | [], _ :: _, _, r => r.elim
  | _ :: _, [], _, r => r.elim
theorem Fnd.frame {h h' : OH} {f : Nat} (hl : h.length ≤ h'.length) : ∀ {ds : List D} {nss : List (List Tk)} {lo : Nat}, Fnd h f lo ds nss → (∀ i, lo ≤ i → i < h.length → i ≠ f → i ≠ f + 1 → h'[i]? = h[i]?) → Fnd h' f lo ds nss
  | [], [], _, r, k => Nat.le_trans r hl
  | d :: ds, ns :: nss, _, ⟨l1, hi, a, b, q1, q2, r⟩, k => by
    have := r.le
    exact ⟨l1, hi, a.frame fun i h1 h2 => k i (by omega) (by omega) (by omega) (by omega), b, q1, q2, r.frame hl fun i h1 h2 => k i (by omega) h2⟩
  | [], _ :: _, _, r, _ => r.elim
  | _ :: _, [], _, r, _ => r.elim
theorem Fnd.len {h : OH} {f : Nat} : ∀ {ds : List D} {nss : List (List Tk)} {lo : Nat}, Fnd h f lo ds nss → ds.length = nss.length
  | [], [], _, _ => rfl
  | d :: ds, ns :: nss, _, ⟨_, hi, _, _, _, _, r⟩ => by simp [r.len]
  | [], _ :: _, _, r => r.elim
  | _ :: _, [], _, r => r.elim
theorem Fnd.drop {h : OH} {f : Nat} : ∀ {ds : List D} {nss : List (List Tk)} {lo : Nat} (k : Nat) (d : D), Fnd h f lo ds nss → ds[k]? = some d → ∃ ns l1 hi, nss[k]? = some ns ∧ HOk h d ns l1 hi ∧ (hi ≤ f ∨ f + 1 < l1) ∧ lo ≤ l1 ∧ l1 ≤ hi ∧ Fnd h f hi (ds.drop (k + 1)) (nss.drop (k + 1))
  | d' :: ds, ns :: nss, _, 0, d, ⟨l1, hi, a, b, q1, q2, r⟩, e => by
    simp at e
    subst e
    exact ⟨ns, l1, hi, rfl, a, b, q1, q2, r⟩
  | d' :: ds, ns :: nss, _, k + 1, d, ⟨l1, hi, a, b, q1, q2, r⟩, e => by
    obtain ⟨n2, l2, hi2, e2, a2, b2, c1, c2, r2⟩ := r.drop k d (by simpa using e)
    exact ⟨n2, l2, hi2, by simpa using e2, a2, b2, by omega, c2, r2⟩
  | [], [], _, _, _, _, e => by simp at e
  | [], _ :: _, _, _, _, r, _ => r.elim
  | _ :: _, [], _, _, _, r, _ => r.elim
end HR
set_option Elab.async false
set_option linter.all false
set_option maxRecDepth 20000
set_option exponentiation.threshold 5000
set_option Elab.async false
set_option linter.all false
set_option maxRecDepth 20000
set_option exponentiation.threshold 5000
set_option Elab.async false
set_option linter.all false
set_option maxRecDepth 20000
set_option exponentiation.threshold 5000
namespace HR
open PySem L2
/-! ### law k35: halls that are read, frozen or own -/
def Gro (h0 h : OH) : Prop := h0.length ≤ h.length ∧ ∀ i, i < h0.length → h[i]? = h0[i]?
theorem Gro.refl (h : OH) : Gro h h := ⟨Nat.le_refl _, fun _ _ => rfl⟩
theorem Gro.trans {a b c : OH} (x : Gro a b) (y : Gro b c) : Gro a c := ⟨Nat.le_trans x.1 y.1, fun i hi => by rw [y.2 i (Nat.lt_of_lt_of_le hi x.1), x.2 i hi]⟩
theorem Gro.app (h t : OH) : Gro h (h ++ t) := ⟨by simp, fun i hi => List.getElem?_append_left hi⟩
theorem Gro.set {a h : OH} (x : Gro a h) {i : Nat} (o : OO) (hi : a.length ≤ i) : Gro a (h.set i o) := ⟨by simp [x.1], fun k hk => by rw [List.getElem?_set_ne (by omega)]; exact x.2 k hk⟩
theorem Gro.get {a b : OH} (x : Gro a b) {i : Nat} {o : OO} (e : a[i]? = some o) : b[i]? = some o := by
  rw [x.2 i (List.getElem?_eq_some_iff.mp e).1]
  exact e
/-- d is walked over: xs -/
def ItX (h : OH) (d : D) (xs : List D) : Prop := sqD d = some xs ∨ ∃ j, d = .ref j ∧ h[j]? = some (.lst xs)
/-! ### talkers -/
def PtX (h : OH) (a : D) (ts : List (Int × Int)) : Prop := ∃ xs, ItX h a xs ∧ AllR DrT xs ts
def RdT (h : OH) (x : D) (t : Tk) : Prop := ∃ a b, sqD x = some [.str t.name, .int t.rank, a, b] ∧ PtX h a t.pre ∧ PtX h b t.cyc
theorem drT_map (ts : List (Int × Int)) : AllR DrT (ts.map dT) ts := ⟨by simp, fun k x hx => by
  rw [List.getElem?_map, Option.map_eq_some_iff] at hx
  obtain ⟨p, hp, rfl⟩ := hx
  exact ⟨p, hp, rfl⟩⟩
theorem RdT.frz {h : OH} {x : D} {t : Tk} : DrTk x t → RdT h x t := fun ⟨a, b, e, ⟨xa, ea, ra⟩, ⟨xb, eb, rb⟩⟩ => ⟨a, b, e, ⟨xa, .inl ea, ra⟩, ⟨xb, .inl eb, rb⟩⟩
theorem RdT.own {h : OH} {t : Tk} {b : Nat} (g1 : h[b]? = some (.lst (t.pre.map dT))) (g2 : h[b + 1]? = some (.lst (t.cyc.map dT))) : RdT h (oTk t.name t.rank b) t := ⟨_, _, rfl, ⟨_, .inr ⟨_, rfl, g1⟩, drT_map _⟩, ⟨_, .inr ⟨_, rfl, g2⟩, drT_map _⟩⟩
/-! ### members that the law's halls make -/
/-- the parts of an instance at i, h before it -/
def InsAt (h : OH) (C : String) (h' : OH) (fs : List (String × D)) : Prop := Gro h h' ∧ h'[h.length]? = some (.ins C fs)
theorem InsAt.start (h : OH) (C : String) : InsAt h C (h ++ [.ins C []]) [] := ⟨Gro.app _ _, by simp⟩
end HR
set_option Elab.async false
set_option linter.all false
set_option maxRecDepth 20000
set_option exponentiation.threshold 5000
namespace HR
open PySem L2
/-! ### own halls anywhere in the heap -/
def oTz (ns : List Tk) (bs : List Nat) : List D := List.zipWith (fun t b => oTk t.name t.rank b) ns bs
theorem oTz_at {ns : List Tk} {bs : List Nat} {k : Nat} {t : Tk} {b : Nat} (e1 : ns[k]? = some t) (e2 : bs[k]? = some b) : (oTz ns bs)[k]? = some (oTk t.name t.rank b) := by
  simp [oTz, List.getElem?_zipWith, e1, e2]
structure HAz (h : OH) (j : Nat) (bs : List Nat) (ns : List Tk) : Prop where
  len : bs.length = ns.length
  top : h[j]? = some (.lst (oTz ns bs))
  in_ : ∀ (k : Nat) t b, ns[k]? = some t → bs[k]? = some b → h[b]? = some (.lst (t.pre.map dT)) ∧ h[b + 1]? = some (.lst (t.cyc.map dT))
theorem HAz.at {h : OH} {j : Nat} {bs : List Nat} {ns : List Tk} (a : HAz h j bs ns) {k : Nat} {t : Tk} (e : ns[k]? = some t) : ∃ b, bs[k]? = some b ∧ (oTz ns bs)[k]? = some (oTk t.name t.rank b) ∧ h[b]? = some (.lst (t.pre.map dT)) ∧ h[b + 1]? = some (.lst (t.cyc.map dT)) := by
  have hk := (List.getElem?_eq_some_iff.mp e).1
  have l := a.len
  have e2 : bs[k]? = some bs[k] := List.getElem?_eq_getElem (by omega)
  exact ⟨_, e2, oTz_at e e2, a.in_ k t _ e e2⟩
theorem snap_all {get : Nat → Option (List D)} : ∀ {xs : List D}, (∀ x ∈ xs, snapG get x = some x) → snapGL get xs = some xs
  | [], _ => rfl
  | x :: xs, h => by simp [snapGL, h x List.mem_cons_self, snap_all fun y hy => h y (List.mem_cons_of_mem _ hy)]
theorem snap_sq {get : Nat → Option (List D)} {d : D} {xs : List D} (e : sqD d = some xs) (h : ∀ x ∈ xs, snapG get x = some x) : snapG get d = some d := by
  have := snap_all h
  cases d <;> first | (cases e; simp [snapG, this]; done) | cases e
theorem AllR.mem {ξ : Type} {R : D → ξ → Prop} {xs : List D} {ps : List ξ} (a : AllR R xs ps) {x : D} (hx : x ∈ xs) : ∃ p, p ∈ ps ∧ R x p := by
  obtain ⟨k, hk⟩ := List.getElem?_of_mem hx
  obtain ⟨p, e, r⟩ := a.2 k x hk
  exact ⟨p, List.mem_of_getElem? e, r⟩
/-! ### own_hall -/
def bsq (b n : Nat) : List Nat := (List.range n).map fun k => b + 2 * k
@[simp] theorem bsq_len (b n : Nat) : (bsq b n).length = n := by simp [bsq]
end HR
set_option Elab.async false
set_option linter.all false
set_option maxRecDepth 20000
set_option exponentiation.threshold 5000
namespace HR
open PySem L2
/-! ### what with_talker and without_talker return -/
def HOz (h : OH) (d : D) (ns : List Tk) (lo hi : Nat) : Prop := ∃ j bs, d = .ref j ∧ HAz h j bs ns ∧ (∀ b ∈ bs, lo ≤ b ∧ b + 1 < hi ∧ b ≠ j ∧ b + 1 ≠ j) ∧ lo ≤ j ∧ j < hi
theorem HOz.frame {h h' : OH} {d : D} {ns : List Tk} {lo hi : Nat} (o : HOz h d ns lo hi) (k : ∀ i, lo ≤ i → i < hi → h'[i]? = h[i]?) : HOz h' d ns lo hi := by
  obtain ⟨j, bs, e, a, l1, l2, l3⟩ := o
  refine ⟨j, bs, e, ⟨a.len, by rw [k j l2 l3]; exact a.top, fun m t b e1 e2 => ?_⟩, l1, l2, l3⟩
  obtain ⟨p, q⟩ := a.in_ m t b e1 e2
  obtain ⟨c1, c2, _⟩ := l1 b (List.mem_of_getElem? e2)
  exact ⟨by rw [k b (by omega) (by omega)]; exact p, by rw [k (b + 1) (by omega) (by omega)]; exact q⟩
end HR
set_option Elab.async false
set_option linter.all false
set_option maxRecDepth 20000
set_option exponentiation.threshold 5000
namespace HR
open PySem L2
theorem W_inSt35 (neg : Bool) (x : Str) (xs : List Str) (h : OH) {PD : D → OH → Prop} : (opInL neg (.str x) (.lst (xs.map D.str)) h).W PD = PD (.bl (if neg then !decide (x ∈ xs) else decide (x ∈ xs))) h := by
  have fl : flatsD (xs.map D.str) = some (xs.map V.str) := by
    induction xs with
    | nil => rfl
    | cons y ys ih => simp [flatsD, flatD, ih]
  have e : inV (.str x) (xs.map V.str) = decide (x ∈ xs) := by
    rw [Bool.eq_iff_iff]
    simp [inV, eqV]
  have f : (xs.map V.str).all flatV = true := by simp [flatV]
  simp [opInL, flatD, seqAt, fl, e, f, flatV]
/-! ### spoiling -/
/-! ### repr -/
end HR
set_option Elab.async false
set_option linter.all false
set_option maxRecDepth 20000
set_option exponentiation.threshold 5000
namespace HR
open PySem L2
/-! ### parse_hall -/
theorem W_splitA {x sep : Str} {ys : List Str} (e : Txt.split x sep = ys) (n : (sep.length == 0) = false) (l : x.length + 2 ≤ 1000000) (h : OH) {PD : D → OH → Prop} : (opSplit x (.str sep) h).W PD = PD (.lst (ys.map D.str)) h := by
  unfold opSplit
  dsimp only
  rw [if_pos ⟨n, by simpa [big] using l⟩, e]
  rfl
theorem idx_bar : ∀ (A B : List Str), (∀ x ∈ A, x ≠ BA) → idxV (.str BA) ((A ++ BA :: B).map V.str) = some A.length
  | [], B, _ => by simp [idxV, eqV]
  | a :: A, B, h => by
    have n := h a List.mem_cons_self
    have r := idx_bar A B fun x hx => h x (List.mem_cons_of_mem _ hx)
    have e : eqV (.str a) (.str BA) = false := by simpa [eqV] using n
    simp only [List.cons_append, List.map_cons, idxV, e, Bool.false_eq_true, if_false, r, Option.map_some, List.length_cons]
theorem W_idx {A B : List Str} (n : ∀ x ∈ A, x ≠ BA) (h : OH) {PD : D → OH → Prop} : (opIdx (.lst ((A ++ BA :: B).map D.str)) (.str BA) h).W PD = PD (.int (A.length : Nat)) h := by
  have fl : ∀ ys : List Str, flatsD (ys.map D.str) = some (ys.map V.str) := by
    intro ys
    induction ys with
    | nil => rfl
    | cons y ys ih => simp [flatsD, flatD, ih]
  have ff : ∀ ys : List Str, (ys.map V.str).all flatV = true := fun ys => by simp [flatV]
  unfold opIdx
  rw [show (lsqAt h (.lst ((A ++ BA :: B).map D.str))) = some ((A ++ BA :: B).map D.str) from rfl, Option.bind_some, fl]
  simp only [flatD, ff, flatV, Bool.and_self, if_true, idx_bar A B n]
  rfl
theorem pyT (get : Nat → Option (List PyData)) (ts : List (Int × Int)) : pyGL get (ts.map dT) = some (ts.map pT) := by
  induction ts with
  | nil => rfl
  | cons p ts ih => simp [pyGL, pyG, dT, pT, ih]
theorem W_sIdx (o : SE) (a : SA) (e : Env') (h : OH) {PD : D → OH → Prop} : (sIdx o a e h).W PD = (o e h).W fun x h1 => if (lsqAt h1 x).isSome then (a e h1).W fun ys h2 => (match ys with
  | [y] => (opIdx x y h2).W PD
  | _ => False) else False := by
  unfold sIdx
  rw [W_bind]
  congr; funext x h1
  split
  · rw [W_bind]
    congr; funext ys h2
    match ys with
    | [] => rfl
    | [_] => rfl
    | _ :: _ :: _ => rfl
  · rfl
end HR
set_option Elab.async false
set_option linter.all false
set_option maxRecDepth 20000
namespace HR
open PySem L2
/-! ### a text cut at each sign c -/
def sp (c : Nat) : List Nat → List (List Nat)
  | [] => [[]]
  | x :: r => if x = c then [] :: sp c r else (x :: (sp c r).headD []) :: (sp c r).tail
theorem sp_cons (c : Nat) (l : List Nat) : sp c l = (sp c l).headD [] :: (sp c l).tail := by
  cases l with
  | nil => rfl
  | cons x r =>
    unfold sp
    split <;> rfl
theorem sp_ne (c : Nat) (l : List Nat) : sp c l ≠ [] := by
  rw [sp_cons]
  exact List.cons_ne_nil _ _
theorem spl_sp (c : Nat) : ∀ (l acc : List Nat), TL.spl [c] 0 acc l = (acc ++ (sp c l).headD []) :: (sp c l).tail
  | [], acc => by rw [TL.spl_nil]; simp [sp]
  | x :: r, acc => by
    by_cases h : x = c
    · have p : TL.pre [c] (x :: r) = true := by simp [TL.pre, h]
      rw [TL.spl_hit p]
      show acc :: TL.spl [c] 0 [] r = _
      rw [spl_sp c r []]
      rw [show sp c (x :: r) = [] :: sp c r by rw [sp, if_pos h]]
      simp only [List.nil_append, List.headD_cons, List.tail_cons, List.append_nil]
      rw [← sp_cons]
    · have p : TL.pre [c] (x :: r) = false := by simp [TL.pre, h]
      rw [TL.spl_miss p, spl_sp c r (acc ++ [x])]
      rw [show sp c (x :: r) = (x :: (sp c r).headD []) :: (sp c r).tail by rw [sp, if_neg h]]
      simp
theorem split_sp {c : Nat} (hc : c < 256) (x : Str) : Txt.split x (SX.S [c]) = (sp c (sgs x)).map SX.S := by
  have e : x = SX.S (sgs x) := (SX.S_tl x).symm
  conv => lhs; rw [e]
  rw [SX.split_S (by simp) (by simpa using hc), spl_sp, List.nil_append, ← sp_cons]
theorem sp_inf (c : Nat) : ∀ l : List Nat, (sp c l).headD [] <+: l ∧ ∀ p ∈ sp c l, p <:+: l
  | [] => by simp [sp]
  | x :: r => by
    obtain ⟨h1, h2⟩ := sp_inf c r
    have up : ∀ p, p <:+: r → p <:+: x :: r := fun p h => h.trans (List.suffix_cons x r).isInfix
    unfold sp
    split
    · refine ⟨List.nil_prefix, fun p hp => ?_⟩
      rcases List.mem_cons.mp hp with rfl | hp
      · exact List.nil_infix
      · exact up p (h2 p hp)
    · have hx : (x :: (sp c r).headD []) <+: x :: r := by
        obtain ⟨t, e⟩ := h1
        exact ⟨t, by rw [List.cons_append, e]⟩
      refine ⟨hx, fun p hp => ?_⟩
      rcases List.mem_cons.mp hp with rfl | hp
      · exact hx.isInfix
      · exact up p (h2 p (List.mem_of_mem_tail hp))
theorem sp_sum (c : Nat) : ∀ l : List Nat, ((sp c l).map fun p => p.length + 1).sum = l.length + 1
  | [] => by simp [sp]
  | x :: r => by
    have ih := sp_sum c r
    rw [sp_cons, List.map_cons, List.sum_cons] at ih
    have ih0 := sp_sum c r
    unfold sp
    split
    · rw [List.map_cons, List.sum_cons, ih0]
      simp
      omega
    · rw [List.map_cons, List.sum_cons, List.length_cons, List.length_cons]
      omega
theorem len_sum : ∀ ls : List (List Nat), ls.length ≤ (ls.map fun p => p.length + 1).sum
  | [] => by simp
  | p :: ls => by
    have := len_sum ls
    simp
    omega
theorem sp_len (c : Nat) (l : List Nat) : (sp c l).length ≤ l.length + 1 := by
  have := len_sum (sp c l)
  rw [sp_sum] at this
  exact this
/-! ### texts within the lines -/
structure Okl (l : List Nat) : Prop where
  len : l.length ≤ 4000
  chr : ∀ c ∈ l, c < 128
  run : ∀ x, x <:+: l → (∀ c ∈ x, 48 ≤ c ∧ c ≤ 57) → x.length ≤ 255
theorem Okl.inf {l m : List Nat} (w : Okl l) (h : m <:+: l) : Okl m := ⟨Nat.le_trans h.length_le w.len, fun c hc => w.chr c (h.subset hc), fun x hx => w.run x (hx.trans h)⟩
theorem Okl.part {c : Nat} {l p : List Nat} (w : Okl l) (h : p ∈ sp c l) : Okl p := w.inf ((sp_inf c l).2 p h)
theorem Okl.ok {l : List Nat} (w : Okl l) : PyData.strOk (SX.S l) = true := by
  simp only [PyData.strOk, Array.all_eq_true_iff_forall_mem, decide_eq_true_eq]
  intro c hc
  have : c ∈ l := by simpa [SX.S] using hc
  have := w.chr c this
  omega
theorem Okl.big {l : List Nat} (w : Okl l) : (SX.S l).length ≤ big := by
  rw [SX.S_len]
  have := w.len
  simp only [HR.big]
  omega
theorem W_sp {c : Nat} (hc : c < 256) {l : List Nat} (w : Okl l) (h : OH) {PD : D → OH → Prop} : (opSplit (SX.S l) (.str (SX.S [c])) h).W PD = PD (.lst ((sp c l).map fun p => D.str (SX.S p))) h := by
  have e := split_sp hc (SX.S l)
  rw [sgs_S] at e
  rw [W_splitA e (by simp [SX.S, Str.length]) (by rw [SX.S_len]; have := w.len; omega), List.map_map]
  rfl
end HR
set_option Elab.async false
set_option linter.all false
set_option maxRecDepth 20000
set_option exponentiation.threshold 5000
namespace HR
open PySem L2
/-! ### numbers, names, pairs of any text -/
theorem dig_list : ("0123456789" : Str).cps.toList = [48, 49, 50, 51, 52, 53, 54, 55, 56, 57] := by decide +kernel
def digB (c : Nat) : Bool := decide (c ∈ ("0123456789" : Str).cps.toList)
theorem digB_iff (c : Nat) : digB c = true ↔ 48 ≤ c ∧ c ≤ 57 := by
  unfold digB
  rw [decide_eq_true_eq, dig_list]
  simp only [List.mem_cons, List.not_mem_nil, or_false]
  omega
def hd0 (p : List Nat) : Nat := p.headD 0
def alB (p : List Nat) : Bool := p.all digB
def numB (p : List Nat) : Bool := decide (p ≠ []) && (alB p && (decide (p = [48]) || decide (hd0 p ≠ 48)))
def numV (p : List Nat) : Int := ((PySem.NumText.digitsVal p : Nat) : Int)
theorem S_eq {a b : List Nat} : (SX.S a == SX.S b) = decide (a = b) := SX.S_beq_eq
theorem S_toL (p : List Nat) : (SX.S p).cps.toList = p := by simp [SX.S]
theorem ok48 : PyData.strOk (SX.S [48]) = true := by decide +kernel
theorem okC {c : Nat} (h : c < 128) : PyData.strOk (SX.S [c]) = true := by
  simp [PyData.strOk, SX.S]
  omega
theorem W_eqTS (neg : Bool) (a b : List Nat) (h : OH) {PD : D → OH → Prop} : (opEqT neg (.str (SX.S a)) (.str (SX.S b)) h).W PD = PD (.bl (if neg then !decide (a = b) else decide (a = b))) h := by
  rw [W_eqT, S_eq]
theorem W_eqSS (neg : Bool) {a b : List Nat} (ha : PyData.strOk (SX.S a) = true) (hb : PyData.strOk (SX.S b) = true) (h : OH) {PD : D → OH → Prop} : (opEq neg (.str (SX.S a)) (.str (SX.S b)) h).W PD = PD (.bl (if neg then !decide (a = b) else decide (a = b))) h := by
  rw [W_eqS neg _ _ h ha hb, S_eq]
theorem W_ix0 {p : List Nat} (ne : p ≠ []) (hb : (SX.S p).length ≤ big) (h : OH) {PD : D → OH → Prop} : (opIx (.str (SX.S p)) (.int 0) h).W PD = PD (.str (SX.S [hd0 p])) h := by
  cases p with
  | nil => exact absurd rfl ne
  | cons c p =>
    unfold opIx
    dsimp only
    rw [if_pos hb]
    simp [SX.S, hd0]
theorem all_dig {p : List Nat} (h : alB p = true) : ∀ c ∈ p, 48 ≤ c ∧ c ≤ 57 := fun c hc => (digB_iff c).mp (List.all_eq_true.mp h c hc)
theorem numB_dig {p : List Nat} (h : numB p = true) : p ≠ [] ∧ ∀ c ∈ p, 48 ≤ c ∧ c ≤ 57 := by
  unfold numB at h
  simp only [Bool.and_eq_true, decide_eq_true_eq] at h
  exact ⟨h.1, all_dig h.2.1⟩
theorem isnum_any {p : List Nat} (w : Okl p) (h : OH) : pureF Sh.is_number [.str (SX.S p)] h = .ok (.bl (numB p)) h := by
  refine pure_eq h rfl rfl ?_
  unfold Sh.is_number; rw [W_fn]; unfold Sh.is_number_b
  have e0 : (Str.ofString "") = SX.S [] := rfl
  have e1 : (Str.ofString "0") = SX.S [48] := rfl
  by_cases ne : p = []
  · subst ne
    simp [e0, W_eqTS, numB]
  · have hc : hd0 p < 128 := by
      cases p with
      | nil => exact absurd rfl ne
      | cons c p => exact w.chr c (List.mem_cons_self ..)
    have ok := w.ok
    have bg := w.big
    have oc := okC hc
    have ln : p.length ≤ big := by have := w.len; simp only [big]; omega
    simp [e0, W_eqTS, wipeD, signsD, S_toL, ne]
    refine W_lcMap1 p (fun c => .str ⟨#[c]⟩) (fun c => .bl (digB c)) [] ln (fun x hx => ⟨_, rfl, ?_⟩) ?_
    · simp [digB]
    · rw [bs_mapF, lkS_some]
      have ea : (false ∈ List.map digB p) ↔ alB p = false := by
        unfold alB
        rw [List.mem_map, List.all_eq_false]
        simp
      by_cases q : alB p = true
      · rw [if_neg (by rw [ea, q]; decide), e1, W_eqSS false ok ok48]
        by_cases z : p = [48]
        · have n : numB p = true := by rw [z]; decide +kernel
          have d1 : decide (p = [48]) = true := decide_eq_true z
          rw [d1]
          simp [n]
        · have d1 : decide (p = [48]) = false := decide_eq_false z
          rw [d1]
          have n : numB p = decide (hd0 p ≠ 48) := by simp [numB, q, ne, z]
          rw [n]
          simp [W_ix0 ne bg, W_eqSS true oc ok48]
      · have q : alB p = false := by simpa using q
        rw [if_pos (ea.mpr q)]
        simp [numB, q]
def numO (p : List Nat) : Option Int := if numB p then some (numV p) else none
def dIO : Option Int → D
  | none => .non
  | some i => .int i
theorem W_intS {p : List Nat} (w : Okl p) (n : numB p = true) (h : OH) {PD : D → OH → Prop} : (opIntT (.str (SX.S p)) h).W PD = PD (.int (numV p)) h := by
  obtain ⟨ne, dg⟩ := numB_dig n
  have ln := w.run p List.infix_rfl dg
  refine W_intT (n := numV p) ?_ (by rw [SX.S_len]; omega) h
  have := PySem.intText_digits (x := SX.S p) (by rw [S_toL]; exact dg) (by rw [S_toL]; exact ne) (by rw [SX.S_len]; omega)
  rw [S_toL] at this
  exact this
theorem lnum_any {p : List Nat} (w : Okl p) (h : OH) : pureF Sh.l_number_1 [.str (SX.S p)] h = .ok (dIO (numO p)) h := by
  refine pure_eq h rfl (by unfold numO; split <;> rfl) ?_
  unfold Sh.l_number_1; rw [W_fn]; unfold Sh.l_number_1_b
  have e0 : (Str.ofString "") = SX.S [] := rfl
  have e1 : (Str.ofString "0") = SX.S [48] := rfl
  by_cases ne : p = []
  · subst ne
    simp [e0, W_eqTS, numO, numB, dIO]
  · have hc : hd0 p < 128 := by
      cases p with
      | nil => exact absurd rfl ne
      | cons c p => exact w.chr c (List.mem_cons_self ..)
    have ok := w.ok
    have bg := w.big
    have oc := okC hc
    have ln : p.length ≤ big := by have := w.len; simp only [big]; omega
    have wi := fun n => @W_intS p w n
    simp [e0, W_eqTS, wipeD, signsD, S_toL, ne]
    refine W_lcMap p (fun c => .str ⟨#[c]⟩) (fun c => !digB c) (fun c => .str ⟨#[c]⟩) [] ln (fun x hx => ⟨_, rfl, ?_⟩) ?_
    · simp [digB]
    · by_cases q : alB p = true
      · have ef : p.filter (fun c => !digB c) = [] := by
          rw [List.filter_eq_nil_iff]
          intro x hx
          simp [List.all_eq_true.mp q x hx]
        rw [ef]
        simp only [List.map_nil, W_nilL]
        simp [e1, W_eqSS false ok ok48]
        by_cases z : p = [48]
        · have n : numB p = true := by rw [z]; decide +kernel
          rw [if_pos z, wi n]
          simp [numO, n, dIO]
        · rw [if_neg z]
          have n : numB p = decide (hd0 p ≠ 48) := by simp [numB, q, ne, z]
          simp [W_ix0 ne bg, W_eqSS true oc ok48]
          by_cases z2 : hd0 p = 48
          · rw [if_pos z2]
            simp [numO, n, z2, dIO]
          · rw [if_neg z2, wi (by rw [n]; simp [z2])]
            simp [numO, n, z2, dIO]
      · have q : alB p = false := by simpa using q
        have ef : p.filter (fun c => !digB c) ≠ [] := fun z => by
          rw [List.filter_eq_nil_iff] at z
          have : alB p = true := List.all_eq_true.mpr fun x hx => by simpa using z x hx
          rw [this] at q
          cases q
        have n : numB p = false := by simp [numB, q]
        cases ee : p.filter (fun c => !digB c) with
        | nil => exact absurd ee ef
        | cons a b => simp [numO, n, dIO]
end HR
set_option Elab.async false
set_option linter.all false
set_option maxRecDepth 20000
set_option exponentiation.threshold 5000
namespace HR
open PySem L2
def azB (c : Nat) : Bool := decide (c ∈ ("abcdefghijklmnopqrstuvwxyz" : Str).cps.toList)
def alzB (p : List Nat) : Bool := p.all azB
def nameB (p : List Nat) : Bool := decide (1 ≤ p.length) && (decide (p.length ≤ 8) && alzB p)
theorem nameB_D (p : List Nat) : isNameD (.str (SX.S p)) = nameB p := by
  show (decide (1 ≤ (SX.S p).length) && (decide ((SX.S p).length ≤ 8) && (SX.S p).cps.toList.all azB)) = _
  rw [SX.S_len, S_toL]
  rfl
theorem isname_any {p : List Nat} (w : Okl p) (h : OH) : pureF Sh.is_name [.str (SX.S p)] h = .ok (.bl (nameB p)) h := by
  refine pure_eq h rfl rfl ?_
  unfold Sh.is_name; rw [W_fn]; unfold Sh.is_name_b
  have bg := w.big
  have ln : p.length ≤ big := by have := w.len; simp only [big]; omega
  simp [wipeD, W_lenS, bg, ln, signsD, SX.S_len, S_toL]
  by_cases c1 : (1 : Int) ≤ p.length
  · by_cases c2 : (p.length : Int) ≤ 8
    · simp [c1, c2]
      refine W_lcMap1 p (fun c => .str ⟨#[c]⟩) (fun c => .bl (azB c)) [] ln (fun c hc => ⟨_, rfl, by simp [azB]⟩) ?_
      rw [bs_mapF]
      have c1' : 1 ≤ p.length := by omega
      have c2' : p.length ≤ 8 := by omega
      simp [nameB, c1', c2', alzB, List.all_map]
    · have c2' : ¬ p.length ≤ 8 := by omega
      simp [c1, c2, nameB, c2']
  · have c1' : ¬ 1 ≤ p.length := by omega
    simp [c1, nameB, c1']
theorem lname_any {p : List Nat} (w : Okl p) (h : OH) : pureF Sh.l_is_name_1 [.str (SX.S p)] h = .ok (.bl (nameB p)) h := by
  refine pure_eq h rfl rfl ?_
  unfold Sh.l_is_name_1; rw [W_fn]; unfold Sh.l_is_name_1_b
  have bg := w.big
  have ln : p.length ≤ big := by have := w.len; simp only [big]; omega
  simp [wipeD, W_lenS, bg, ln, signsD, SX.S_len, S_toL]
  by_cases c1 : (1 : Int) ≤ p.length
  · by_cases c2 : (p.length : Int) ≤ 8
    · simp [c1, c2]
      refine W_lcMap p (fun c => .str ⟨#[c]⟩) (fun c => !azB c) (fun c => .str ⟨#[c]⟩) [] ln (fun x hx => ⟨_, rfl, by simp [azB]⟩) ?_
      have c1' : 1 ≤ p.length := by omega
      have c2' : p.length ≤ 8 := by omega
      have e : nameB p = alzB p := by simp [nameB, c1', c2']
      rw [e]
      have : ((List.map (fun c => D.str ⟨#[c]⟩) (p.filter fun c => !azB c)).isEmpty) = alzB p := by
        rw [List.isEmpty_map, alzB, Bool.eq_iff_iff, List.isEmpty_iff, List.filter_eq_nil_iff, List.all_eq_true]
        simp
      exact this
    · have c2' : ¬ p.length ≤ 8 := by omega
      simp [c1, c2, nameB, c2']
  · have c1' : ¬ 1 ≤ p.length := by omega
    simp [c1, nameB, c1']
/-! ### talks -/
def talkV (p : List Nat) : Option (Int × Int) := match sp 58 p with
  | [a, b] => if numB a && numB b then some (numV a, numV b) else none
  | _ => none
def dTO : Option (Int × Int) → D
  | none => .non
  | some p => dT p
theorem talkV_two {p : List Nat} {a b : List Nat} (e : sp 58 p = [a, b]) : talkV p = if numB a && numB b then some (numV a, numV b) else none := by
  unfold talkV
  rw [e]
theorem talkV_not {p : List Nat} (n : (sp 58 p).length ≠ 2) : talkV p = none := by
  unfold talkV
  split
  · rename_i a b e
    rw [e] at n
    exact absurd rfl n
  · rfl
theorem pure_dTO (o : Option (Int × Int)) : (dTO o).pure = true := by cases o <;> rfl
theorem lenTwo {l : List (List Nat)} (h : l.length = 2) : ∃ a b, l = [a, b] := by
  match l, h with
  | [a, b], _ => exact ⟨a, b, rfl⟩
theorem talkin_any {p : List Nat} (w : Okl p) (h : OH) : pureF Sh.talk_in [.str (SX.S p)] h = .ok (dTO (talkV p)) h := by
  refine pure_eq h rfl (pure_dTO _) ?_
  unfold Sh.talk_in; rw [W_fn]; unfold Sh.talk_in_b
  have ec : Str.ofString ":" = SX.S [58] := rfl
  have wp : ∀ x ∈ sp 58 p, Okl x := fun x hx => w.part hx
  have ll : (sp 58 p).length ≤ 1000000 := by have := sp_len 58 p; have := w.len; omega
  refine SW_seqK fun K hK => ?_
  simp [ec, W_sp (c := 58) (by decide) w]
  refine hK _ _ ?_
  clear hK K
  refine SW_seqK fun K hK => ?_
  simp [wipeD]
  by_cases c : (sp 58 p).length = 2
  · obtain ⟨a, b, e⟩ := lenTwo c
    rw [e] at wp ⊢
    have wa := wp a (by simp)
    have wb := wp b (by simp)
    simp [isnum_any wa, isnum_any wb]
    by_cases na : numB a = true
    · by_cases nb : numB b = true
      · simp [na, nb]
        refine hK _ _ ?_
        simp [W_intS wa na, W_intS wb nb, talkV_two e, na, nb, dTO, dT]
      · simp [na, nb, talkV_two e, dTO]
    · simp [na, talkV_two e, dTO]
  · have c' : ¬ (((sp 58 p).length : Int) = 2) := by omega
    simp [c', talkV_not c, dTO]
theorem lpair_any {p : List Nat} (w : Okl p) (h : OH) : pureF Sh.l_pair_1 [.str (SX.S p)] h = .ok (dTO (talkV p)) h := by
  refine pure_eq h rfl (pure_dTO _) ?_
  unfold Sh.l_pair_1; rw [W_fn]; unfold Sh.l_pair_1_b
  have ec : Str.ofString ":" = SX.S [58] := rfl
  have wp : ∀ x ∈ sp 58 p, Okl x := fun x hx => w.part hx
  have ll : (sp 58 p).length ≤ big := by have := sp_len 58 p; have := w.len; simp only [big]; omega
  refine SW_seqK fun K hK => ?_
  simp [ec, W_sp (c := 58) (by decide) w, wipeD]
  refine W_lcMap1 (sp 58 p) (fun x => D.str (SX.S x)) (fun x => dIO (numO x)) [] ll (fun x hx => ⟨_, rfl, by simp [lnum_any (wp x hx)]⟩) ?_
  refine hK _ _ ?_
  clear hK K
  simp
  by_cases c : (sp 58 p).length = 2
  · obtain ⟨a, b, e⟩ := lenTwo c
    rw [talkV_two e, e]
    have ni : ∀ (x y : Option Int) (h : OH), opInL true .non (.lst [dIO x, dIO y]) h = .ok (.bl (x.isSome && y.isSome)) h := fun x y h => by cases x <;> cases y <;> rfl
    simp [ni]
    cases na : numB a <;> cases nb : numB b <;> simp [numO, na, nb, dIO, dTO, dT]
  · have c' : ¬ (((sp 58 p).length : Int) = 2) := by omega
    simp [c', talkV_not c, dTO]
end HR
set_option Elab.async false
set_option linter.all false
set_option maxRecDepth 20000
set_option exponentiation.threshold 5000
namespace HR
open PySem L2
/-! ### the two halves of a schedule -/
def cmb (pa pb : List (Option (Int × Int))) : Option (List (Int × Int) × List (Int × Int)) := if none ∈ pa ∨ none ∈ pb ∨ pb = [] then none else some (pa.filterMap id, pb.filterMap id)
def schV (ws : List (List Nat)) : Option (List (Int × Int) × List (Int × Int)) := if [124] ∈ ws then cmb ((ws.takeWhile fun w => decide (w ≠ [124])).map talkV) (((ws.dropWhile fun w => decide (w ≠ [124])).drop 1).map talkV) else none
theorem tw_bar : ∀ (A B : List (List Nat)), [124] ∉ A → (A ++ [124] :: B).takeWhile (fun w => decide (w ≠ [124])) = A ∧ (A ++ [124] :: B).dropWhile (fun w => decide (w ≠ [124])) = [124] :: B
  | [], B, _ => by simp
  | a :: A, B, h => by
    have na : a ≠ [124] := fun z => h (by rw [z]; exact List.mem_cons_self ..)
    have r := tw_bar A B fun z => h (List.mem_cons_of_mem _ z)
    have d : decide (a ≠ [124]) = true := decide_eq_true na
    rw [List.cons_append, List.takeWhile_cons, List.dropWhile_cons, d, if_pos rfl, if_pos rfl, r.1, r.2]
    exact ⟨rfl, rfl⟩
theorem schV_at {A B : List (List Nat)} (n : [124] ∉ A) : schV (A ++ [124] :: B) = cmb (A.map talkV) (B.map talkV) := by
  unfold schV
  obtain ⟨h1, h2⟩ := tw_bar A B n
  rw [if_pos (by simp), h1, h2]
  rfl
theorem schV_no {ws : List (List Nat)} (n : [124] ∉ ws) : schV ws = none := by
  unfold schV
  rw [if_neg n]
theorem bar_split {ws : List (List Nat)} (h : [124] ∈ ws) : ∃ A B, ws = A ++ [124] :: B ∧ [124] ∉ A := by
  induction ws with
  | nil => cases h
  | cons w ws ih =>
    by_cases e : w = [124]
    · exact ⟨[], ws, by rw [e]; rfl, by simp⟩
    · obtain ⟨A, B, e1, n⟩ := ih (by
        rcases List.mem_cons.mp h with z | z
        · exact absurd z.symm e
        · exact z)
      refine ⟨w :: A, B, by rw [e1]; rfl, fun z => ?_⟩
      rcases List.mem_cons.mp z with z | z
      · exact e z.symm
      · exact n z
theorem cmb_some {pa pb : List (Option (Int × Int))} {a b : List (Int × Int)} (h : cmb pa pb = some (a, b)) : pa.map dTO = a.map dT ∧ pb.map dTO = b.map dT ∧ b ≠ [] ∧ none ∉ pa ∧ none ∉ pb ∧ pb ≠ [] := by
  have fm : ∀ xs : List (Option (Int × Int)), none ∉ xs → xs.map dTO = (xs.filterMap id).map dT := by
    intro xs
    induction xs with
    | nil => intro _; rfl
    | cons x xs ih =>
      intro n
      have := ih fun z => n (List.mem_cons_of_mem _ z)
      cases x with
      | none => exact absurd (List.mem_cons_self ..) n
      | some p => simp [this, dTO]
  unfold cmb at h
  split at h
  · cases h
  · rename_i c
    have c1 : none ∉ pa := fun z => c (.inl z)
    have c2 : none ∉ pb := fun z => c (.inr (.inl z))
    have c3 : pb ≠ [] := fun z => c (.inr (.inr z))
    cases h
    refine ⟨fm _ c1, fm _ c2, fun z => ?_, c1, c2, c3⟩
    have e := fm _ c2
    rw [z] at e
    exact c3 (List.map_eq_nil_iff.mp e)
/-! ### None in a list of pairs -/
def pTO : Option (Int × Int) → PyData
  | none => .none
  | some p => pT p
theorem W_noneV (pa : List (Option (Int × Int))) (h : OH) {PD : D → OH → Prop} : (opInD false .non (.lst (pa.map dTO)) h).W PD = PD (.bl (decide (none ∈ pa))) h := by
  have a : pyAt h (.lst (pa.map dTO)) = some (.list (pa.map pTO)) := by
    have : ∀ get, pyGL get (pa.map dTO) = some (pa.map pTO) := by
      intro get
      induction pa with
      | nil => rfl
      | cons p ts ih => cases p <;> simp [pyGL, pyG, dTO, dT, pT, pTO, ih]
    simp [pyAt, pyG, this]
  have lay : PyData.canLayAll0 (pa.map pTO) = true := by
    clear a
    induction pa with
    | nil => rfl
    | cons p ts ih => cases p <;> simp [PyData.canLayAll0, pT, pTO, PyData.canLay0, ih]
  have dep : PyData.depthAll (pa.map pTO) ≤ 1 := by
    clear a lay
    induction pa with
    | nil => exact Nat.zero_le _
    | cons p ts ih =>
      cases p <;> simp only [List.map_cons, PyData.depthAll, pTO, pT, PyData.depth] at ih ⊢ <;> omega
  have sh : SeqAt.shaped (.list (pa.map pTO)) = true := by
    simp [SeqAt.shaped, PyData.canLay0, lay, PyData.depth]
    omega
  have any : ((pa.map pTO).any fun z => PyData.eqv z .none) = decide (none ∈ pa) := by
    clear a lay dep sh
    induction pa with
    | nil => rfl
    | cons p ts ih =>
      rw [List.map_cons, List.any_cons, ih]
      cases p with
      | none => simp [pTO, PyData.eqv]
      | some p => simp [pTO, pT, PyData.eqv]
  unfold opInD
  rw [show pyAt h .non = some .none from rfl, a]
  dsimp only
  rw [show SeqAt.shaped .none = true from rfl, sh, any]
  rfl
theorem strL (ws : List (List Nat)) : (ws.map fun w => D.str (SX.S w)) = (ws.map SX.S).map D.str := by rw [List.map_map]; rfl
theorem BA_S : BA = SX.S [124] := rfl
theorem bar_mem (ws : List (List Nat)) : (BA ∈ ws.map SX.S) ↔ [124] ∈ ws := by
  rw [BA_S, List.mem_map]
  exact ⟨fun ⟨a, h, e⟩ => by rw [← SX.S_inj e]; exact h, fun h => ⟨_, h, rfl⟩⟩
def dSc2 : Option (List (Int × Int) × List (Int × Int)) → D
  | none => .non
  | some (a, b) => .tup [.lst (a.map dT), .lst (b.map dT)]
theorem pure_dSc2 (o : Option (List (Int × Int) × List (Int × Int))) : (dSc2 o).pure = true := by
  cases o with
  | none => rfl
  | some p =>
    obtain ⟨a, b⟩ := p
    simp [dSc2, pureL_map _ pure_dT]
theorem pureL_S (ws : List (List Nat)) : D.pureL (ws.map fun w => D.str (SX.S w)) = true := pureL_map _ (fun _ => rfl) ws
/-- the end of both readers -/
theorem cmb_D (pa pb : List (Option (Int × Int))) : dSc2 (cmb pa pb) = if none ∈ pa ∨ none ∈ pb ∨ pb = [] then .non else .tup [.lst (pa.map dTO), .lst (pb.map dTO)] := by
  cases e : cmb pa pb with
  | none =>
    unfold cmb at e
    split at e
    · rename_i c
      rw [if_pos c]
      rfl
    · cases e
  | some p =>
    obtain ⟨a, b⟩ := p
    obtain ⟨h1, h2, h3, h4, h5, h6⟩ := cmb_some e
    rw [if_neg (by rintro (z | z | z) <;> contradiction), h1, h2]
    rfl
theorem sched_any {ws : List (List Nat)} (w : ∀ x ∈ ws, Okl x) (l : ws.length ≤ 4001) (h : OH) : pureF Sh.schedule_in_1 [.lst (ws.map fun w => D.str (SX.S w))] h = .ok (dSc2 (schV ws)) h := by
  refine pure_eq h (by simp [pureL_S]) (pure_dSc2 _) ?_
  have eb : Str.ofString "|" = BA := rfl
  unfold Sh.schedule_in_1; rw [W_fn]; unfold Sh.schedule_in_1_b
  have bi : ∀ (h : OH) (PD : D → OH → Prop), (opInL true (.str BA) (.lst (ws.map fun w => D.str (SX.S w))) h).W PD = PD (.bl (!decide ([124] ∈ ws))) h := fun h PD => by
    rw [strL, W_inSt35]
    simp only [if_true, bar_mem]
  by_cases c : [124] ∈ ws
  · obtain ⟨A, B, e, n⟩ := bar_split c
    rw [e, schV_at n]
    rw [e] at bi w l
    have nb : ∀ x ∈ A.map SX.S, x ≠ BA := fun x hx z => n ((bar_mem A).mp (by rw [← z]; exact hx))
    have ix : ∀ (h : OH) (PD : D → OH → Prop), (opIdx (.lst ((A ++ [124] :: B).map fun w => D.str (SX.S w))) (.str BA) h).W PD = PD (.int ((A.length : Nat) : Int)) h := fun h PD => by
      have := W_idx (B := B.map SX.S) nb h (PD := PD)
      rw [List.length_map] at this
      rw [← this, strL, List.map_append, List.map_cons]
      rfl
    have cut1 : cutD ((A ++ [124] :: B).map fun w => D.str (SX.S w)) none (some ((A.length : Nat) : Int)) = A.map fun w => D.str (SX.S w) := by
      rw [cutD_take _ _ (by omega), Int.toNat_natCast, List.map_append, List.take_left' (by simp)]
    have cut2 : cutD ((A ++ [124] :: B).map fun w => D.str (SX.S w)) (some (((A.length : Nat) : Int) + 1)) none = B.map fun w => D.str (SX.S w) := by
      rw [cutD_drop _ _ (by omega), show (((A.length : Nat) : Int) + 1).toNat = A.length + 1 from by omega, List.map_append, ← List.drop_drop, List.drop_left' (by simp)]
      rfl
    have wA : ∀ x ∈ A, Okl x := fun x hx => w x (by simp [hx])
    have wB : ∀ x ∈ B, Okl x := fun x hx => w x (by simp [hx])
    have lA : A.length ≤ big := by rw [List.length_append] at l; simp only [big]; omega
    have lB : B.length ≤ big := by rw [List.length_append, List.length_cons] at l; simp only [big]; omega
    have cd : decide ([124] ∈ A ++ [124] :: B) = true := decide_eq_true (by simp)
    rw [cd] at bi
    generalize ((A ++ [124] :: B).map fun w => D.str (SX.S w)) = W at bi ix cut1 cut2 ⊢
    generalize hn : A.length = m at ix cut1 cut2
    refine SW_seqK fun K hK => ?_
    simp [eb, bi]
    refine hK _ _ ?_
    clear hK K
    refine SW_seqK fun K hK => ?_
    simp [W_sIdx, lsqAt, seqAt, eb, ix]
    refine hK _ _ ?_
    clear hK K
    refine SW_seqK fun K hK => ?_
    rw [SW_par]
    simp [wipeD, cut1, cut2]
    refine W_lcMap1 A (fun p => D.str (SX.S p)) (fun p => dTO (talkV p)) _ lA (fun p hp => ⟨_, rfl, by simp [talkin_any (wA p hp)]⟩) ?_
    refine W_lcMap1 B (fun p => D.str (SX.S p)) (fun p => dTO (talkV p)) _ lB (fun p hp => ⟨_, rfl, by simp [talkin_any (wB p hp)]⟩) ?_
    refine hK _ _ ?_
    clear hK K
    have mA : (A.map fun p => dTO (talkV p)) = (A.map talkV).map dTO := by rw [List.map_map]; rfl
    have mB : (B.map fun p => dTO (talkV p)) = (B.map talkV).map dTO := by rw [List.map_map]; rfl
    rw [mA, mB, cmb_D]
    generalize A.map talkV = pa
    generalize B.map talkV = pb
    simp [W_noneV]
    by_cases c1 : none ∈ pa
    · simp [c1]
    · by_cases c2 : none ∈ pb
      · simp [c1, c2]
      · by_cases c3 : pb = []
        · simp [c1, c2, c3]
        · simp [c1, c2, c3]
  · rw [schV_no c]
    have cd : decide ([124] ∈ ws) = false := decide_eq_false c
    rw [cd] at bi
    generalize (ws.map fun w => D.str (SX.S w)) = W at bi ⊢
    simp [eb, bi, dSc2]
end HR
set_option Elab.async false
set_option linter.all false
set_option maxRecDepth 20000
set_option exponentiation.threshold 5000
namespace HR
open PySem L2
/-! ### a line, read by the program and by the law -/
def mkTk (nm rk : List Nat) (p : List (Int × Int) × List (Int × Int)) : Tk := ⟨SX.S nm, numV rk, p.1, p.2⟩
def lineW (ws : List (List Nat)) : Option Tk := match ws with
  | nm :: rk :: rest => if nameB nm && numB rk then (schV rest).map (mkTk nm rk) else none
  | _ => none
def dLO : Option Tk → D
  | none => .non
  | some t => dTk t
theorem pure_dLO (o : Option Tk) : (dLO o).pure = true := by
  cases o with
  | none => rfl
  | some t => exact pure_dTk t
theorem talker_any {l : List Nat} (w : Okl l) (h : OH) : pureF Sh.talker_in_1 [.str (SX.S l)] h = .ok (dLO (lineW (sp 32 l))) h := by
  refine pure_eq h rfl (pure_dLO _) ?_
  have es : Str.ofString " " = SX.S [32] := rfl
  have wp : ∀ x ∈ sp 32 l, Okl x := fun x hx => w.part hx
  have ll : (sp 32 l).length ≤ 4001 := by have := sp_len 32 l; have := w.len; omega
  unfold Sh.talker_in_1; rw [W_fn]; unfold Sh.talker_in_1_b
  refine SW_seqK fun K hK => ?_
  simp [es, W_sp (c := 32) (by decide) w]
  refine hK _ _ ?_
  clear hK K
  revert wp ll
  generalize sp 32 l = ws
  intro wp ll
  match ws, wp, ll with
  | [], _, _ => simp [lineW, dLO]
  | [a], _, _ => simp [lineW, dLO]
  | a :: b :: rest, wp, ll =>
    have wa := wp a (by simp)
    have wb := wp b (by simp)
    have wr : ∀ x ∈ rest, Okl x := fun x hx => wp x (by simp [hx])
    have lr : rest.length ≤ 4001 := by simp at ll; omega
    have sc := sched_any wr lr
    refine SW_seqK fun K hK => ?_
    have lm : ¬ ((rest.length : Int) + 1 + 1 < 2) := by omega
    simp [lm]
    have i0 : ∀ (xs : List D) (x y : D), atI (x :: y :: xs) 0 = some x := fun _ _ _ => by simp [atI]
    have i1 : ∀ (xs : List D) (x y : D), atI (x :: y :: xs) 1 = some y := fun xs x y => by simp [atI]
    simp [i0, i1, isname_any wa, isnum_any wb]
    by_cases na : nameB a = true
    · by_cases nb : numB b = true
      · simp [na, nb]
        refine hK _ _ ?_
        clear hK K
        have c2 : ∀ (xs : List D) (x y : D), cutD (x :: y :: xs) (some 2) none = xs := fun xs x y => by
          rw [cutD_drop _ _ (by decide)]
          rfl
        refine SW_seqK fun K hK => ?_
        simp [c2, sc]
        refine hK _ _ ?_
        clear hK K
        have el : lineW (a :: b :: rest) = (schV rest).map (mkTk a b) := by simp [lineW, na, nb]
        rw [el]
        cases e : schV rest with
        | none => simp [dSc2, dLO]
        | some p =>
          obtain ⟨x, y⟩ := p
          simp [dSc2, i0, i1, W_intS wb nb, dLO, opAdd, big, dTk, mkTk]
      · simp [na, nb, lineW, dLO]
    · simp [na, lineW, dLO]
theorem cut2k (xs : List D) (n : Nat) (x y : D) (hn : n ≤ xs.length) : cutD (x :: y :: xs) (some 2) (some ((n + 2 : Nat) : Int)) = xs.take n := by
  unfold cutD
  rw [show (some (2 : Int)) = some ((2 : Nat) : Int) from rfl, HT.sIx_nat, HT.sIx_nat]
  simp only [List.length_cons]
  rw [Nat.min_eq_left (by omega), Nat.min_eq_left (by omega)]
  simp
theorem W_sCnt (o : SE) (a : SA) (e : Env') (h : OH) {PD : D → OH → Prop} : (sCnt o a e h).W PD = (o e h).W fun x h1 => if (lsqAt h1 x).isSome then (a e h1).W fun ys h2 => (match ys with
  | [y] => (opCnt x y h2).W PD
  | _ => False) else False := by
  unfold sCnt
  rw [W_bind]
  congr; funext x h1
  split
  · rw [W_bind]
    congr; funext ys h2
    match ys with
    | [] => rfl
    | [_] => rfl
    | _ :: _ :: _ => rfl
  · rfl
def cntB (ws : List (List Nat)) : Nat := ws.countP fun w => decide (w = [124])
theorem W_cntS (ws : List (List Nat)) (h : OH) {PD : D → OH → Prop} : (opCnt (.lst (ws.map fun w => D.str (SX.S w))) (.str BA) h).W PD = PD (.int ((cntB ws : Nat) : Int)) h := by
  have fl : ∀ ys : List Str, flatsD (ys.map D.str) = some (ys.map V.str) := by
    intro ys
    induction ys with
    | nil => rfl
    | cons y ys ih => simp [flatsD, flatD, ih]
  have ff : ∀ ys : List Str, (ys.map V.str).all flatV = true := fun ys => by simp [flatV]
  have ec : ((ws.map SX.S).map V.str).countP (fun z => eqV z (.str BA)) = cntB ws := by
    unfold cntB
    rw [List.map_map, List.countP_map]
    congr 1
    funext w
    show decide (SX.S w = BA) = decide (w = [124])
    rw [BA_S, decide_eq_decide]
    exact ⟨fun e => SX.S_inj e, fun e => by rw [e]⟩
  unfold opCnt
  rw [strL]
  rw [show (lsqAt h (.lst ((ws.map SX.S).map D.str))) = some ((ws.map SX.S).map D.str) from rfl, Option.bind_some, fl]
  simp only [flatD, ff, flatV, Bool.and_self, if_true, ec]
  rfl
theorem name_bar {a : List Nat} (h : nameB a = true) : a ≠ [124] := fun e => by
  rw [e] at h
  exact absurd h (by decide +kernel)
theorem num_bar {a : List Nat} (h : numB a = true) : a ≠ [124] := fun e => by
  rw [e] at h
  exact absurd h (by decide +kernel)
theorem talk_bar : talkV [124] = none := by decide +kernel
theorem cnt_zero {ws : List (List Nat)} : cntB ws = 0 ↔ [124] ∉ ws := by
  unfold cntB
  rw [List.countP_eq_zero]
  constructor
  · intro h z
    have := h _ z
    simp at this
  · intro h a ha
    simp only [decide_eq_true_eq]
    exact fun e => h (by rw [← e]; exact ha)
theorem cnt_app (A B : List (List Nat)) : cntB (A ++ B) = cntB A + cntB B := List.countP_append ..
theorem cnt_cons (a : List Nat) (B : List (List Nat)) : cntB (a :: B) = cntB B + if a = [124] then 1 else 0 := by
  unfold cntB
  rw [List.countP_cons]
  simp
theorem lline_any {l : List Nat} (w : Okl l) (h : OH) : pureF Sh.l_line_2 [.str (SX.S l)] h = .ok (dLO (lineW (sp 32 l))) h := by
  refine pure_eq h rfl (pure_dLO _) ?_
  have es : Str.ofString " " = SX.S [32] := rfl
  have eb : Str.ofString "|" = BA := rfl
  have wp : ∀ x ∈ sp 32 l, Okl x := fun x hx => w.part hx
  have ll : (sp 32 l).length ≤ 4001 := by have := sp_len 32 l; have := w.len; omega
  unfold Sh.l_line_2; rw [W_fn]; unfold Sh.l_line_2_b
  refine SW_seqK fun K hK => ?_
  simp [es, W_sp (c := 32) (by decide) w]
  refine hK _ _ ?_
  clear hK K
  revert wp ll
  generalize sp 32 l = ws
  intro wp ll
  match ws, wp, ll with
  | [], _, _ => simp [lineW, dLO]
  | [a], _, _ => simp [lineW, dLO]
  | [a, b], _, _ =>
    have e : lineW [a, b] = none := by
      simp [lineW, schV]
    simp [e, dLO]
  | [a, b, c], _, _ =>
    have e : lineW [a, b, c] = none := by
      have s : schV [c] = none := by
        by_cases z : c = [124]
        · rw [show [c] = [] ++ [124] :: [] by rw [z]; rfl, schV_at (by simp)]
          simp [cmb]
        · exact schV_no fun q => z (List.mem_singleton.mp q).symm
      simp [lineW, s]
    simp [e, dLO]
  | a :: b :: c :: d :: r2, wp, ll =>
    have hr : ∃ rest, rest = c :: d :: r2 := ⟨_, rfl⟩
    obtain ⟨rest, er⟩ := hr
    rw [← er] at wp ll ⊢
    have wa := wp a (by simp)
    have wb := wp b (by simp)
    have wr : ∀ x ∈ rest, Okl x := fun x hx => wp x (by simp [hx])
    have lr : 2 ≤ rest.length := by rw [er]; simp
    refine SW_seqK fun K hK => ?_
    have lm : ¬ ((rest.length : Int) + 1 + 1 < 4) := by omega
    have cs : ∀ (h : OH) (PD : D → OH → Prop), _ := fun h PD => W_cntS (a :: b :: rest) h (PD := PD)
    simp only [List.map_cons] at cs
    simp [lm, W_sCnt, eb, lsqAt, seqAt]
    have i0 : ∀ (xs : List D) (x y : D), atI (x :: y :: xs) 0 = some x := fun _ _ _ => by simp [atI]
    have i1 : ∀ (xs : List D) (x y : D), atI (x :: y :: xs) 1 = some y := fun xs x y => by simp [atI]
    simp [i0, i1, lname_any wa, lnum_any wb]
    by_cases na : nameB a = true
    · by_cases nb : numB b = true
      · have no : numO b = some (numV b) := by simp [numO, nb]
        have ec : cntB (a :: b :: rest) = cntB rest := by rw [cnt_cons, cnt_cons, if_neg (name_bar na), if_neg (num_bar nb)]; rfl
        rw [ec] at cs
        simp [na, no, dIO, cs]
        have el : lineW (a :: b :: rest) = (schV rest).map (mkTk a b) := by simp [lineW, na, nb]
        by_cases c1 : cntB rest = 1
        · have m1 : [124] ∈ rest := Classical.byContradiction fun z => by rw [cnt_zero.mpr z] at c1; cases c1
          obtain ⟨A, B, e, n⟩ := bar_split m1
          have c1' : ((cntB rest : Nat) : Int) = 1 := by omega
          simp [c1']
          refine hK _ _ ?_
          clear hK K
          rw [el, e, schV_at n]
          have wA : ∀ x ∈ A, Okl x := fun x hx => wr x (by rw [e]; simp [hx])
          have wB : ∀ x ∈ B, Okl x := fun x hx => wr x (by rw [e]; simp [hx])
          have le : rest.length = A.length + (B.length + 1) := by rw [e]; simp
          have lA : A.length ≤ big := by simp at ll; simp only [big]; omega
          have lB : B.length ≤ big := by simp at ll; simp only [big]; omega
          have nb2 : ∀ x ∈ (a :: b :: A).map SX.S, x ≠ BA := fun x hx z => by
            have := (bar_mem (a :: b :: A)).mp (by rw [← z]; exact hx)
            rcases List.mem_cons.mp this with q | q
            · exact name_bar na q.symm
            · rcases List.mem_cons.mp q with q | q
              · exact num_bar nb q.symm
              · exact n q
          have ix : ∀ (h : OH) (PD : D → OH → Prop), (opIdx (.lst ((a :: b :: (A ++ [124] :: B)).map fun w => D.str (SX.S w))) (.str BA) h).W PD = PD (.int ((A.length + 2 : Nat) : Int)) h := fun h PD => by
            have := W_idx (B := B.map SX.S) nb2 h (PD := PD)
            rw [List.length_map] at this
            refine Eq.trans ?_ this
            rw [strL]
            simp [BA_S]
          have cut1 : cutD ((a :: b :: (A ++ [124] :: B)).map fun w => D.str (SX.S w)) (some 2) (some ((A.length + 2 : Nat) : Int)) = A.map fun w => D.str (SX.S w) := by
            simp only [List.map_cons]
            rw [cut2k _ _ _ _ (by simp), List.map_append, List.take_left' (by simp)]
          have cut2 : cutD ((a :: b :: (A ++ [124] :: B)).map fun w => D.str (SX.S w)) (some (((A.length + 2 : Nat) : Int) + 1)) none = B.map fun w => D.str (SX.S w) := by
            rw [cutD_drop _ _ (by omega), show (((A.length + 2 : Nat) : Int) + 1).toNat = 2 + (A.length + 1) from by omega, ← List.drop_drop]
            simp only [List.map_cons, List.drop_succ_cons, List.drop_zero, List.map_append]
            rw [← List.drop_drop, List.drop_left' (by simp)]
            rfl
          simp only [List.map_cons] at ix cut1 cut2
          generalize ((A ++ [124] :: B).map fun w => D.str (SX.S w)) = W at ix cut1 cut2 ⊢
          generalize hx0 : D.str (SX.S a) = x0 at ix cut1 cut2 ⊢
          generalize hx1 : D.str (SX.S b) = x1 at ix cut1 cut2 ⊢
          generalize hn : A.length + 2 = m at ix cut1 cut2
          have m2 : ¬ ((m : Int) < 2) := by omega
          refine SW_seqK fun K hK => ?_
          simp [W_sIdx, lsqAt, seqAt, eb, ix]
          refine hK _ _ ?_
          clear hK K
          refine SW_seqK fun K hK => ?_
          rw [SW_par]
          simp [wipeD, cut1, cut2]
          refine W_lcMap1 A (fun p => D.str (SX.S p)) (fun p => dTO (talkV p)) _ lA (fun p hp => ⟨_, rfl, by simp [lpair_any (wA p hp)]⟩) ?_
          refine W_lcMap1 B (fun p => D.str (SX.S p)) (fun p => dTO (talkV p)) _ lB (fun p hp => ⟨_, rfl, by simp [lpair_any (wB p hp)]⟩) ?_
          refine hK _ _ ?_
          clear hK K
          have mA : (A.map fun p => dTO (talkV p)) = (A.map talkV).map dTO := by rw [List.map_map]; rfl
          have mB : (B.map fun p => dTO (talkV p)) = (B.map talkV).map dTO := by rw [List.map_map]; rfl
          rw [mA, mB]
          generalize A.map talkV = pa
          generalize B.map talkV = pb
          have cD := cmb_D pa pb
          simp [W_noneV, m2]
          by_cases c1 : none ∈ pa
          · rw [if_pos (.inl c1)] at cD
            cases q : cmb pa pb with
            | none => simp [c1, dLO]
            | some z => rw [q] at cD; cases z; cases cD
          · by_cases c2 : none ∈ pb
            · rw [if_pos (.inr (.inl c2))] at cD
              cases q : cmb pa pb with
              | none => simp [c1, c2, dLO]
              | some z => rw [q] at cD; cases z; cases cD
            · by_cases c3 : pb = []
              · rw [if_pos (.inr (.inr c3))] at cD
                cases q : cmb pa pb with
                | none => simp [c1, c3, dLO]
                | some z => rw [q] at cD; cases z; cases cD
              · rw [if_neg (by rintro (z | z | z) <;> contradiction)] at cD
                cases q : cmb pa pb with
                | none => rw [q] at cD; cases cD
                | some z =>
                  obtain ⟨z1, z2⟩ := z
                  obtain ⟨e1, e2, _⟩ := cmb_some q
                  have i0 : ∀ (xs : List D) (x y : D), atI (x :: y :: xs) 0 = some x := fun _ _ _ => by simp [atI]
                  have i1 : ∀ (xs : List D) (x y : D), atI (x :: y :: xs) 1 = some y := fun xs x y => by simp [atI]
                  subst hx0 hx1
                  simp [c1, c2, c3, i0, i1, lnum_any wb, no, dIO, dLO, mkTk, dTk, e1, e2]
        · have c1' : ¬ (((cntB rest : Nat) : Int) = 1) := by omega
          have sn : schV rest = none := by
            by_cases m1 : [124] ∈ rest
            · obtain ⟨A, B, e, n⟩ := bar_split m1
              have : cntB rest = cntB B + 1 := by rw [e, cnt_app, cnt_cons, if_pos rfl, cnt_zero.mpr n]; omega
              have mB : [124] ∈ B := Classical.byContradiction fun z => by rw [cnt_zero.mpr z] at this; exact c1 this
              have : none ∈ B.map talkV := List.mem_map.mpr ⟨_, mB, talk_bar⟩
              rw [e, schV_at n]
              simp only [cmb, this, true_or, or_true, if_true]
            · exact schV_no m1
          simp [c1', el, sn, dLO]
      · have no : numO b = none := by simp [numO, nb]
        simp [na, no, nb, dIO, lineW, dLO]
    · simp [na, lineW, dLO]
end HR
set_option Elab.async false
set_option linter.all false
set_option maxRecDepth 20000
set_option exponentiation.threshold 5000
namespace HR
open PySem L2
/-! ### what a line gives -/
theorem lineW_inv {ws : List (List Nat)} {t : Tk} (h : lineW ws = some t) : ∃ nm rk A B, ws = nm :: rk :: (A ++ [124] :: B) ∧ nameB nm = true ∧ numB rk = true ∧ cmb (A.map talkV) (B.map talkV) = some (t.pre, t.cyc) ∧ t.name = SX.S nm ∧ t.rank = numV rk := by
  unfold lineW at h
  split at h
  · rename_i nm rk rest
    split at h
    · rename_i c
      simp only [Bool.and_eq_true] at c
      rw [Option.map_eq_some_iff] at h
      obtain ⟨p, hp, rfl⟩ := h
      by_cases m : [124] ∈ rest
      · obtain ⟨A, B, e, n⟩ := bar_split m
        rw [e, schV_at n] at hp
        exact ⟨nm, rk, A, B, by rw [e], c.1, c.2, hp, rfl, rfl⟩
      · rw [schV_no m] at hp
        cases hp
    · cases h
  · cases h
theorem talkV_len {w : List Nat} {p : Int × Int} (h : talkV w = some p) : 4 ≤ w.length + 1 := by
  unfold talkV at h
  split at h
  · rename_i a b e
    split at h
    · rename_i c
      simp only [Bool.and_eq_true] at c
      have la : 1 ≤ a.length := List.length_pos_iff.mpr (numB_dig c.1).1
      have lb : 1 ≤ b.length := List.length_pos_iff.mpr (numB_dig c.2).1
      have s := sp_sum 58 w
      rw [e] at s
      simp at s
      omega
    · cases h
  · cases h
theorem sumParts (k : Nat) : ∀ ls : List (List Nat), (∀ p ∈ ls, k ≤ p.length + 1) → k * ls.length ≤ (ls.map fun p => p.length + 1).sum
  | [], _ => by simp
  | p :: ls, h => by
    have h1 := h p (List.mem_cons_self ..)
    have h2 := sumParts k ls fun q hq => h q (List.mem_cons_of_mem _ hq)
    rw [List.map_cons, List.sum_cons, List.length_cons, Nat.mul_add]
    omega
structure LOk (t : Tk) : Prop where
  nm : isNameD (.str t.name) = true
  ok : PyData.strOk t.name = true
  lc1 : 1 ≤ t.cyc.length
  lp : t.pre.length ≤ 1000
  lc : t.cyc.length ≤ 1000
theorem cmb_len {pa pb : List (Option (Int × Int))} {a b : List (Int × Int)} (h : cmb pa pb = some (a, b)) : a.length = pa.length ∧ b.length = pb.length := by
  obtain ⟨h1, h2, _⟩ := cmb_some h
  have e1 := congrArg List.length h1
  have e2 := congrArg List.length h2
  simp at e1 e2
  exact ⟨e1.symm, e2.symm⟩
theorem line_ok {l : List Nat} (w : Okl l) {t : Tk} (h : lineW (sp 32 l) = some t) : LOk t ∧ 4 ≤ l.length + 1 := by
  obtain ⟨nm, rk, A, B, e, c1, c2, c3, c4, c5⟩ := lineW_inv h
  obtain ⟨_, _, bn, nA, nB, _⟩ := cmb_some c3
  obtain ⟨lA, lB⟩ := cmb_len c3
  have s := sp_sum 32 l
  rw [e] at s
  have hA : ∀ p ∈ A, 4 ≤ p.length + 1 := fun p hp => by
    cases q : talkV p with
    | none => exact absurd (List.mem_map.mpr ⟨p, hp, q⟩) nA
    | some z => exact talkV_len q
  have hB : ∀ p ∈ B, 4 ≤ p.length + 1 := fun p hp => by
    cases q : talkV p with
    | none => exact absurd (List.mem_map.mpr ⟨p, hp, q⟩) nB
    | some z => exact talkV_len q
  have sA := sumParts 4 A hA
  have sB := sumParts 4 B hB
  simp only [List.map_cons, List.sum_cons, List.map_append, List.sum_append, List.length_cons, List.length_nil] at s
  have wl := w.len
  have bl : 1 ≤ t.cyc.length := List.length_pos_iff.mpr bn
  simp only [List.length_map] at lA lB
  have wn : Okl nm := w.part (c := 32) (by rw [e]; simp)
  refine ⟨⟨by rw [c4, nameB_D]; exact c1, by rw [c4]; exact wn.ok, bl, by omega, by omega⟩, by omega⟩
/-! ### None in a list of talkers -/
def pTkO : Option Tk → PyData
  | none => .none
  | some t => .tuple [.str t.name, .int t.rank, .list (t.pre.map pT), .list (t.cyc.map pT)]
def fN : List (Option Tk) → Option Nat
  | [] => none
  | none :: _ => some 0
  | some _ :: r => (fN r).map (· + 1)
theorem fN_mem : ∀ os : List (Option Tk), (fN os).isSome = true ↔ none ∈ os
  | [] => by simp [fN]
  | none :: r => by simp [fN]
  | some t :: r => by
    have := fN_mem r
    simp only [fN, Option.isSome_map, this, List.mem_cons, reduceCtorEq, false_or]
theorem layT (ts : List (Int × Int)) : PyData.canLayAll0 (ts.map pT) = true := by
  induction ts with
  | nil => rfl
  | cons p ts ih => simp [PyData.canLayAll0, pT, PyData.canLay0, ih]
theorem depT (ts : List (Int × Int)) : PyData.depthAll (ts.map pT) ≤ 1 := by
  induction ts with
  | nil => exact Nat.zero_le _
  | cons p ts ih =>
    simp only [List.map_cons, PyData.depthAll, pT, PyData.depth] at ih ⊢
    omega
section
variable {os : List (Option Tk)} (ok : ∀ t, some t ∈ os → PyData.strOk t.name = true)
include ok
theorem lay_os : PyData.canLayAll0 (os.map pTkO) = true := by
  induction os with
  | nil => rfl
  | cons o os ih =>
    have := ih fun t ht => ok t (List.mem_cons_of_mem _ ht)
    cases o with
    | none => simp [PyData.canLayAll0, pTkO, PyData.canLay0, this]
    | some t => simp [PyData.canLayAll0, pTkO, PyData.canLay0, this, layT, ok t (List.mem_cons_self ..)]
omit ok in
theorem dep_os : PyData.depthAll (os.map pTkO) ≤ 4 := by
  induction os with
  | nil => exact Nat.zero_le _
  | cons o os ih =>
    cases o with
    | none =>
      simp only [List.map_cons, PyData.depthAll, pTkO, PyData.depth] at ih ⊢
      omega
    | some t =>
      have d1 := depT t.pre
      have d2 := depT t.cyc
      simp only [List.map_cons, PyData.depthAll, pTkO, PyData.depth] at ih ⊢
      omega
theorem shp_os : SeqAt.shaped (.list (os.map pTkO)) = true := by
  have d := dep_os (os := os)
  simp [SeqAt.shaped, PyData.canLay0, lay_os ok, PyData.depth]
  omega
omit ok in
theorem py_os (h : OH) : pyAt h (.lst (os.map dLO)) = some (.list (os.map pTkO)) := by
  have : ∀ get, pyGL get (os.map dLO) = some (os.map pTkO) := by
    intro get
    induction os with
    | nil => rfl
    | cons o os ih => cases o <;> simp [pyGL, dLO, dTk, pTkO, ih, pyG, pyT]
  simp [pyAt, pyG, this]
theorem W_noneO (h : OH) {PD : D → OH → Prop} : (opInD false .non (.lst (os.map dLO)) h).W PD = PD (.bl (fN os).isSome) h := by
  have any : ((os.map pTkO).any fun z => PyData.eqv z .none) = (fN os).isSome := by
    clear ok
    induction os with
    | nil => rfl
    | cons o os ih =>
      rw [List.map_cons, List.any_cons, ih]
      cases o with
      | none => simp [pTkO, PyData.eqv, fN]
      | some p => simp [pTkO, PyData.eqv, fN]
  unfold opInD
  rw [show pyAt h .non = some .none from rfl, py_os]
  dsimp only
  rw [show SeqAt.shaped .none = true from rfl, shp_os ok, any]
  rfl
theorem W_idxO {i : Nat} (e : fN os = some i) (h : OH) {PD : D → OH → Prop} : (opIdxD (.lst (os.map dLO)) .non h).W PD = PD (.int (i : Nat)) h := by
  have ix : idxP .none (os.map pTkO) = fN os := by
    clear ok e
    induction os with
    | nil => rfl
    | cons o os ih =>
      cases o with
      | none => simp [idxP, pTkO, PyData.eqv, fN]
      | some p => simp [idxP, pTkO, PyData.eqv, fN, ih]
  unfold opIdxD
  rw [show pyAt h .non = some .none from rfl, py_os]
  dsimp only
  rw [show SeqAt.shaped .none = true from rfl, shp_os ok, ix, e]
  rfl
end
theorem W_sIdxD (o : SE) (a : SA) (e : Env') (h : OH) {PD : D → OH → Prop} : (sIdxD o a e h).W PD = (o e h).W fun x h1 => if (lsqAt h1 x).isSome then (a e h1).W fun ys h2 => (match ys with
  | [y] => (opIdxD x y h2).W PD
  | _ => False) else False := by
  unfold sIdxD
  rw [W_bind]
  congr; funext x h1
  split
  · rw [W_bind]
    congr; funext ys h2
    match ys with
    | [] => rfl
    | [_] => rfl
    | _ :: _ :: _ => rfl
  · rfl
/-! ### what is a hall -/
def namesN (ts : List Tk) : Nat := (ddK [] ((ts.map (·.name)).map (Sum.inr : Str → Key))).length
def okP (p : Int × Int) : Bool := (decide (1 ≤ p.1) && decide (p.1 ≤ T30)) && (decide (1 ≤ p.2) && decide (p.2 ≤ T30))
def tkB (t : Tk) : Bool := (decide (1 ≤ t.rank) && decide (t.rank ≤ 10)) && (decide (t.pre.length ≤ 8) && (decide (t.cyc.length ≤ 8) && (t.pre ++ t.cyc).all okP))
def hallB (ts : List Tk) : Bool := decide (ts.length ≤ 10) && (decide (namesN ts = ts.length) && ts.all tkB)
theorem talk_okP (p : Int × Int) : isTalkD (dT p) = okP p := by simp [isTalkD, dT, sqD, isIntD, okP]
theorem talker_tkB {t : Tk} (g : LOk t) : isTalkerD (dTk t) = tkB t := by
  have e1 : areTalksD 0 (.lst (t.pre.map dT)) = (decide (t.pre.length ≤ 8) && t.pre.all okP) := by
    simp only [areTalksD, sqD, List.length_map, List.all_map, Nat.zero_le, decide_true, Bool.true_and]
    congr 2
    funext p
    exact talk_okP p
  have e2 : areTalksD 1 (.lst (t.cyc.map dT)) = (decide (t.cyc.length ≤ 8) && t.cyc.all okP) := by
    simp only [areTalksD, sqD, List.length_map, List.all_map, g.lc1, decide_true, Bool.true_and]
    congr 2
    funext p
    exact talk_okP p
  show (isNameD (.str t.name) && (isIntD 1 10 (.int t.rank) && (areTalksD 0 (.lst (t.pre.map dT)) && areTalksD 1 (.lst (t.cyc.map dT))))) = tkB t
  rw [g.nm, e1, e2]
  unfold tkB
  rw [List.all_append]
  show (true && ((decide (1 ≤ t.rank) && decide (t.rank ≤ 10)) && _)) = _
  cases (decide (1 ≤ t.rank) && decide (t.rank ≤ 10)) <;> cases decide (t.pre.length ≤ 8) <;> cases decide (t.cyc.length ≤ 8) <;> cases t.pre.all okP <;> rfl
theorem hall_B {ts : List Tk} (g : ∀ t ∈ ts, LOk t) : isHallD (.lst (ts.map dTk)) = hallB ts := by
  have e1 : (ts.map dTk).all isTalkerD = ts.all tkB := by
    rw [List.all_map, Bool.eq_iff_iff, List.all_eq_true, List.all_eq_true]
    exact ⟨fun h t ht => by have := h t ht; rw [← talker_tkB (g t ht)]; exact this, fun h t ht => by show isTalkerD (dTk t) = true; rw [talker_tkB (g t ht)]; exact h t ht⟩
  have e2 : namesOk (ts.map dTk) = decide (namesN ts = ts.length) := by
    have : (ts.map dTk).map nmD = ts.map (·.name) := by
      rw [List.map_map]
      rfl
    unfold namesOk namesN
    rw [this, List.length_map]
  show (decide ((ts.map dTk).length ≤ 10) && ((ts.map dTk).all isTalkerD && namesOk (ts.map dTk))) = hallB ts
  rw [e1, e2, List.length_map]
  unfold hallB
  cases decide (ts.length ≤ 10) <;> cases decide (namesN ts = ts.length) <;> cases ts.all tkB <;> rfl
theorem sz_T (ts : List (Int × Int)) : szL (ts.map dT) = true := by
  induction ts with
  | nil => rfl
  | cons p ts ih => simp [szL, dT, szD, ih]
theorem name_len {x : Str} (h : isNameD (.str x) = true) : x.length ≤ 8 := by
  unfold isNameD at h
  simp only [Bool.and_eq_true, decide_eq_true_eq] at h
  exact h.2.1
theorem sz_hall {ts : List Tk} (g : ∀ t ∈ ts, LOk t) (l : ts.length ≤ 1000) : szD (.lst (ts.map dTk)) = true := by
  have : szL (ts.map dTk) = true := by
    clear l
    induction ts with
    | nil => rfl
    | cons t ts ih =>
      have := ih fun u hu => g u (List.mem_cons_of_mem _ hu)
      have gt := g t (List.mem_cons_self ..)
      have l1 := gt.lp
      have l2 := gt.lc
      have l3 := name_len gt.nm
      have l3' : t.name.length ≤ 1000 := by omega
      simp [szL, dTk, szD, this, sz_T, l1, l2, l3']
  simp [szD, this, l]
end HR
set_option Elab.async false
set_option linter.all false
set_option maxRecDepth 20000
set_option exponentiation.threshold 5000
namespace HR
open PySem L2
theorem W_le3 {fa fb fc fd : SE} {e : Env'} {h : OH} {a b c d : Int} (ea : fa e h = .ok (.int a) h) (eb : fb e h = .ok (.int b) h) (ec : fc e h = .ok (.int c) h) (ed : fd e h = .ok (.int d) h) {PB : Bool → OH → Prop} :
    (sChain3 fa fb fc fd e h).W PB = PB (decide (a ≤ b) && (decide (b ≤ c) && decide (c ≤ d))) h := by
  have le : ∀ (x y : Int) (h : OH), opLe (.int x) (.int y) h = .ok (.bl (decide (x ≤ y))) h := fun _ _ _ => rfl
  have q : sChain3 fa fb fc fd e h = .ok (decide (a ≤ b) && (decide (b ≤ c) && decide (c ≤ d))) h := by
    have bo : ∀ {α β : Type} (x : α) (h : OH) (f : α → OH → Res β), (Res.ok x h).bind f = f x h := fun _ _ _ => rfl
    unfold sChain3
    rw [ea, bo, eb, bo, le, bo]
    cases q1 : decide (a ≤ b) with
    | false => rfl
    | true =>
      dsimp only [isBlT]
      rw [ec, bo, le, bo]
      cases q2 : decide (b ≤ c) with
      | false => rfl
      | true =>
        dsimp only [isBlT]
        rw [ed, bo, le, bo]
        cases q3 : decide (c ≤ d) <;> rfl
  rw [q]
  rfl
theorem okP_mm (p : Int × Int) : (decide (1 ≤ minI p.1 [p.2]) && (decide (minI p.1 [p.2] ≤ maxI p.1 [p.2]) && decide (maxI p.1 [p.2] ≤ T30))) = okP p := by
  rw [minI_two, maxI_two]
  unfold okP
  rw [Bool.eq_iff_iff]
  simp only [Bool.and_eq_true, decide_eq_true_eq]
  omega
set_option maxHeartbeats 1000000 in
theorem lhall_any {ts : List Tk} (g : ∀ t ∈ ts, LOk t) (l : ts.length ≤ 1000) (h : OH) : pureF Sh.l_is_hall [.lst (ts.map dTk)] h = .ok (.bl (hallB ts)) h := by
  refine pure_eq h (by simp) rfl ?_
  unfold Sh.l_is_hall; rw [W_fn]; unfold Sh.l_is_hall_b
  refine SW_seqK fun K hK => ?_
  simp
  by_cases c1 : ts.length ≤ 10
  · have c1' : ¬ (10 : Int) < ts.length := by omega
    simp [c1', sLenSet, wipeD]
    refine W_lcMap1 ts dTk (fun t => .str t.name) [] (by simp only [big]; omega) (fun t ht => ⟨_, rfl, by simp [dTk]⟩) ?_
    have em : ts.map (fun t => D.str t.name) = (ts.map (·.name)).map D.str := by simp
    have kk : keysOf (ts.map fun t => D.str t.name) = some ((ts.map (·.name)).map Sum.inr) := by
      rw [em]
      exact keys_strs _
    have l3 : ts.length ≤ 4000 := by omega
    have nle : namesN ts ≤ ts.length := by
      have := ddK_le ((ts.map (·.name)).map (Sum.inr : Str → Key)) []
      simpa [namesN] using this
    have en : (ddK [] (List.map Sum.inr (ts.map (·.name)))).length = namesN ts := rfl
    have en2 : (ddK [] (List.map (Sum.inr ∘ fun t : Tk => t.name) ts)).length = namesN ts := by
      unfold namesN
      rw [List.map_map]
    simp [lsqAt, seqAt, kk, l3, en, en2]
    by_cases c2 : namesN ts < ts.length
    · have : hallB ts = false := by
        have : ¬ namesN ts = ts.length := by omega
        simp [hallB, this]
      simp [c2, this]
    · simp [c2]
      refine hK _ _ ?_
      clear hK K
      have c3 : namesN ts = ts.length := by omega
      have eh : hallB ts = ts.all tkB := by simp [hallB, c1, c3]
      rw [eh]
      refine SW_seqK fun K hK => ?_
      simp
      refine W_forL (fun j e h' => h' = [] ∧ (∀ k t, ts[k]? = some t → k < j → tkB t = true) ∧ ∃ a1 a2 a3 a4 a5 : Option D, e = [some (.lst (ts.map dTk)), a1, a2, a3, a4, a5, none]) _ _ _ ⟨rfl, fun _ _ _ z => absurd z (Nat.not_lt_zero _), _, _, _, _, _, rfl⟩ (fun j d hd e h hI => ?_) (fun e h hI => ?_)
      · obtain ⟨rfl, al, a1, a2, a3, a4, a5, rfl⟩ := hI
        rw [List.getElem?_map, Option.map_eq_some_iff] at hd
        obtain ⟨t, ht, rfl⟩ := hd
        have gt := g t (List.mem_of_getElem? ht)
        have bad : tkB t = false → ts.all tkB = false := fun z => by
          rw [List.all_eq_false]
          exact ⟨t, List.mem_of_getElem? ht, by rw [z]; decide⟩
        refine ⟨_, rfl, ?_⟩
        refine SW_seqK fun K2 hK2 => ?_
        have lp := gt.lp
        have lc := gt.lc
        simp [W_lenL]
        by_cases r1 : (1 : Int) ≤ t.rank
        · by_cases r2 : t.rank ≤ 10
          · by_cases p1 : t.pre.length ≤ 8
            · by_cases p2 : t.cyc.length ≤ 8
              · have p1' : ¬ (8 : Int) < t.pre.length := by omega
                have p2' : ¬ (8 : Int) < t.cyc.length := by omega
                simp [r1, r2, p1', p2']
                refine hK2 _ _ ?_
                clear hK2 K2
                have et : tkB t = (t.pre ++ t.cyc).all okP := by simp [tkB, r1, r2, p1, p2]
                rw [p1030]
                simp [wipeD]
                refine ⟨by omega, ?_⟩
                rw [← List.map_append]
                have bl : (t.pre ++ t.cyc).length ≤ big := by rw [List.length_append]; simp only [big]; omega
                refine W_lcMap (t.pre ++ t.cyc) dT (fun p => !okP p) dT [] bl (fun p hp => ⟨_, rfl, ?_⟩) ?_
                · simp
                  rw [W_le3 (a := 1) (b := minI p.1 [p.2]) (c := maxI p.1 [p.2]) (d := T30) rfl rfl rfl rfl, okP_mm]
                  simp
                · by_cases ok : (t.pre ++ t.cyc).all okP = true
                  · have ef : (t.pre ++ t.cyc).filter (fun p => !okP p) = [] := by
                      rw [List.filter_eq_nil_iff]
                      intro x hx
                      simp [List.all_eq_true.mp ok x hx]
                    rw [ef, List.map_nil, if_pos rfl]
                    refine ⟨rfl, fun k u hk hj => ?_⟩
                    by_cases kj : k = j
                    · subst kj
                      rw [ht] at hk
                      cases hk
                      rw [et]
                      exact ok
                    · exact al k u hk (by omega)
                  · have ok' : (t.pre ++ t.cyc).all okP = false := by simpa using ok
                    have ef : ¬ ((t.pre ++ t.cyc).filter fun p => !okP p).map dT = [] := fun z => by
                      rw [List.map_eq_nil_iff, List.filter_eq_nil_iff] at z
                      exact ok (List.all_eq_true.mpr fun x hx => by simpa using z x hx)
                    rw [if_neg ef]
                    exact ⟨t, List.mem_of_getElem? ht, by rw [et]; exact ok'⟩
              · have p1' : ¬ (8 : Int) < t.pre.length := by omega
                have p2' : (8 : Int) < t.cyc.length := by omega
                have z : tkB t = false := by simp [tkB, p2]
                simp [r1, r2, p1', p2']
                exact ⟨t, List.mem_of_getElem? ht, z⟩
            · have p1' : (8 : Int) < t.pre.length := by omega
              have z : tkB t = false := by simp [tkB, p1]
              simp [r1, r2, p1']
              exact ⟨t, List.mem_of_getElem? ht, z⟩
          · have z : tkB t = false := by simp [tkB, r2]
            simp [r1, r2]
            exact ⟨t, List.mem_of_getElem? ht, z⟩
        · have z : tkB t = false := by simp [tkB, r1]
          simp [r1]
          exact ⟨t, List.mem_of_getElem? ht, z⟩
      · obtain ⟨rfl, al, a1, a2, a3, a4, a5, rfl⟩ := hI
        refine hK _ _ ?_
        simp
        intro t ht
        obtain ⟨k, hk⟩ := List.mem_iff_getElem?.mp ht
        have := (List.getElem?_eq_some_iff.mp hk).1
        exact al k t hk (by simpa using this)
  · have c1' : (10 : Int) < ts.length := by omega
    simp [c1', hallB, c1]
end HR
set_option Elab.async false
set_option linter.all false
set_option maxRecDepth 20000
set_option exponentiation.threshold 5000
namespace HR
open PySem L2
/-! ### runs that raise -/
theorem out56 {s : SS} {e : Env'} {h : OH} {N : Env' → OH → Prop} (w : (s e h).W N (fun _ _ => False) (fun _ _ => False) (fun _ _ => False)) : ∃ e1 h1, s e h = .nx e1 h1 ∧ N e1 h1 := by
  cases q : s e h with
  | nx e1 h1 => rw [q] at w; exact ⟨e1, h1, rfl, w⟩
  | rt d h1 => rw [q] at w; exact w.elim
  | bk e1 h1 => rw [q] at w; exact w.elim
  | ct e1 h1 => rw [q] at w; exact w.elim
  | exc C p e1 h1 => rw [q] at w; exact w.elim
  | bad => rw [q] at w; exact w.elim
theorem nx56 {f g : SS} {e e1 : Env'} {h h1 : OH} (q : f e h = .nx e1 h1) : sSeq f g e h = g e1 h1 := by unfold sSeq; rw [q]
theorem exc56 {f g : SS} {e e1 : Env'} {h h1 : OH} {C : String} {p : Pay} (q : f e h = .exc C p e1 h1) : sSeq f g e h = .exc C p e1 h1 := by unfold sSeq; rw [q]
theorem ift56 {t : ST} {a b : SS} {e : Env'} {h h1 : OH} (q : t e h = .ok true h1) : sIfS t a b e h = a e h1 := by unfold sIfS; rw [q]; rfl
theorem fne56 {n : Nat} {b : SS} {ds : List D} {h h1 : OH} {e1 : Env'} {C : String} {p : Pay} (q : b (ds.map some ++ List.replicate (n - ds.length) none) h = .exc C p e1 h1) : fnOf n b ds h = .exc C p h1 := by unfold fnOf; rw [q]
theorem eq56 {α : Type} {r : Res α} {x : α} {h : OH} (w : r.W fun d h' => d = x ∧ h' = h) : r = .ok x h := by
  obtain ⟨d, h', e, rfl, rfl⟩ := w.out
  exact e
theorem for56 {it : SA} {g : TF} {b : SS} {e : Env'} {h h1 : OH} {ds : List D} (q : it e h = .ok ds h1) : sFor it g b e h = forL g b ds e h1 := by
  unfold sFor
  rw [q]
  rfl
theorem forL_exc {g : TF} {b : SS} {C : String} {p : Pay} (I : Nat → Env' → OH → Prop) : ∀ (ds : List D) (k j0 : Nat) (e : Env') (h : OH), I j0 e h → k < ds.length →
    (∀ i d e h, i < k → ds[i]? = some d → I (j0 + i) e h → ∃ e1, g d e h = some e1 ∧ ∃ e2 h2, b e1 h = .nx e2 h2 ∧ I (j0 + i + 1) e2 h2) →
    (∀ d e h, ds[k]? = some d → I (j0 + k) e h → ∃ e1, g d e h = some e1 ∧ ∃ e2 h2, b e1 h = .exc C p e2 h2) → ∃ e2 h2, forL g b ds e h = .exc C p e2 h2
  | [], k, j0, e, h, _, hk, _, _ => by simp at hk
  | d :: ds, 0, j0, e, h, hI, hk, _, bad => by
    obtain ⟨e1, g1, e2, h2, q⟩ := bad d e h rfl hI
    refine ⟨e2, h2, ?_⟩
    unfold forL
    rw [g1]
    dsimp only
    rw [q]
  | d :: ds, k + 1, j0, e, h, hI, hk, good, bad => by
    obtain ⟨e1, g1, e2, h2, q, hI2⟩ := good 0 d e h (Nat.succ_pos k) rfl hI
    obtain ⟨e3, h3, r⟩ := forL_exc I ds k (j0 + 1) e2 h2 hI2 (by simpa using hk) (fun i d e h hi hd hI => by
      have := good (i + 1) d e h (by omega) (by simpa using hd) (by rw [show j0 + (i + 1) = j0 + 1 + i by omega]; exact hI)
      rw [show j0 + (i + 1) + 1 = j0 + 1 + i + 1 by omega] at this
      exact this) (fun d e h hd hI => bad d e h (by simpa using hd) (by rw [show j0 + (k + 1) = j0 + 1 + k by omega]; exact hI))
    refine ⟨e3, h3, ?_⟩
    unfold forL
    rw [g1]
    dsimp only
    rw [q]
    exact r
/-! ### the lines of a text -/
def linesV (l : List Nat) : List (Option Tk) := if l = [] then [] else (sp 10 l).map fun x => lineW (sp 32 x)
def tks (os : List (Option Tk)) : List Tk := os.filterMap id
def errT (x : Str) : Str := ("error " : Str) ++ x
def hallR (l : List Nat) : D := match fN (linesV l) with
  | some i => .str (errT (strI (i : Nat)))
  | none => if hallB (tks (linesV l)) then .lst ((tks (linesV l)).map dTk) else .str (errT "None")
theorem fN_none {os : List (Option Tk)} (h : fN os = none) : os = (tks os).map some := by
  induction os with
  | nil => rfl
  | cons o os ih =>
    cases o with
    | none => cases h
    | some t =>
      simp only [fN, Option.map_eq_none_iff] at h
      have e := ih h
      show some t :: os = (t :: tks os).map some
      rw [List.map_cons, ← e]
theorem fN_at : ∀ {os : List (Option Tk)} {i : Nat}, fN os = some i → os[i]? = some none ∧ ∀ j, j < i → ∃ t, os[j]? = some (some t)
  | [], i, h => by cases h
  | none :: os, i, h => by
    cases h
    exact ⟨rfl, fun j hj => absurd hj (Nat.not_lt_zero _)⟩
  | some t :: os, i, h => by
    simp only [fN, Option.map_eq_some_iff] at h
    obtain ⟨k, hk, rfl⟩ := h
    obtain ⟨h1, h2⟩ := fN_at hk
    refine ⟨h1, fun j hj => ?_⟩
    cases j with
    | zero => exact ⟨t, rfl⟩
    | succ j => exact h2 j (by omega)
section
variable {l : List Nat} (w : Okl l)
include w
theorem lines_ok : ∀ t, some t ∈ linesV l → LOk t := fun t ht => by
  unfold linesV at ht
  split at ht
  · cases ht
  · obtain ⟨x, hx, e⟩ := List.mem_map.mp ht
    exact (line_ok (w.part hx) e).1
theorem tks_ok : ∀ t ∈ tks (linesV l), LOk t := fun t ht => by
  unfold tks at ht
  rw [List.mem_filterMap] at ht
  obtain ⟨o, ho, e⟩ := ht
  cases e
  exact lines_ok w t ho
theorem lines_len : (linesV l).length ≤ 4001 := by
  unfold linesV
  split
  · simp
  · rw [List.length_map]
    have := sp_len 10 l
    have := w.len
    omega
theorem tks_len (h : fN (linesV l) = none) : (tks (linesV l)).length ≤ 1000 := by
  have e := congrArg List.length (fN_none h)
  rw [List.length_map] at e
  rw [← e]
  unfold linesV at h ⊢
  split
  · simp
  · rename_i c
    rw [if_neg c] at h
    rw [List.length_map]
    have s := sp_sum 10 l
    have g : ∀ p ∈ sp 10 l, 4 ≤ p.length + 1 := fun p hp => by
      cases q : lineW (sp 32 p) with
      | none =>
        have : none ∈ (sp 10 l).map fun x => lineW (sp 32 x) := List.mem_map.mpr ⟨p, hp, q⟩
        have := (fN_mem _).mpr this
        rw [h] at this
        cases this
      | some t => exact (line_ok (w.part hp) q).2
    have := sumParts 4 _ g
    have := w.len
    omega
end
theorem log_small {n : Nat} (h : n ≤ 10000) : n.log2 < 1920 := by
  by_cases z : n = 0
  · subst z
    decide
  · exact (Nat.log2_lt z).mpr (Nat.lt_of_lt_of_le (show n < 2 ^ 14 by omega) (Nat.pow_le_pow_right (by decide) (by decide)))
theorem strI_len {n : Nat} (h : n ≤ 9999) : (strI (n : Int)).length ≤ 4 := by
  have : (strI (n : Int)).cps.toList.length ≤ 4 := by
    rw [strI_signs, List.length_map]
    exact digits_len 4 n (by decide) (by omega)
  simpa [Str.length] using this
theorem W_err {n : Nat} (hn : n ≤ 9999) (h : OH) {PD : D → OH → Prop} : (opAdd (.str (Str.ofString "error ")) (.str (strI (n : Int))) h).W PD = PD (.str (errT (strI (n : Int)))) h := by
  have := strI_len hn
  have l6 : (Str.ofString "error ").length = 6 := by decide +kernel
  rw [W_addTx, if_pos (by rw [l6]; omega)]
  rfl
theorem hallR_pure (l : List Nat) : (hallR l).pure = true := by
  unfold hallR
  split
  · rfl
  · split
    · simp
    · rfl
theorem lhallof_any {l : List Nat} (w : Okl l) (h : OH) : pureF Sh.l_hall_of_1 [.str (SX.S l)] h = .ok (hallR l) h := by
  refine pure_eq h rfl (hallR_pure l) ?_
  unfold Sh.l_hall_of_1; rw [W_fn]; unfold Sh.l_hall_of_1_b
  have e0 : (Str.ofString "") = SX.S [] := rfl
  have en : Str.ofString "\n" = SX.S [10] := rfl
  have lo := lines_ok w
  have ll := lines_len w
  have ok := fun t ht => (lo t ht).ok
  have fin : ∀ (a2 : Option D) (N C B : Env' → OH → Prop), ((sSeq (sIfS (sTest (sBin (opInD false) (sC .non) (sVar 1))) (sRet (sBin opAdd (sC (.str "error ")) (sCall (b1 opStrI) (sCons (sIdxD (sVar 1) (sCons (sC .non) sNil)) sNil)))) sNext) (sRet (sIf (sTest (sCall (withD [] (pureF Sh.l_is_hall)) (sCons (sVar 1) sNil))) (sVar 1) (sC (.str "error None"))))) [some (.str (SX.S l)), some (.lst ((linesV l).map dLO)), a2] []).W N C B fun d _ => d = hallR l := fun a2 N C B => by
    refine SW_seqK fun K hK => ?_
    simp [W_noneO ok]
    cases q : fN (linesV l) with
    | some i =>
      have hi : i < (linesV l).length := (List.getElem?_eq_some_iff.mp (fN_at q).1).1
      simp [W_sIdxD, lsqAt, seqAt, W_idxO ok q, W_strI (i := (i : Nat)) (log_small (n := i) (by omega)), W_err (n := i) (by omega)]
      simp [hallR, q]
    | none =>
      have e := fN_none q
      have tk := tks_ok w
      have tl := tks_len w q
      simp
      refine hK _ _ ?_
      clear hK K
      have em : (linesV l).map dLO = (tks (linesV l)).map dTk := by
        conv => lhs; rw [e]
        rw [List.map_map]
        rfl
      rw [em]
      simp [lhall_any tk tl]
      have eR : hallR l = if hallB (tks (linesV l)) then .lst ((tks (linesV l)).map dTk) else .str (errT "None") := by simp [hallR, q]
      rw [eR]
      by_cases hb : hallB (tks (linesV l)) = true
      · simp [hb]
      · simp [hb]
        rfl
  refine SW_seqK fun K hK => ?_
  by_cases c : l = []
  · subst c
    simp [e0, W_eqTS]
    refine hK _ _ ?_
    exact fin _ _ _ _
  · simp [e0, W_eqTS, c, en, W_sp (c := 10) (by decide) w, wipeD]
    have sl : (sp 10 l).length ≤ big := by have := sp_len 10 l; have := w.len; simp only [big]; omega
    refine W_lcMap1 (sp 10 l) (fun x => D.str (SX.S x)) (fun x => dLO (lineW (sp 32 x))) [] sl (fun x hx => ⟨_, rfl, by simp [lline_any (w.part hx)]⟩) ?_
    refine hK _ _ ?_
    have em : ((sp 10 l).map fun x => dLO (lineW (sp 32 x))) = (linesV l).map dLO := by
      unfold linesV
      rw [if_neg c, List.map_map]
      rfl
    rw [em]
    exact fin _ _ _ _
end HR
set_option Elab.async false
set_option linter.all false
set_option maxRecDepth 20000
set_option exponentiation.threshold 5000
namespace HR
open PySem L2
theorem pexc56 {f : FN} {ds : List D} {C : String} {q : String × D} {h h1 : OH} (p : D.pureL ds = true) (e : f ds [] = .exc C (some q) h1) (z : q.2.pure = true) : pureF f ds h = .exc C (some q) h := by
  unfold pureF
  rw [if_pos p, e]
  dsimp only
  rw [if_pos z]
theorem snap_dT (get : Nat → Option (List D)) (ts : List (Int × Int)) : snapG get (.lst (ts.map dT)) = some (.lst (ts.map dT)) := by
  refine snap_sq (xs := ts.map dT) rfl fun x hx => ?_
  obtain ⟨p, _, rfl⟩ := List.mem_map.mp hx
  exact snap_sq (xs := [.int p.1, .int p.2]) rfl fun x hx => by
    simp only [List.mem_cons, List.not_mem_nil, or_false] at hx
    rcases hx with rfl | rfl <;> rfl
theorem snap_dTk (get : Nat → Option (List D)) (ts : List Tk) : snapGL get (ts.map dTk) = some (ts.map dTk) := snap_all fun x hx => by
  obtain ⟨t, _, rfl⟩ := List.mem_map.mp hx
  refine snap_sq (xs := [.str t.name, .int t.rank, .lst (t.pre.map dT), .lst (t.cyc.map dT)]) rfl fun x hx => ?_
  simp only [List.mem_cons, List.not_mem_nil, or_false] at hx
  rcases hx with rfl | rfl | rfl | rfl
  · rfl
  · rfl
  · exact snap_dT _ _
  · exact snap_dT _ _
theorem snap_own {h : OH} {i : Nat} {ts : List Tk} (e : h[i]? = some (.lst (ts.map dTk))) : snapGL (snapGet h 5) [.ref i] = some [.lst (ts.map dTk)] := by
  have : snapGet h 5 i = some (ts.map dTk) := by
    rw [snapGet, e]
    exact snap_dTk _ ts
  simp [snapGL, snapG, this]
def HF : SS := (sSeq (sSet 4 (sCall (withD [] (pureF Sh.talker_in_1)) (sCons (sVar 3) sNil))) (sSeq (sIfS (sTest (sBin (opIs false) (sVar 4) (sC .non))) (sRaiseF "InvalidText" "line" (sVar 2)) sNext) (sExpr (sMtO gAppend (sVar 1) (sCons (sVar 4) sNil)))))
def HG : TF := gT 2 (gCs (gN 2) (gCs (gN 3) gNl))
def lnsD (l : List Nat) : List D := if l = [] then [] else (sp 10 l).map fun p => .str (SX.S p)
section
variable {l : List Nat} (w : Okl l)
include w
omit w in
theorem lns_at {j : Nat} {d : D} (hd : (enumD (lnsD l))[j]? = some d) : ∃ p, l ≠ [] ∧ p ∈ sp 10 l ∧ d = .tup [.int (j : Nat), .str (SX.S p)] ∧ (linesV l)[j]? = some (lineW (sp 32 p)) := by
  simp only [enumD, List.getElem?_mapIdx, Option.map_eq_some_iff] at hd
  obtain ⟨y, hy, rfl⟩ := hd
  unfold lnsD at hy
  split at hy
  · cases hy
  · rename_i c
    rw [List.getElem?_map, Option.map_eq_some_iff] at hy
    obtain ⟨p, hp, rfl⟩ := hy
    refine ⟨p, c, List.mem_of_getElem? hp, rfl, ?_⟩
    unfold linesV
    rw [if_neg c, List.getElem?_map, hp]
    rfl
omit w in
theorem lns_len : (enumD (lnsD l)).length = (linesV l).length := by
  unfold lnsD linesV enumD
  split <;> simp
def IL (l : List Nat) (j : Nat) (e : Env') (h : OH) : Prop := h = [.lst (((linesV l).take j).map dLO)] ∧ ∃ a b c : Option D, e = [some (.str (SX.S l)), some (.ref 0), a, b, c]
theorem hall_good {j : Nat} {d : D} {e : Env'} {h : OH} {t : Tk} (hd : (enumD (lnsD l))[j]? = some d) (hI : IL l j e h) (ht : (linesV l)[j]? = some (some t)) {C B : Env' → OH → Prop} {R : D → OH → Prop} : ∃ e1, HG d e h = some e1 ∧ (HF e1 h).W (IL l (j + 1)) C B R := by
  obtain ⟨rfl, a, b, c, rfl⟩ := hI
  obtain ⟨p, c0, hp, rfl, e2⟩ := lns_at hd
  have e3 : lineW (sp 32 p) = some t := by
    rw [ht] at e2
    exact (Option.some.inj e2).symm
  refine ⟨_, rfl, ?_⟩
  unfold HF
  have tk := talker_any (w.part hp)
  rw [e3] at tk
  have ll := lines_len w
  have lk : ((linesV l).take j).length ≤ 4001 := by rw [List.length_take]; omega
  have hl : (((linesV l).take j).map dLO).length ≤ 4001 := by rw [List.length_map]; exact lk
  have em : ((linesV l).take (j + 1)).map dLO = ((linesV l).take j).map dLO ++ [dTk t] := by
    rw [List.take_add_one, ht]
    simp [dLO]
  unfold IL
  rw [em]
  generalize ((linesV l).take j).map dLO = Q at hl ⊢
  refine SW_seqK fun K hK => ?_
  simp [tk]
  refine hK _ _ ?_
  clear hK K
  simp [dLO, dTk]
  omega
theorem hall_bad {j : Nat} {d : D} {e : Env'} {h : OH} (hd : (enumD (lnsD l))[j]? = some d) (hI : IL l j e h) (ht : (linesV l)[j]? = some none) : ∃ e1, HG d e h = some e1 ∧ ∃ e2 h2, HF e1 h = .exc "InvalidText" (some ("line", .int (j : Nat))) e2 h2 := by
  obtain ⟨rfl, a, b, c, rfl⟩ := hI
  obtain ⟨p, c0, hp, rfl, e2⟩ := lns_at hd
  have e3 : lineW (sp 32 p) = none := by
    rw [ht] at e2
    exact (Option.some.inj e2).symm
  have tk := talker_any (w.part hp)
  rw [e3] at tk
  refine ⟨_, rfl, ?_⟩
  unfold HF
  generalize ((linesV l).take j).map dLO = Q
  have s1 : sSet 4 (sCall (withD [] (pureF Sh.talker_in_1)) (sCons (sVar 3) sNil)) [some (.str (SX.S l)), some (.ref 0), some (.int (j : Nat)), some (.str (SX.S p)), c] [.lst Q] = .nx [some (.str (SX.S l)), some (.ref 0), some (.int (j : Nat)), some (.str (SX.S p)), some .non] [.lst Q] := by
    obtain ⟨e1, h1, q, z1, z2⟩ := out56 (s := sSet 4 (sCall (withD [] (pureF Sh.talker_in_1)) (sCons (sVar 3) sNil))) (e := [some (.str (SX.S l)), some (.ref 0), some (.int (j : Nat)), some (.str (SX.S p)), c]) (h := [.lst Q]) (N := fun e h => e = [some (.str (SX.S l)), some (.ref 0), some (.int (j : Nat)), some (.str (SX.S p)), some .non] ∧ h = [.lst Q]) (by simp [tk, dLO])
    rw [q, z1, z2]
  refine ⟨[some (.str (SX.S l)), some (.ref 0), some (.int (j : Nat)), some (.str (SX.S p)), some .non], [.lst Q], (nx56 s1).trans (exc56 ((ift56 (h1 := [.lst Q]) (eq56 ?_)).trans ?_))⟩
  · simp
  · rfl
end
def HIT : SA := sEnum (sCons (sIf (sTest (sBin (opEqT true) (sVar 0) (sC (.str "")))) (sM1 opSplit (sVar 0) (sC (.str "\n"))) (sLst sNil)) sNil)
def HR3 : SS := (sSeq (sIfS (sNot (sTest (sCall (withD [] (lendF Sh.is_hall)) (sCons (sVar 1) sNil)))) (sRaiseF "InvalidText" "line" (sC .non)) sNext) (sRet (frzE (sVar 1))))
theorem parse_b : Sh.parse_hall_1_b = (sSeq (sIfS (sNot (sTest (sIsi ["str"] (sVar 0)))) (sRaiseF "InvalidText" "line" (sC .non)) sNext) (sSeq (sSet 1 (sLstO sNil)) (sSeq (sFor HIT HG HF) HR3))) := rfl
section
variable {l : List Nat} (w : Okl l)
include w
theorem hit_ok (a b c : Option D) (h : OH) : HIT [some (.str (SX.S l)), some (.ref 0), a, b, c] h = .ok (enumD (lnsD l)) h := by
  refine eq56 ?_
  unfold HIT
  have e0 : (Str.ofString "") = SX.S [] := rfl
  have en : Str.ofString "\n" = SX.S [10] := rfl
  by_cases c : l = []
  · subst c
    simp [e0, W_eqTS, lnsD]
  · simp [e0, en, W_eqTS, c, W_sp (c := 10) (by decide) w, lnsD]
theorem pre_ok : ∃ e1, (sIfS (sNot (sTest (sIsi ["str"] (sVar 0)))) (sRaiseF "InvalidText" "line" (sC .non)) sNext) [some (.str (SX.S l)), none, none, none, none] [] = .nx e1 [] ∧ (sSet 1 (sLstO sNil)) e1 [] = .nx [some (.str (SX.S l)), some (.ref 0), none, none, none] [.lst []] := by
  obtain ⟨e1, h1, q, z1, z2⟩ := out56 (s := (sIfS (sNot (sTest (sIsi ["str"] (sVar 0)))) (sRaiseF "InvalidText" "line" (sC .non)) sNext)) (e := [some (.str (SX.S l)), none, none, none, none]) (h := []) (N := fun e h => e = [some (.str (SX.S l)), none, none, none, none] ∧ h = []) (by simp)
  refine ⟨[some (.str (SX.S l)), none, none, none, none], by rw [q, z1, z2], ?_⟩
  obtain ⟨e1, h1, q, z1, z2⟩ := out56 (s := (sSet 1 (sLstO sNil))) (e := [some (.str (SX.S l)), none, none, none, none]) (h := []) (N := fun e h => e = [some (.str (SX.S l)), some (.ref 0), none, none, none] ∧ h = [.lst []]) (by simp)
  rw [q, z1, z2]
theorem parse_bad {i : Nat} (q : fN (linesV l) = some i) (h : OH) : pureF Sh.parse_hall_1 [.str (SX.S l)] h = .exc "InvalidText" (some ("line", .int (i : Nat))) h := by
  obtain ⟨e1, p1, p2⟩ := pre_ok w
  obtain ⟨f1, f2⟩ := fN_at q
  have hi : i < (linesV l).length := (List.getElem?_eq_some_iff.mp f1).1
  obtain ⟨e3, h3, r⟩ := forL_exc (g := HG) (b := HF) (C := "InvalidText") (p := some ("line", .int (i : Nat))) (IL l) (enumD (lnsD l)) i 0 [some (.str (SX.S l)), some (.ref 0), none, none, none] [.lst []] ⟨by simp, _, _, _, rfl⟩ (by rw [lns_len]; exact hi)
    (fun j d e h hj hd hI => by
      rw [Nat.zero_add] at hI ⊢
      obtain ⟨t, ht⟩ := f2 j hj
      obtain ⟨e1, g1, w1⟩ := hall_good w hd hI ht (C := fun _ _ => False) (B := fun _ _ => False) (R := fun _ _ => False)
      obtain ⟨e2, h2, q2, i2⟩ := out56 w1
      exact ⟨e1, g1, e2, h2, q2, i2⟩)
    (fun d e h hd hI => by
      rw [Nat.zero_add] at hI
      exact hall_bad w hd hI f1)
  refine pexc56 (h1 := h3) rfl ?_ rfl
  unfold Sh.parse_hall_1
  refine fne56 (e1 := e3) ?_
  rw [parse_b]
  show (sSeq _ _) [some (.str (SX.S l)), none, none, none, none] [] = _
  rw [nx56 p1, nx56 p2]
  refine exc56 ?_
  rw [for56 (hit_ok w _ _ _ _)]
  exact r
theorem parse_loop (q : fN (linesV l) = none) : ∃ a b c : Option D, (sFor HIT HG HF) [some (.str (SX.S l)), some (.ref 0), none, none, none] [.lst []] = .nx [some (.str (SX.S l)), some (.ref 0), a, b, c] [.lst ((tks (linesV l)).map dTk)] := by
  have eN := fN_none q
  have em : (linesV l).map dLO = (tks (linesV l)).map dTk := by
    conv => lhs; rw [eN]
    rw [List.map_map]
    rfl
  rw [for56 (hit_ok w _ _ _ _)]
  obtain ⟨e1, h1, r, z1, a, b, c, z2⟩ := out56 (s := forL HG HF (enumD (lnsD l))) (e := [some (.str (SX.S l)), some (.ref 0), none, none, none]) (h := [.lst []]) (N := IL l (enumD (lnsD l)).length) (W_forL (IL l) _ _ _ ⟨by simp, _, _, _, rfl⟩ (fun j d hd e h hI => by
      have hj : j < (linesV l).length := by
        rw [← lns_len]
        exact (List.getElem?_eq_some_iff.mp hd).1
      have ht : ∃ t, (linesV l)[j]? = some (some t) := by
        rw [eN, List.getElem?_map]
        have : j < (tks (linesV l)).length := by
          have := congrArg List.length eN
          rw [List.length_map] at this
          omega
        exact ⟨_, by rw [List.getElem?_eq_getElem this]; rfl⟩
      obtain ⟨t, ht⟩ := ht
      exact hall_good w hd hI ht) (fun e h hI => hI))
  refine ⟨a, b, c, ?_⟩
  rw [r, z1, z2, lns_len, List.take_length, em]
theorem lend56 {h : OH} {i : Nat} (q : fN (linesV l) = none) (e : h[i]? = some (.lst ((tks (linesV l)).map dTk))) : lendF Sh.is_hall [.ref i] h = .ok (.bl (hallB (tks (linesV l)))) h := by
  have sz := sz_hall (tks_ok w) (tks_len w q)
  have is := isHallDD _ sz
  rw [hall_B (tks_ok w)] at is
  exact lend_isB sz is h (snap_own e)
theorem parse_hall_ok (q : fN (linesV l) = none) (hb : hallB (tks (linesV l)) = true) (h : OH) : pureF Sh.parse_hall_1 [.str (SX.S l)] h = .ok (.lst ((tks (linesV l)).map dTk)) h := by
  refine pure_eq h rfl (by simp) ?_
  obtain ⟨e1, p1, p2⟩ := pre_ok w
  obtain ⟨a, b, c, p3⟩ := parse_loop w q
  have ld := lend56 w (h := [.lst ((tks (linesV l)).map dTk)]) (i := 0) q rfl
  rw [hb] at ld
  unfold Sh.parse_hall_1; rw [W_fn, parse_b]
  show ((sSeq _ _) [some (.str (SX.S l)), none, none, none, none] []).W _ _ _ _
  rw [nx56 p1, nx56 p2, nx56 p3]
  unfold HR3
  simp [ld]
theorem parse_hall_no (q : fN (linesV l) = none) (hb : hallB (tks (linesV l)) = false) (h : OH) : pureF Sh.parse_hall_1 [.str (SX.S l)] h = .exc "InvalidText" (some ("line", .non)) h := by
  obtain ⟨e1, p1, p2⟩ := pre_ok w
  obtain ⟨a, b, c, p3⟩ := parse_loop w q
  have ld := lend56 w (h := [.lst ((tks (linesV l)).map dTk)]) (i := 0) q rfl
  rw [hb] at ld
  refine pexc56 (h1 := [.lst ((tks (linesV l)).map dTk)]) rfl ?_ rfl
  unfold Sh.parse_hall_1
  refine fne56 (e1 := [some (.str (SX.S l)), some (.ref 0), a, b, c]) ?_
  rw [parse_b]
  show (sSeq _ _) [some (.str (SX.S l)), none, none, none, none] [] = _
  rw [nx56 p1, nx56 p2, nx56 p3]
  unfold HR3
  refine exc56 ((ift56 (h1 := [.lst ((tks (linesV l)).map dTk)]) (eq56 ?_)).trans ?_)
  · simp [ld]
  · rfl
end
end HR
set_option Elab.async false
set_option linter.all false
set_option maxRecDepth 20000
set_option exponentiation.threshold 5000
namespace HR
open PySem L2
/-! ### records of any text -/
def recW (l : List Nat) : List (List Nat) := if l = [] then [] else sp 32 l
def badW (p : List Nat) : Bool := decide (p ≠ [45]) && !nameB p
def badAt (ws : List (List Nat)) (i : Nat) : Bool := badW (ws.getD i [])
def bads (ws : List (List Nat)) (n : Nat) : List Nat := (List.range n).filter (badAt ws)
def itemD (p : List Nat) : D := if p = [45] then .non else .str (SX.S p)
def recR (l : List Nat) : D := match (bads (recW l) (recW l).length).head? with
  | some i => .str (errT (strI (i : Nat)))
  | none => if (recW l).length ≤ 400 then .lst ((recW l).map itemD) else .str (errT "None")
theorem recR_pure (l : List Nat) : (recR l).pure = true := by
  unfold recR
  split
  · rfl
  · split
    · simp only [D.pure]
      exact pureL_map _ (fun p => by unfold itemD; split <;> rfl) _
    · rfl
theorem bads_succ (ws : List (List Nat)) (n : Nat) : bads ws (n + 1) = bads ws n ++ if badAt ws n then [n] else [] := by
  unfold bads
  rw [List.range_succ, List.filter_append]
  congr 1
  by_cases h : badAt ws n = true
  · simp [h]
  · simp [h]
theorem bads_le (ws : List (List Nat)) (n : Nat) : (bads ws n).length ≤ n := by
  have := List.length_filter_le (badAt ws) (List.range n)
  rwa [List.length_range] at this
theorem bads_head {ws : List (List Nat)} {n i : Nat} (h : (bads ws n).head? = some i) : i < n ∧ badAt ws i = true ∧ ∀ j, j < i → badAt ws j = false := by
  unfold bads at h
  rw [List.head?_filter, List.find?_range_eq_some] at h
  obtain ⟨h1, h2, h3⟩ := h
  exact ⟨List.mem_range.mp h2, h1, fun j hj => by simpa using h3 j hj⟩
theorem bads_none {ws : List (List Nat)} {n : Nat} (h : (bads ws n).head? = none) : ∀ j, j < n → badAt ws j = false := fun j hj => by
  rw [List.head?_eq_none_iff] at h
  unfold bads at h
  rw [List.filter_eq_nil_iff] at h
  simpa using h j (List.mem_range.mpr hj)
theorem ok45 : PyData.strOk (SX.S [45]) = true := by decide +kernel
def wdD (l : List Nat) : List D := (recW l).map fun p => .str (SX.S p)
section
variable {l : List Nat} (w : Okl l)
include w
theorem recW_len : (recW l).length ≤ 4001 := by
  unfold recW
  split
  · simp
  · have := sp_len 32 l
    have := w.len
    omega
theorem recW_ok : ∀ p ∈ recW l, Okl p := fun p hp => by
  unfold recW at hp
  split at hp
  · cases hp
  · exact w.part hp
omit w in
theorem wd_at {j : Nat} {d : D} (hd : (enumD (wdD l))[j]? = some d) : ∃ p, (recW l)[j]? = some p ∧ d = .tup [.int (j : Nat), .str (SX.S p)] ∧ badAt (recW l) j = badW p := by
  simp only [enumD, wdD, List.getElem?_mapIdx, Option.map_eq_some_iff, List.getElem?_map] at hd
  obtain ⟨y, ⟨p, hp, rfl⟩, rfl⟩ := hd
  refine ⟨p, hp, rfl, ?_⟩
  unfold badAt
  rw [List.getD_eq_getElem?_getD, hp]
  rfl
omit w in
theorem wd_len : (enumD (wdD l)).length = (recW l).length := by simp [enumD, wdD]
theorem W_wds (a : List (Option D)) (h : OH) {PD : D → OH → Prop} : ((sIf (sTest (sBin (opEqT true) (sVar 0) (sC (.str "")))) (sM1 opSplit (sVar 0) (sC (.str " "))) (sLst sNil)) (some (.str (SX.S l)) :: a) h).W PD = PD (.lst (wdD l)) h := by
  have e0 : (Str.ofString "") = SX.S [] := rfl
  have es : Str.ofString " " = SX.S [32] := rfl
  by_cases c : l = []
  · subst c
    simp [e0, W_eqTS, wdD, recW]
  · simp [e0, es, W_eqTS, c, W_sp (c := 32) (by decide) w, wdD, recW]
theorem lrec_any (h : OH) : pureF Sh.l_record_of [.str (SX.S l)] h = .ok (recR l) h := by
  refine pure_eq h rfl (recR_pure l) ?_
  unfold Sh.l_record_of; rw [W_fn]; unfold Sh.l_record_of_b
  have wl := recW_len w
  have wo := recW_ok w
  have e45 : Str.ofString "-" = SX.S [45] := rfl
  have ww := fun a h (PD : D → OH → Prop) => W_wds w a h (PD := PD)
  refine SW_seqK fun K hK => ?_
  rw [SW_set, show ([D.str (SX.S l)].map some ++ List.replicate (5 - [D.str (SX.S l)].length) none : Env') = some (.str (SX.S l)) :: [none, none, none, none] from rfl, ww]
  refine hK _ _ ?_
  clear hK K
  refine SW_seqK fun K hK => ?_
  simp [wipeD]
  refine W_lcGo (fun j acc h' => h' = [] ∧ acc = (bads (recW l) j).map (fun i : Nat => D.int (i : Nat))) _ _ _ ⟨rfl, rfl⟩ (fun j d hd acc h' hI => ?_) (fun acc h' hI => ?_)
  · obtain ⟨rfl, rfl⟩ := hI
    have hj : j < (recW l).length := by rw [← wd_len]; exact (List.getElem?_eq_some_iff.mp hd).1
    obtain ⟨p, hp, rfl, eb⟩ := wd_at hd
    have wp := wo p (List.mem_of_getElem? hp)
    have bl := bads_le (recW l) j
    refine ⟨_, rfl, ?_⟩
    rw [bads_succ, eb]
    have bj : (bads (recW l) j).length < 1000000 := by omega
    by_cases c : p = [45]
    · subst c
      have : badW [45] = false := by simp [badW]
      simp [e45, W_eqSS true ok45 ok45, this]
    · cases nb : nameB p with
      | true =>
        have : badW p = false := by simp [badW, nb]
        simp [e45, W_eqSS true wp.ok ok45, c, lname_any wp, nb, this]
      | false =>
        have : badW p = true := by simp [badW, nb, c]
        simp [e45, W_eqSS true wp.ok ok45, c, lname_any wp, nb, this, bj]
  · obtain ⟨rfl, rfl⟩ := hI
    rw [wd_len]
    refine hK _ _ ?_
    clear hK K
    refine SW_seqK fun K hK => ?_
    cases q : bads (recW l) (recW l).length with
    | cons i r =>
      have hi := bads_head (ws := recW l) (n := (recW l).length) (i := i) (by rw [q]; rfl)
      simp [W_strI (i := (i : Nat)) (log_small (n := i) (by omega)), W_err (n := i) (by omega)]
      simp [recR, q]
    | nil =>
      simp
      refine hK _ _ ?_
      clear hK K
      have wd : (wdD l).length = (recW l).length := by simp [wdD]
      have eR : recR l = if (recW l).length ≤ 400 then .lst ((recW l).map itemD) else .str (errT "None") := by simp [recR, q]
      rw [eR]
      simp [wd, wipeD]
      by_cases c : (recW l).length ≤ 400
      · have c' : ((recW l).length : Int) ≤ 400 := by omega
        simp [c, c']
        refine W_lcMap1 (recW l) (fun p => D.str (SX.S p)) itemD [] (by simp only [big]; omega) (fun p hp => ⟨_, rfl, ?_⟩) ?_
        · have wp := wo p hp
          by_cases z : p = [45]
          · subst z
            simp [e45, W_eqSS false ok45 ok45, itemD]
          · simp [e45, W_eqSS false wp.ok ok45, z, itemD]
        · simp
      · have c' : ¬ ((recW l).length : Int) ≤ 400 := by omega
        simp [c, c']
        rfl
end
end HR
set_option Elab.async false
set_option linter.all false
set_option maxRecDepth 20000
set_option exponentiation.threshold 5000
namespace HR
open PySem L2
def RF : SS := (sIfS (sAnd (sTest (sBin (opEq true) (sVar 3) (sC (.str "-")))) (sNot (sTest (sCall (withD [] (pureF Sh.is_name)) (sCons (sVar 3) sNil))))) (sRaiseF "InvalidText" "line" (sVar 2)) sNext)
def RW : SE := (sIf (sTest (sBin (opEqT true) (sVar 0) (sC (.str "")))) (sM1 opSplit (sVar 0) (sC (.str " "))) (sLst sNil))
def RIT : SA := sEnum (sCons (sVar 1) sNil)
def RR3 : SS := (sSeq (sIfS (sTest (sBin opGt (sCall bLen (sCons (sVar 1) sNil)) (sC (.int (400))))) (sRaiseF "InvalidText" "line" (sC .non)) sNext) (sRet (sLc false (sIt (sVar 1)) (gN 3) sYes (sIf (sTest (sBin (opEq false) (sVar 3) (sC (.str "-")))) (sC .non) (sVar 3)) [3])))
theorem prec_b : Sh.parse_record_1_b = (sSeq (sIfS (sNot (sTest (sIsi ["str"] (sVar 0)))) (sRaiseF "InvalidText" "line" (sC .non)) sNext) (sSeq (sSet 1 RW) (sSeq (sFor RIT HG RF) RR3))) := rfl
def IR (l : List Nat) (j : Nat) (e : Env') (h : OH) : Prop := h = [] ∧ ∃ a b : Option D, e = [some (.str (SX.S l)), some (.lst (wdD l)), a, b]
section
variable {l : List Nat} (w : Okl l)
include w
theorem rec_good {j : Nat} {d : D} {e : Env'} {h : OH} (hd : (enumD (wdD l))[j]? = some d) (hI : IR l j e h) (ht : badAt (recW l) j = false) {C B : Env' → OH → Prop} {R : D → OH → Prop} : ∃ e1, HG d e h = some e1 ∧ (RF e1 h).W (IR l (j + 1)) C B R := by
  obtain ⟨rfl, a, b, rfl⟩ := hI
  obtain ⟨p, hp, rfl, eb⟩ := wd_at hd
  rw [ht] at eb
  have wp := recW_ok w p (List.mem_of_getElem? hp)
  have e45 : Str.ofString "-" = SX.S [45] := rfl
  refine ⟨_, rfl, ?_⟩
  unfold RF IR
  generalize wdD l = Q
  by_cases c : p = [45]
  · subst c
    simp [e45, W_eqSS true ok45 ok45]
  · have nb : nameB p = true := by
      have : badW p = !nameB p := by simp [badW, c]
      rw [this] at eb
      simpa using eb
    simp [e45, W_eqSS true wp.ok ok45, c, isname_any wp, nb]
theorem rec_bad {j : Nat} {d : D} {e : Env'} {h : OH} (hd : (enumD (wdD l))[j]? = some d) (hI : IR l j e h) (ht : badAt (recW l) j = true) : ∃ e1, HG d e h = some e1 ∧ ∃ e2 h2, RF e1 h = .exc "InvalidText" (some ("line", .int (j : Nat))) e2 h2 := by
  obtain ⟨rfl, a, b, rfl⟩ := hI
  obtain ⟨p, hp, rfl, eb⟩ := wd_at hd
  rw [ht] at eb
  have wp := recW_ok w p (List.mem_of_getElem? hp)
  have e45 : Str.ofString "-" = SX.S [45] := rfl
  have c : p ≠ [45] := fun z => by rw [z] at eb; simp [badW] at eb
  have nb : nameB p = false := by
    have : badW p = !nameB p := by simp [badW, c]
    rw [this] at eb
    simpa using eb
  refine ⟨_, rfl, ?_⟩
  unfold RF
  generalize wdD l = Q
  refine ⟨[some (.str (SX.S l)), some (.lst Q), some (.int (j : Nat)), some (.str (SX.S p))], [], (ift56 (h1 := []) (eq56 ?_)).trans ?_⟩
  · simp [e45, W_eqSS true wp.ok ok45, c, isname_any wp, nb]
  · rfl
theorem prec_pre : ∃ e1, (sIfS (sNot (sTest (sIsi ["str"] (sVar 0)))) (sRaiseF "InvalidText" "line" (sC .non)) sNext) [some (.str (SX.S l)), none, none, none] [] = .nx e1 [] ∧ (sSet 1 RW) e1 [] = .nx [some (.str (SX.S l)), some (.lst (wdD l)), none, none] [] := by
  obtain ⟨e1, h1, q, z1, z2⟩ := out56 (s := (sIfS (sNot (sTest (sIsi ["str"] (sVar 0)))) (sRaiseF "InvalidText" "line" (sC .non)) sNext)) (e := [some (.str (SX.S l)), none, none, none]) (h := []) (N := fun e h => e = [some (.str (SX.S l)), none, none, none] ∧ h = []) (by simp)
  refine ⟨[some (.str (SX.S l)), none, none, none], by rw [q, z1, z2], ?_⟩
  obtain ⟨e1, h1, q, z1, z2⟩ := out56 (s := (sSet 1 RW)) (e := [some (.str (SX.S l)), none, none, none]) (h := []) (N := fun e h => e = [some (.str (SX.S l)), some (.lst (wdD l)), none, none] ∧ h = []) (by
    rw [SW_set]
    unfold RW
    rw [W_wds w]
    exact ⟨rfl, rfl⟩)
  rw [q, z1, z2]
omit w in
theorem rit_ok (a b : Option D) (h : OH) : RIT [some (.str (SX.S l)), some (.lst (wdD l)), a, b] h = .ok (enumD (wdD l)) h := by
  refine eq56 ?_
  unfold RIT
  simp
theorem prec_raise {i : Nat} (q : (bads (recW l) (recW l).length).head? = some i) (h : OH) : pureF Sh.parse_record_1 [.str (SX.S l)] h = .exc "InvalidText" (some ("line", .int (i : Nat))) h := by
  obtain ⟨e1, p1, p2⟩ := prec_pre w
  obtain ⟨hi, f1, f2⟩ := bads_head q
  obtain ⟨e3, h3, r⟩ := forL_exc (g := HG) (b := RF) (C := "InvalidText") (p := some ("line", .int (i : Nat))) (IR l) (enumD (wdD l)) i 0 [some (.str (SX.S l)), some (.lst (wdD l)), none, none] [] ⟨rfl, _, _, rfl⟩ (by rw [wd_len]; exact hi)
    (fun j d e h hj hd hI => by
      rw [Nat.zero_add] at hI ⊢
      obtain ⟨e1, g1, w1⟩ := rec_good w hd hI (f2 j hj) (C := fun _ _ => False) (B := fun _ _ => False) (R := fun _ _ => False)
      obtain ⟨e2, h2, q2, i2⟩ := out56 w1
      exact ⟨e1, g1, e2, h2, q2, i2⟩)
    (fun d e h hd hI => by
      rw [Nat.zero_add] at hI
      exact rec_bad w hd hI f1)
  refine pexc56 (h1 := h3) rfl ?_ rfl
  unfold Sh.parse_record_1
  refine fne56 (e1 := e3) ?_
  rw [prec_b]
  show (sSeq _ _) [some (.str (SX.S l)), none, none, none] [] = _
  rw [nx56 p1, nx56 p2]
  refine exc56 ?_
  rw [for56 (rit_ok _ _ _)]
  exact r
theorem prec_loop (q : (bads (recW l) (recW l).length).head? = none) : ∃ a b : Option D, (sFor RIT HG RF) [some (.str (SX.S l)), some (.lst (wdD l)), none, none] [] = .nx [some (.str (SX.S l)), some (.lst (wdD l)), a, b] [] := by
  rw [for56 (rit_ok _ _ _)]
  obtain ⟨e1, h1, r, z1, a, b, z2⟩ := out56 (s := forL HG RF (enumD (wdD l))) (e := [some (.str (SX.S l)), some (.lst (wdD l)), none, none]) (h := []) (N := IR l (enumD (wdD l)).length) (W_forL (IR l) _ _ _ ⟨rfl, _, _, rfl⟩ (fun j d hd e h hI => by
      have hj : j < (recW l).length := by
        rw [← wd_len]
        exact (List.getElem?_eq_some_iff.mp hd).1
      exact rec_good w hd hI (bads_none q j hj)) (fun e h hI => hI))
  refine ⟨a, b, ?_⟩
  rw [r, z1, z2]
omit w in
theorem items_pure : D.pureL ((recW l).map itemD) = true := pureL_map _ (fun p => by unfold itemD; split <;> rfl) _
theorem prec_ok (q : (bads (recW l) (recW l).length).head? = none) (c : (recW l).length ≤ 400) (h : OH) : pureF Sh.parse_record_1 [.str (SX.S l)] h = .ok (.lst ((recW l).map itemD)) h := by
  refine pure_eq h rfl (by simp only [D.pure]; exact items_pure) ?_
  obtain ⟨e1, p1, p2⟩ := prec_pre w
  obtain ⟨a, b, p3⟩ := prec_loop w q
  have wd : (wdD l).length = (recW l).length := by simp [wdD]
  have wo := recW_ok w
  have e45 : Str.ofString "-" = SX.S [45] := rfl
  unfold Sh.parse_record_1; rw [W_fn, prec_b]
  show ((sSeq _ _) [some (.str (SX.S l)), none, none, none] []).W _ _ _ _
  rw [nx56 p1, nx56 p2, nx56 p3]
  unfold RR3
  have c' : ¬ (400 : Int) < (recW l).length := by omega
  simp [wd, c', wipeD]
  refine W_lcMap1 (recW l) (fun p => D.str (SX.S p)) itemD [] (by simp only [big]; omega) (fun p hp => ⟨_, rfl, ?_⟩) ?_
  · have wp := wo p hp
    by_cases z : p = [45]
    · subst z
      simp [e45, W_eqSS false ok45 ok45, itemD]
    · simp [e45, W_eqSS false wp.ok ok45, z, itemD]
  · simp
theorem prec_no (q : (bads (recW l) (recW l).length).head? = none) (c : ¬ (recW l).length ≤ 400) (h : OH) : pureF Sh.parse_record_1 [.str (SX.S l)] h = .exc "InvalidText" (some ("line", .non)) h := by
  obtain ⟨e1, p1, p2⟩ := prec_pre w
  obtain ⟨a, b, p3⟩ := prec_loop w q
  have wd : (wdD l).length = (recW l).length := by simp [wdD]
  refine pexc56 (h1 := []) rfl ?_ rfl
  unfold Sh.parse_record_1
  refine fne56 (e1 := [some (.str (SX.S l)), some (.lst (wdD l)), a, b]) ?_
  rw [prec_b]
  show (sSeq _ _) [some (.str (SX.S l)), none, none, none] [] = _
  rw [nx56 p1, nx56 p2, nx56 p3]
  unfold RR3
  have c' : (400 : Int) < (recW l).length := by omega
  refine exc56 ((ift56 (h1 := []) (eq56 ?_)).trans ?_)
  · simp [wd, c']
  · rfl
end
end HR
set_option Elab.async false
set_option linter.all false
set_option maxRecDepth 20000
set_option exponentiation.threshold 5000
set_option Elab.async false
set_option linter.all false
set_option maxRecDepth 20000
set_option exponentiation.threshold 5000
namespace HR
open PySem L2
/-! ### law k54: its own halls -/
/-- only i is changed, nothing is new -/
def Chl (i : Nat) (h h' : OH) : Prop := h'.length = h.length ∧ ∀ j, j ≠ i → h'[j]? = h[j]?
theorem Chl.refl (i : Nat) (h : OH) : Chl i h h := ⟨rfl, fun _ _ => rfl⟩
theorem Chl.set (i : Nat) (h : OH) (o : OO) : Chl i h (h.set i o) := ⟨by simp, fun j n => by rw [List.getElem?_set_ne (Ne.symm n)]⟩
theorem Chl.trans {i : Nat} {a b c : OH} (x : Chl i a b) (y : Chl i b c) : Chl i a c := ⟨by rw [y.1, x.1], fun j n => by rw [y.2 j n, x.2 j n]⟩
theorem Chl.get {i : Nat} {h h' : OH} (c : Chl i h h') {j : Nat} {o : OO} (e : h[j]? = some o) (n : j ≠ i) : h'[j]? = some o := by rw [c.2 j n]; exact e
section
variable {ns : List Int} {h : OH} {i c : Nat}
theorem bdrawL {n : Int} (hs : Bag ns h i c) (hc : c < 2 ^ 60) (hn : 0 < n) (hn2 : Small n) {P : D → OH → Prop} (q : ∀ v h', 0 ≤ v → v < n → Bag ns h' i (c + 1) → Chl i h h' → P (.int v) h') : (Sh.l_draw_2 [.ref i, .int n] h).W P := by
  have hi := hs.lt
  have hm := hs.mono (Nat.le_succ c)
  obtain ⟨p, rest, cnt, total, e, p0, p1, c0, c1, t0, t1⟩ := hs
  unfold Sh.l_draw_2
  rw [W_fn]
  unfold Sh.l_draw_2_b
  have hd : ∀ x : Int, divOk x n = true := fun x => divOk_small (i := x) hn2 hn
  have k1 : ∀ x : Int, 0 ≤ x % n := fun x => Int.emod_nonneg _ (by omega)
  have k2 : ∀ x : Int, x % n < n := fun x => Int.emod_lt_of_pos _ hn
  have hset : ∀ o : OO, (h.set i o)[i]? = some o := fun o => by simp [hi]
  have st : ∀ a : Int, ∃ s : Int, ∀ h, pureF Sh.l_stir [.int a, .int (cnt + 1)] h = .ok (.int s) h := fun a => stir_ok (by omega) (by omega)
  have hb : (2 : Nat) ^ 60 = 1152921504606846976 := by decide
  have i1 : ixN 5 1 = some 1 := rfl
  have i2 : ixN 5 2 = some 2 := rfl
  have i3 : ixN 5 3 = some 3 := rfl
  have a4 : ∀ a b c d e : D, atI [a, b, c, d, e] 4 = some e := fun _ _ _ _ _ => rfl
  by_cases hn1 : n = 1
  · subst hn1
    simp
    exact q 0 h (by decide) (by decide) hm (Chl.refl ..)
  · by_cases hr : rest < 2
    · by_cases hp : p = ns.length
      · obtain ⟨s, es⟩ := st total
        simp [hn1, e, hset, i1, i2, i3, a4, hr, hp, es, hn]
        exact q _ _ (k1 _) (k2 _) ⟨p, rest, cnt + 1, total, by rw [hp]; exact hset _, p0, p1, by omega, by omega, t0, t1⟩ (Chl.set ..)
      · have hpl : p.toNat < ns.length := by omega
        have ea : atI (ns.map D.int) p = some (.int ns[p.toNat]) := by
          rw [atI_z p0 (by simp; omega)]
          simp [hpl]
        generalize ns[p.toNat] = cell at ea
        by_cases hcell : cell < 1000000000000000000
        · obtain ⟨s, es⟩ := st (cell % 2305843009213693951)
          simp [hn1, e, hset, i1, i2, i3, a4, hr, hp, ea, hcell, es, hn]
          exact q _ _ (k1 _) (k2 _) ⟨p + 1, rest, cnt + 1, total, hset _, by omega, by omega, by omega, by omega, t0, t1⟩ (Chl.set ..)
        · simp [hn1, e, hset, i1, i2, i3, a4, hr, hp, ea, hcell, hn, hd]
          exact q _ _ (k1 _) (k2 _) ⟨p + 1, _, cnt + 1, total, hset _, by omega, by omega, by omega, by omega, t0, t1⟩ (Chl.set ..)
    · simp [hn1, e, hset, i1, i2, i3, a4, hr, hn, hd]
      exact q _ _ (k1 _) (k2 _) ⟨p, _, cnt + 1, total, hset _, by omega, by omega, by omega, by omega, t0, t1⟩ (Chl.set ..)
end
/-- only i is changed of what was; n are new -/
def Chn (i n : Nat) (h h' : OH) : Prop := h'.length = h.length + n ∧ ∀ j, j < h.length → j ≠ i → h'[j]? = h[j]?
theorem Chn.trans {i n m : Nat} {a b c : OH} (x : Chn i n a b) (y : Chn i m b c) : Chn i (n + m) a c := ⟨by rw [y.1, x.1]; omega, fun j hj hn => by rw [y.2 j (by rw [x.1]; omega) hn, x.2 j hj hn]⟩
theorem Chn.get {i n : Nat} {h h' : OH} (c : Chn i n h h') {j : Nat} {o : OO} (e : h[j]? = some o) (hn : j ≠ i) : h'[j]? = some o := by
  rw [c.2 j (List.getElem?_eq_some_iff.mp e).1 hn]
  exact e
theorem Chn.app (i : Nat) (h t : OH) : Chn i t.length h (h ++ t) := ⟨by simp, fun j hj _ => List.getElem?_append_left hj⟩
theorem Chn.set {i n : Nat} {h h' : OH} (c : Chn i n h h') {j : Nat} (hj : h.length ≤ j) (o : OO) : Chn i n h (h'.set j o) := ⟨by rw [List.length_set]; exact c.1, fun k hk hn => by rw [List.getElem?_set_ne (by omega)]; exact c.2 k hk hn⟩
end HR
set_option Elab.async false
set_option linter.all false
set_option maxRecDepth 20000
set_option exponentiation.threshold 5000
namespace HR
open PySem L2
/-! ### items shuffled; repr of many; isinstance of caught exceptions -/
/-- what a class function answers for an exception, where no own object is -/
def clsB (g : FN) (d : D) (x : Str) : Bool := match g [d] [] with
  | .ok (.str y) _ => y == x
  | _ => false
theorem clsB_W {g : FN} {d : D} {x : Str} (e : clsB g d x = true) {P : D → OH → Prop} (q : ∀ h, P (.str x) h) : (g [d] []).W P := by
  unfold clsB at e
  cases z : g [d] [] with
  | ok y h =>
    rw [z] at e
    cases y with
    | str y =>
      have : y = x := by simpa using e
      subst this
      exact q h
    | _ => cases e
  | exc _ _ _ => rw [z] at e; cases e
  | bad => rw [z] at e; cases e
end HR
set_option Elab.async false
set_option linter.all false
set_option maxRecDepth 20000
set_option exponentiation.threshold 5000
namespace HR
open PySem L2
/-! ### _law_read -/
theorem cls56 (d : D) : clsB Sh.l_class_6 (.excf "InvalidText" "line" d) "InvalidText" = true := by rfl
def rdB : SS := (sSet 2 (sIf (sTest (sBin (opEq false) (sVar 0) (sC (.int 0)))) (sCall (withD [] (pureF Sh.parse_hall_1)) (sCons (sVar 1) sNil)) (sCall (withD [] (pureF Sh.parse_record_1)) (sCons (sVar 1) sNil))))
/-- the door -/
def DOOR : Int → FN → Prop := fun i f => (i = 0 ∧ f = pureF Sh.parse_hall_1) ∨ (i = 1 ∧ f = pureF Sh.parse_record_1)
theorem rd_body {i : Int} {f : FN} (g : DOOR i f) (d : D) (a b : Option D) (h : OH) : rdB [some (.int i), some d, a, b] h = ((f [d] h).toS [some (.int i), some d, a, b] fun x h1 => .nx [some (.int i), some d, some x, b] h1) := by
  rcases g with ⟨rfl, rfl⟩ | ⟨rfl, rfl⟩
  · rfl
  · rfl
def tellD : D → D
  | .int i => .str (errT (strI i))
  | _ => .str (errT "None")
def LINE (x : D) : Prop := x = .non ∨ ∃ n : Nat, n ≤ 9999 ∧ x = .int (n : Int)
theorem read_ok {i : Int} {f : FN} (g : DOOR i f) {d r : D} (pd : d.pure = true) (pr : r.pure = true) (e : f [d] [] = .ok r []) (h : OH) : pureF Sh.l_read [.int i, d] h = .ok r h := by
  refine pure_eq h (by simp [pd]) pr ?_
  unfold Sh.l_read; rw [W_fn]; unfold Sh.l_read_b
  generalize Sh.l_class_6 = CL
  refine SW_seqK fun K hK => ?_
  simp
  refine hK _ _ ?_
  clear hK K
  refine SW_seqK fun K hK => ?_
  refine SW_tryG_nx (e1 := [some (.int i), some d, some r, none]) (h1 := []) ?_ ?_
  · show rdB _ _ = _
    rw [rd_body g, e]
    rfl
  · refine hK _ _ ?_
    simp
theorem read_exc {i : Int} {f : FN} (g : DOOR i f) {d x : D} (pd : d.pure = true) (hx : LINE x) (e : f [d] [] = .exc "InvalidText" (some ("line", x)) []) (h : OH) : pureF Sh.l_read [.int i, d] h = .ok (tellD x) h := by
  refine pure_eq h (by simp [pd]) (by rcases hx with rfl | ⟨n, _, rfl⟩ <;> rfl) ?_
  have cl := fun {P : D → OH → Prop} => clsB_W (cls56 x) (P := P)
  unfold Sh.l_read; rw [W_fn]; unfold Sh.l_read_b
  generalize Sh.l_class_6 = CL at cl ⊢
  refine SW_seqK fun K hK => ?_
  simp
  refine hK _ _ ?_
  clear hK K
  refine SW_seqK fun K hK => ?_
  refine SW_tryG_1 (C0 := "InvalidText") (p := some ("line", x)) (e1 := [some (.int i), some d, some (.str "odd"), none]) (h1 := []) ?_ (by simp) ?_
  · show rdB _ _ = _
    rw [rd_body g, e]
    rfl
  · refine cl fun h2 => ⟨rfl, ?_⟩
    have xf : (sXfl ["InvalidText"] "line" (sVar 3) [some (.int i), some d, some (.str "odd"), some (excD "InvalidText" (some ("line", x)))] h2) = .ok x h2 := by
      simp [sXfl, sVar, excD, fieldOf]
    rcases hx with rfl | ⟨n, hn, rfl⟩
    · simp [xf, opStrN]
      have ea : ∀ (PD : D → OH → Prop), (opAdd (.str (Str.ofString "error ")) (.str (Str.ofString "None")) h2).W PD = PD (.str (errT "None")) h2 := fun PD => by
        rw [W_addTx, if_pos (by decide +kernel)]
        rfl
      rw [ea]
      refine hK _ _ ?_
      simp [tellD]
    · have lg := log_small (n := n) (by omega)
      have es : ∀ (PD : D → OH → Prop), (opStrN (.int (n : Int)) h2).W PD = PD (.str (strI (n : Int))) h2 := fun PD => by
        unfold opStrN
        dsimp only
        rw [if_pos (by simpa using lg)]
        rfl
      simp [xf, es]
      rw [W_err hn]
      refine hK _ _ ?_
      simp [tellD]
section
variable {l : List Nat} (w : Okl l)
include w
/-- the hall's reader -/
theorem read_hall (h : OH) : pureF Sh.l_read [.int 0, .str (SX.S l)] h = .ok (hallR l) h := by
  have g : DOOR 0 (pureF Sh.parse_hall_1) := .inl ⟨rfl, rfl⟩
  cases q : fN (linesV l) with
  | some i =>
    have hi : i < (linesV l).length := (List.getElem?_eq_some_iff.mp (fN_at q).1).1
    have ll := lines_len w
    have := read_exc g (d := .str (SX.S l)) rfl (.inr ⟨i, by omega, rfl⟩) (parse_bad w q []) h
    rw [this]
    simp [hallR, q, tellD]
  | none =>
    cases hb : hallB (tks (linesV l)) with
    | true =>
      have := read_ok g (d := .str (SX.S l)) rfl (by simp) (parse_hall_ok w q hb []) h
      rw [this]
      simp [hallR, q, hb]
    | false =>
      have := read_exc g (d := .str (SX.S l)) rfl (.inl rfl) (parse_hall_no w q hb []) h
      rw [this]
      simp [hallR, q, hb, tellD]
theorem read_rec (h : OH) : pureF Sh.l_read [.int 1, .str (SX.S l)] h = .ok (recR l) h := by
  have g : DOOR 1 (pureF Sh.parse_record_1) := .inr ⟨rfl, rfl⟩
  cases q : (bads (recW l) (recW l).length).head? with
  | some i =>
    have hi := (bads_head q).1
    have ll := recW_len w
    have := read_exc g (d := .str (SX.S l)) rfl (.inr ⟨i, by omega, rfl⟩) (prec_raise w q []) h
    rw [this]
    simp only [recR, q, tellD]
  | none =>
    by_cases c : (recW l).length ≤ 400
    · have := read_ok g (d := .str (SX.S l)) rfl (by simp only [D.pure]; exact items_pure) (prec_ok w q c []) h
      rw [this]
      simp only [recR, q, c, if_true]
    · have := read_exc g (d := .str (SX.S l)) rfl (.inl rfl) (prec_no w q c []) h
      rw [this]
      simp only [recR, q, c, if_false, tellD]
end
/-- what is no text -/
theorem read_no {i : Int} (hi : i = 0 ∨ i = 1) {d : D} (hd : d ∈ ([.non, .int 0, .lst [.str "a"], .bl true, .dct [], .tup [.str "a", .int 1]] : List D)) (h : OH) : pureF Sh.l_read [.int i, d] h = .ok (.str (errT "None")) h := by
  have pd : d.pure = true := by
    simp only [List.mem_cons, List.not_mem_nil, or_false] at hd
    rcases hd with rfl | rfl | rfl | rfl | rfl | rfl <;> rfl
  rcases hi with rfl | rfl
  · have e : pureF Sh.parse_hall_1 [d] [] = .exc "InvalidText" (some ("line", .non)) [] := by
      simp only [List.mem_cons, List.not_mem_nil, or_false] at hd
      rcases hd with rfl | rfl | rfl | rfl | rfl | rfl <;> rfl
    exact read_exc (.inl ⟨rfl, rfl⟩) pd (.inl rfl) e h
  · have e : pureF Sh.parse_record_1 [d] [] = .exc "InvalidText" (some ("line", .non)) [] := by
      simp only [List.mem_cons, List.not_mem_nil, or_false] at hd
      rcases hd with rfl | rfl | rfl | rfl | rfl | rfl <;> rfl
    exact read_exc (.inr ⟨rfl, rfl⟩) pd (.inl rfl) e h
end HR
set_option Elab.async false
set_option linter.all false
set_option maxRecDepth 20000
set_option exponentiation.threshold 5000
namespace HR
open PySem L2
theorem rp_dT30 {p : Int × Int} (h : okP p = true) : Rp (dT p) 1 209 := by
  simp only [okP, Bool.and_eq_true, decide_eq_true_eq] at h
  obtain ⟨⟨a1, a2⟩, b1, b2⟩ := h
  have t : T30 < 2 ^ 100 := by simp only [T30]; decide
  have i1 : p.1.natAbs < 2 ^ 100 := by omega
  have i2 : p.2.natAbs < 2 ^ 100 := by omega
  exact rp_tup (ds := [.int p.1, .int p.2]) (k := 0) (n := 101) fun d hd => by
    simp only [List.mem_cons, List.not_mem_nil, or_false] at hd
    rcases hd with rfl | rfl
    · exact rp_int (k := 100) (by decide) (by decide) i1
    · exact rp_int (k := 100) (by decide) (by decide) i2
theorem rp_talks30 {ts : List (Int × Int)} (w : ∀ p ∈ ts, okP p = true) (l : ts.length ≤ 8) : Rp (.lst (ts.map dT)) 2 1690 := by
  refine (rp_lst (k := 1) (n := 209) fun d hd => ?_).mono (by decide) ?_
  · obtain ⟨p, hp, rfl⟩ := List.mem_map.mp hd
    exact rp_dT30 (w p hp)
  · rw [List.length_map]
    omega
theorem ok_lt {x : Str} (h : PyData.strOk x = true) : ∀ c ∈ x.cps.toList, c < 16 ^ 8 := by
  simp only [PyData.strOk, Array.all_eq_true_iff_forall_mem, decide_eq_true_eq] at h
  intro c hc
  have := h c (Array.mem_toList_iff.mp hc)
  omega
theorem rp_tk30 {t : Tk} (g : LOk t) (h : tkB t = true) : Rp (dTk t) 3 6771 := by
  simp only [tkB, Bool.and_eq_true, decide_eq_true_eq] at h
  obtain ⟨⟨r1, r2⟩, l1, l2, al⟩ := h
  have al' := List.all_eq_true.mp al
  have nl := name_len g.nm
  exact rp_tup (ds := [.str t.name, .int t.rank, .lst (t.pre.map dT), .lst (t.cyc.map dT)]) (k := 2) (n := 1690) fun d hd => by
    simp only [List.mem_cons, List.not_mem_nil, or_false] at hd
    rcases hd with rfl | rfl | rfl | rfl
    · exact (rp_str (ok_lt g.ok)).mono (by decide) (by omega)
    · exact (rp_int (k := 4) (by decide) (by decide) (by omega)).mono (by decide) (by decide)
    · exact rp_talks30 (fun p hp => al' p (List.mem_append_left _ hp)) l1
    · exact rp_talks30 (fun p hp => al' p (List.mem_append_right _ hp)) l2
theorem err_ok : ∀ x : Str, (∀ c ∈ x.cps.toList, c < 16 ^ 8) → ∀ c ∈ (errT x).cps.toList, c < 16 ^ 8 := fun x h c hc => by
  have e : (errT x).cps.toList = ("error " : Str).cps.toList ++ x.cps.toList := TL.tl_append _ _
  rw [e] at hc
  rcases List.mem_append.mp hc with q | q
  · exact (show ∀ c ∈ ("error " : Str).cps.toList, c < 16 ^ 8 by decide +kernel) c q
  · exact h c q
theorem err_len (x : Str) : (errT x).length = 6 + x.length := by
  have e : (errT x).cps.toList = ("error " : Str).cps.toList ++ x.cps.toList := TL.tl_append _ _
  have := congrArg List.length e
  rw [List.length_append] at this
  have l6 : ("error " : Str).cps.toList.length = 6 := by decide +kernel
  rw [l6] at this
  simpa [Str.length] using this
theorem rp_err {n : Nat} (hn : n ≤ 9999) : Rp (.str (errT (strI (n : Int)))) 4 70000 := by
  have l := strI_len hn
  refine (rp_str (err_ok _ fun c hc => ?_)).mono (by decide) ?_
  · have := strI_signs n
    rw [this] at hc
    obtain ⟨d, _, rfl⟩ := List.mem_map.mp hc
    have := d.valid
    have : d.toNat < 1114112 := by
      rcases d.valid with h | h
      · show d.val.toNat < _
        omega
      · show d.val.toNat < _
        omega
    omega
  · rw [err_len]
    omega
theorem rp_errN : Rp (.str (errT "None")) 4 70000 := by
  refine (rp_str (err_ok _ (by decide +kernel))).mono (by decide) ?_
  rw [err_len]
  decide +kernel
section
variable {l : List Nat} (w : Okl l)
include w
theorem rp_hallR : Rp (hallR l) 4 70000 := by
  unfold hallR
  split
  · rename_i i q
    have hi : i < (linesV l).length := (List.getElem?_eq_some_iff.mp (fN_at q).1).1
    have ll := lines_len w
    exact rp_err (by omega)
  · split
    · rename_i hb
      have hb2 := hb
      simp only [hallB, Bool.and_eq_true, decide_eq_true_eq] at hb2
      obtain ⟨h1, _, h3⟩ := hb2
      have h3' := List.all_eq_true.mp h3
      refine (rp_lst (k := 3) (n := 6771) fun d hd => ?_).mono (by decide) ?_
      · obtain ⟨t, ht, rfl⟩ := List.mem_map.mp hd
        exact rp_tk30 (tks_ok w t ht) (h3' t ht)
      · rw [List.length_map]
        omega
    · exact rp_errN
theorem rp_recR : Rp (recR l) 4 70000 := by
  unfold recR
  split
  · rename_i i q
    have hi := (bads_head q).1
    have ll := recW_len w
    exact rp_err (by omega)
  · rename_i q
    split
    · rename_i c
      refine (rp_lst (k := 0) (n := 82) fun d hd => ?_).mono (by decide) ?_
      · obtain ⟨p, hp, rfl⟩ := List.mem_map.mp hd
        obtain ⟨j, hj⟩ := List.mem_iff_getElem?.mp hp
        have bj := bads_none q j (List.getElem?_eq_some_iff.mp hj).1
        have eb : badAt (recW l) j = badW p := by
          unfold badAt
          rw [List.getD_eq_getElem?_getD, hj]
          rfl
        rw [eb] at bj
        unfold itemD
        split
        · exact rp_non.mono (by decide) (by decide)
        · rename_i z
          have nb : nameB p = true := by
            have : badW p = !nameB p := by simp [badW, z]
            rw [this] at bj
            simpa using bj
          have nl : p.length ≤ 8 := by
            simp only [nameB, Bool.and_eq_true, decide_eq_true_eq] at nb
            exact nb.2.1
          refine (rp_str (ok_lt (recW_ok w p hp).ok)).mono (by decide) ?_
          rw [SX.S_len]
          omega
      · rw [List.length_map]
        omega
    · exact rp_errN
/-- the two lists and their texts -/
theorem rp_both : Rp (.lst [hallR l, recR l]) 5 150000 := by
  refine (rp_lst (k := 4) (n := 70000) fun d hd => ?_).mono (by decide) (by simp)
  simp only [List.mem_cons, List.not_mem_nil, or_false] at hd
  rcases hd with rfl | rfl
  · exact rp_hallR w
  · exact rp_recR w
end
end HR
set_option Elab.async false
set_option linter.all false
set_option maxRecDepth 20000
set_option exponentiation.threshold 5000
namespace HR
open PySem L2
/-! ### how many digits stand in a row -/
def isDg (c : Nat) : Prop := 48 ≤ c ∧ c ≤ 57
def Run (r : Nat) (l : List Nat) : Prop := ∀ i k, i + k ≤ l.length → (∀ j, j < k → ∃ c, l[i + j]? = some c ∧ isDg c) → k ≤ r
theorem Run.mono {r s : Nat} {l : List Nat} (h : Run r l) (e : r ≤ s) : Run s l := fun i k a b => Nat.le_trans (h i k a b) e
theorem Run.len (l : List Nat) : Run l.length l := fun i k a _ => by omega
theorem Run.inf {r : Nat} {l x : List Nat} (h : Run r l) (e : x <:+: l) : Run r x := by
  obtain ⟨s, t, rfl⟩ := e
  intro i k a b
  refine h (s.length + i) k (by simp; omega) fun j hj => ?_
  obtain ⟨c, hc, d⟩ := b j hj
  refine ⟨c, ?_, d⟩
  have : i + j < x.length := by omega
  rw [List.append_assoc, List.getElem?_append_right (by omega), List.getElem?_append_left (by omega), show s.length + i + j - s.length = i + j by omega]
  exact hc
theorem Run.digs {r : Nat} {l x : List Nat} (h : Run r l) (e : x <:+: l) (d : ∀ c ∈ x, 48 ≤ c ∧ c ≤ 57) : x.length ≤ r := by
  refine h.inf e 0 x.length (by omega) fun j hj => ?_
  rw [Nat.zero_add]
  exact ⟨x[j], List.getElem?_eq_getElem hj, d _ (List.getElem_mem hj)⟩
theorem Run.app {r s : Nat} {a b : List Nat} (ha : Run r a) (hb : Run s b) : Run (r + s) (a ++ b) := by
  intro i k e d
  rw [List.length_append] at e
  by_cases c : i + k ≤ a.length
  · have := ha i k c fun j hj => by
      obtain ⟨x, hx, dx⟩ := d j hj
      exact ⟨x, by rw [List.getElem?_append_left (by omega)] at hx; exact hx, dx⟩
    omega
  · by_cases c2 : a.length ≤ i
    · have := hb (i - a.length) k (by omega) fun j hj => by
        obtain ⟨x, hx, dx⟩ := d j hj
        exact ⟨x, by rw [List.getElem?_append_right (by omega)] at hx; rw [show i - a.length + j = i + j - a.length by omega]; exact hx, dx⟩
      omega
    · have h1 := ha i (a.length - i) (by omega) fun j hj => by
        obtain ⟨x, hx, dx⟩ := d j (by omega)
        exact ⟨x, by rw [List.getElem?_append_left (by omega)] at hx; exact hx, dx⟩
      have h2 := hb 0 (i + k - a.length) (by omega) fun j hj => by
        obtain ⟨x, hx, dx⟩ := d (a.length - i + j) (by omega)
        exact ⟨x, by rw [List.getElem?_append_right (by omega)] at hx; rw [show 0 + j = i + (a.length - i + j) - a.length by omega]; exact hx, dx⟩
      omega
theorem Run.sep {r m : Nat} (hm : ¬ isDg m) {a b : List Nat} (ha : Run r a) (hb : Run r b) : Run r (a ++ m :: b) := by
  intro i k e d
  rw [List.length_append, List.length_cons] at e
  by_cases c : i + k ≤ a.length
  · exact ha i k c fun j hj => by
      obtain ⟨x, hx, dx⟩ := d j hj
      exact ⟨x, by rw [List.getElem?_append_left (by omega)] at hx; exact hx, dx⟩
  · by_cases c2 : a.length < i
    · exact hb (i - a.length - 1) k (by omega) fun j hj => by
        obtain ⟨x, hx, dx⟩ := d j hj
        refine ⟨x, ?_, dx⟩
        rw [List.getElem?_append_right (by omega), show i + j - a.length = (i - a.length - 1 + j) + 1 by omega, List.getElem?_cons_succ] at hx
        exact hx
    · by_cases z : k = 0
      · omega
      · obtain ⟨x, hx, dx⟩ := d (a.length - i) (by omega)
        rw [List.getElem?_append_right (by omega), show i + (a.length - i) - a.length = 0 by omega] at hx
        cases hx
        exact absurd dx hm
theorem Run.join {r m : Nat} (hm : ¬ isDg m) : ∀ {ps : List (List Nat)}, (∀ p ∈ ps, Run r p) → Run r (TL.joinL [m] ps)
  | [], _ => (Run.len []).mono (Nat.zero_le _)
  | [p], h => h p (List.mem_singleton.mpr rfl)
  | p :: q :: ps, h => Run.sep hm (h p (List.mem_cons_self ..)) (Run.join hm fun x hx => h x (List.mem_cons_of_mem _ hx))
/-! ### texts within wider lines -/
structure Okr (n r : Nat) (l : List Nat) : Prop where
  len : l.length ≤ n
  chr : ∀ c ∈ l, c < 128
  run : Run r l
theorem Okr.okl {n : Nat} {l : List Nat} (w : Okr n 255 l) : Okl (l.take 4000) := ⟨by rw [List.length_take]; omega, fun c hc => w.chr c (List.mem_of_mem_take hc), fun x hx d => w.run.digs (hx.trans (List.take_prefix _ _).isInfix) d⟩
def sumP (ps : List (List Nat)) : Nat := (ps.map fun p => p.length + 1).sum
theorem join_sum {m : Nat} : ∀ ps : List (List Nat), (TL.joinL [m] ps).length ≤ sumP ps
  | [] => Nat.zero_le _
  | [p] => by simp [sumP, TL.joinL]
  | p :: q :: ps => by
    have ih := join_sum (m := m) (q :: ps)
    have e : TL.joinL [m] (p :: q :: ps) = p ++ ([m] ++ TL.joinL [m] (q :: ps)) := rfl
    rw [e]
    simp only [sumP, List.map_cons, List.sum_cons, List.length_append, List.length_cons, List.length_nil] at ih ⊢
    omega
theorem sumP_app (a b : List (List Nat)) : sumP (a ++ b) = sumP a + sumP b := by simp [sumP]
theorem sumP_take (ps : List (List Nat)) (k : Nat) : sumP (ps.take k) ≤ sumP ps := by
  have := sumP_app (ps.take k) (ps.drop k)
  rw [List.take_append_drop] at this
  omega
theorem sumP_drop (ps : List (List Nat)) (k : Nat) : sumP (ps.drop k) ≤ sumP ps := by
  have := sumP_app (ps.take k) (ps.drop k)
  rw [List.take_append_drop] at this
  omega
theorem sumP_rev (ps : List (List Nat)) : sumP ps.reverse = sumP ps := by simp [sumP, List.map_reverse]
theorem sumP_W (ps : List (List Nat)) : ((ps.map SX.S).map (·.length)).sum + (ps.map SX.S).length * (SX.S [m]).length = sumP ps := by
  have l1 : (SX.S [m]).length = 1 := SX.S_len [m]
  rw [l1]
  unfold sumP
  induction ps with
  | nil => rfl
  | cons p ps ih =>
    simp only [List.map_cons, List.sum_cons, List.length_cons, SX.S_len] at ih ⊢
    omega
theorem W_joinP {m : Nat} {ps : List (List Nat)} (b : sumP ps ≤ 1000000) (h : OH) {PD : D → OH → Prop} : (opJoin (SX.S [m]) (.lst (ps.map fun p => D.str (SX.S p))) h).W PD = PD (.str (SX.S (TL.joinL [m] ps))) h := by
  rw [strL, W_joinS, if_pos (by rw [sumP_W]; exact b), SX.join_S]
theorem Okr.join {m r n : Nat} (hm : ¬ isDg m) (hm2 : m < 128) {ps : List (List Nat)} (h : ∀ p ∈ ps, (∀ c ∈ p, c < 128) ∧ Run r p) (b : sumP ps ≤ n) : Okr n r (TL.joinL [m] ps) := by
  refine ⟨Nat.le_trans (join_sum ps) b, fun c hc => ?_, Run.join hm fun p hp => (h p hp).2⟩
  rcases joinL_mem hc with rfl | ⟨p, hp, hc⟩
  · exact hm2
  · exact (h p hp).1 c hc
theorem Okr.parts {m r n : Nat} {l : List Nat} (w : Okr n r l) : ∀ p ∈ sp m l, (∀ c ∈ p, c < 128) ∧ Run r p := fun p hp => by
  have i := (sp_inf m l).2 p hp
  exact ⟨fun c hc => w.chr c (i.subset hc), w.run.inf i⟩
theorem cutS_take (l : List Nat) (k : Nat) : cutS (SX.S l) none (some (k : Int)) = SX.S (l.take k) := by
  have e : (cutS (SX.S l) none (some (k : Int))).cps.toList = l.take k := by
    show ((((SX.S l).cps.toList.drop (HT.sIx (SX.S l).length 0 none)).take (HT.sIx (SX.S l).length (SX.S l).length (some (k : Int)) - HT.sIx (SX.S l).length 0 none)).toArray).toList = l.take k
    rw [HT.sIx_none, HT.sIx_nat, S_toL, SX.S_len, List.drop_zero, Nat.sub_zero]
    simp only [List.toList_toArray]
    rw [List.take_eq_take_iff]
    omega
  rw [← SX.S_tl (cutS (SX.S l) none (some (k : Int))), e]
theorem cutS_drop (l : List Nat) (k : Nat) : cutS (SX.S l) (some (k : Int)) none = SX.S (l.drop k) := by
  have e : (cutS (SX.S l) (some (k : Int)) none).cps.toList = l.drop k := by
    show ((((SX.S l).cps.toList.drop (HT.sIx (SX.S l).length 0 (some (k : Int)))).take (HT.sIx (SX.S l).length (SX.S l).length none - HT.sIx (SX.S l).length 0 (some (k : Int)))).toArray).toList = l.drop k
    rw [HT.sIx_none, HT.sIx_nat, S_toL, SX.S_len]
    simp only [List.toList_toArray]
    by_cases c : k ≤ l.length
    · rw [Nat.min_eq_left c, List.take_of_length_le (by simp)]
    · rw [Nat.min_eq_right (by omega), List.drop_length, List.drop_eq_nil_of_le (by omega)]
      simp
  rw [← SX.S_tl (cutS (SX.S l) (some (k : Int)) none), e]
theorem W_cutTake {l : List Nat} (b : l.length ≤ 1000000) (k : Nat) (h : OH) {PD : D → OH → Prop} : (opCutT (.str (SX.S l)) none (some (k : Int)) h).W PD = PD (.str (SX.S (l.take k))) h := by
  unfold opCutT
  dsimp only
  rw [if_pos (by rw [SX.S_len]; exact b), cutS_take]
  rfl
theorem W_cutDrop {l : List Nat} (b : l.length ≤ 1000000) (k : Nat) (h : OH) {PD : D → OH → Prop} : (opCutT (.str (SX.S l)) (some (k : Int)) none h).W PD = PD (.str (SX.S (l.drop k))) h := by
  unfold opCutT
  dsimp only
  rw [if_pos (by rw [SX.S_len]; exact b), cutS_drop]
  rfl
theorem W_addS {a b : List Nat} (l : a.length + b.length ≤ 1000000) (h : OH) {PD : D → OH → Prop} : (opAdd (.str (SX.S a)) (.str (SX.S b)) h).W PD = PD (.str (SX.S (a ++ b))) h := by
  rw [W_addTx, if_pos (by rw [SX.S_len, SX.S_len]; exact l), SX.S_cat]
@[simp] theorem W_sCutT (a : SE) (lo hi : SO) (e : Env') (h : OH) {PD : D → OH → Prop} : (sCutT a lo hi e h).W PD = (a e h).W fun x h1 => (lo e h1).W fun l h2 => (hi e h2).W fun u h3 => (opCutT x l u h3).W PD := by
  unfold sCutT
  rw [W_bind]
  congr; funext x h1
  rw [W_bind]
  congr; funext x h1
  rw [W_bind]
end HR
set_option Elab.async false
set_option linter.all false
set_option maxRecDepth 20000
set_option exponentiation.threshold 5000
set_option Elab.async false
set_option linter.all false
set_option maxRecDepth 20000
set_option exponentiation.threshold 5000
namespace HR
open PySem L2
structure Rs where
  i : Nat
  b : Bool
  sp : Int
  wt : Int
abbrev Cf := Tk × Rs
def waitR (t : Tk) (r : Rs) : Rs := ⟨r.i, r.wt + 1 == (nth t.pre t.cyc r.i).1, r.sp, r.wt + 1⟩
/-- does one wait at a tick -/
def waits (c : Option Tk) (x : Cf) : Bool := !x.2.b && (match c with | none => true | some u => decide (x.1.rank < u.rank))
def afterW (c : Option Tk) (x : Cf) : Cf := if waits c x then (x.1, waitR x.1 x.2) else x
def start (ts : List Tk) : List Cf := ts.map fun t => (t, ⟨0, false, 0, 0⟩)
def dN : Option Str → D
  | none => .non
  | some x => .str x
def oCf (x : Cf) : OO := oRun x.1 x.2.i x.2.b x.2.sp x.2.wt
theorem afterW_fst (c : Option Tk) (x : Cf) : (afterW c x).1 = x.1 := by
  unfold afterW
  split <;> rfl
/-! ### the program -/
end HR
set_option Elab.async false
set_option linter.all false
set_option maxRecDepth 20000
set_option exponentiation.threshold 5000
namespace HR
open PySem L2
/-- the heap in the midst of the waiting: the first i are through -/
def WaitIs (c : Option Tk) (S : List Cf) (i : Nat) (h : OH) : Prop := ∀ (k : Nat) (x : Cf), S[k]? = some x → h[k]? = some (oCf (if k < i then afterW c x else x))
theorem WaitIs.tk {c : Option Tk} {S : List Cf} {i : Nat} {h : OH} (R : WaitIs c S i h) {k : Nat} {x : Cf} (e : S[k]? = some x) : ∃ r, h[k]? = some (oCf (x.1, r)) := by
  have := R k x e
  split at this
  · refine ⟨(afterW c x).2, ?_⟩
    rw [this, ← afterW_fst c x]
  · exact ⟨x.2, this⟩
end HR
set_option Elab.async false
set_option linter.all false
set_option maxRecDepth 20000
set_option exponentiation.threshold 5000
namespace HR
open PySem L2
/-! ### a record, read tick by tick -/
/-- what it shows of one member: the talks that are over, the one that may go on, the quiet ticks since -/
structure Ob where
  done : List (Int × Int)
  cur : Option (Int × Int)
  q : Int
def Ob.tk (o : Ob) : List (Int × Int) := o.done ++ o.cur.toList
structure RdS where
  obs : Nat → Ob
  lp : Int → Int
variable (rk : Nat → Int)
def S0 : RdS := ⟨fun _ => ⟨[], none, 0⟩, fun _ => -1⟩
/-! ### a record without a fault: what the end tells of what came before -/
end HR
set_option Elab.async false
set_option linter.all false
set_option maxRecDepth 20000
set_option exponentiation.threshold 5000
namespace HR
open PySem L2
/-! ### the hall with the talks of a record produces the record -/
def rkT (ts : List Tk) (j : Nat) : Int := (ts.getD j gTk).rank
end HR
set_option Elab.async false
set_option linter.all false
set_option maxRecDepth 20000
set_option exponentiation.threshold 5000
set_option Elab.async false
set_option linter.all false
set_option maxRecDepth 20000
set_option exponentiation.threshold 5000
namespace HR
open PySem L2
/-! ### the law's own model of a hall: queues (maths) -/
section
variable {ts : List Tk} {S : RdS} {r : Nat → Rs}
/-- who waits to speak at rank q, in the order of the hall -/
def qI (ts : List Tk) (r : Nat → Rs) (q : Int) : List Nat := (List.range ts.length).filter fun j => (r j).b && decide (rkT ts j = q)
end
end HR
set_option Elab.async false
set_option linter.all false
set_option maxRecDepth 20000
set_option exponentiation.threshold 5000
set_option Elab.async false
set_option linter.all false
set_option maxRecDepth 20000
set_option exponentiation.threshold 5000
namespace HR
open PySem L2
/-! ### the law's own model of a hall: its objects -/
def seatD (t : Tk) (r : Rs) (tot : Int) : List (Key × D) := [(.inr "name", .str t.name), (.inr "rank", .int t.rank), (.inr "prefix", .lst (t.pre.map dT)), (.inr "cycle", .lst (t.cyc.map dT)), (.inr "index", .int r.i), (.inr "waited", .int r.wt), (.inr "begun", .int r.sp), (.inr "ready", .bl r.b), (.inr "total", .int tot)]
def queD (b : Nat) : List (Key × D) := (List.range 10).map fun (q : Nat) => (.inl (1 + (q : Int)), .ref (b + q))
def modD (b n : Nat) (tick sil : Int) : List (Key × D) := [(.inr "tick", .int tick), (.inr "silent", .int sil), (.inr "all", .lst ((List.range n).map fun k => .ref (b + 10 + 2 * k))), (.inr "queues", .dct (queD b))]
/-- the objects of the model stand from b on -/
structure MdIs (b : Nat) (ts : List Tk) (r : Nat → Rs) (tot : Nat → Int) (tick sil : Int) (h : OH) : Prop where
  seat : ∀ k, k < ts.length → h[b + 10 + 2 * k]? = some (.dct (seatD (ts.getD k gTk) (r k) (tot k)))
  que : ∀ q, q < 10 → h[b + q]? = some (.lst ((qI ts r (1 + (q : Int))).map fun k => D.str (ts.getD k gTk).name))
  mod : h[b + 10 + 2 * ts.length]? = some (.dct (modD b ts.length tick sil))
end HR
set_option Elab.async false
set_option linter.all false
set_option maxRecDepth 20000
set_option exponentiation.threshold 5000
namespace HR
open PySem L2
/-! ### the reading of a record by the program -/
def obFs (j : Nat) (m : Str × Int) (l : Nat) (o : Ob) : List (String × D) := [("position", .int j), ("name", .str m.1), ("rank", .int m.2), ("found_talks", .ref l), ("quiet_ticks", .int o.q), ("is_open", .bl o.cur.isSome)]
section
variable {j : Nat} {m : Str × Int} {l : Nat} {o : Ob}
@[simp] theorem ofs_pos : (obFs j m l o).lookup "position" = some (.int j) := rfl
@[simp] theorem ofs_name : (obFs j m l o).lookup "name" = some (.str m.1) := rfl
@[simp] theorem ofs_rank : (obFs j m l o).lookup "rank" = some (.int m.2) := rfl
@[simp] theorem ofs_talks : (obFs j m l o).lookup "found_talks" = some (.ref l) := rfl
@[simp] theorem ofs_q : (obFs j m l o).lookup "quiet_ticks" = some (.int o.q) := rfl
@[simp] theorem ofs_open : (obFs j m l o).lookup "is_open" = some (.bl o.cur.isSome) := rfl
@[simp] theorem ofs_len : (obFs j m l o).length = 6 := rfl
@[simp] theorem ofs_n1 : hasNo (obFs j m l o) "speak_on" = True := eq_true rfl
@[simp] theorem ofs_n2 : hasNo (obFs j m l o) "pass_tick" = True := eq_true rfl
end
end HR
set_option Elab.async false
set_option linter.all false
set_option maxRecDepth 20000
set_option exponentiation.threshold 5000
namespace HR
open PySem L2
def rdRefs (b n : Nat) : List D := (List.range n).map fun j => D.ref (b + 1 + 2 * j)
def rdFs (b n : Nat) (flt : D) : List (String × D) := [("observed", .lst (rdRefs b n)), ("last_position", .ref (b + 1 + 2 * n)), ("fault", flt)]
section
variable {ms : List (Str × Int)} {b : Nat} {S : RdS} {flt : D} {h : OH}
@[simp] theorem rfs_obs (b n : Nat) (flt : D) : (rdFs b n flt).lookup "observed" = some (.lst (rdRefs b n)) := rfl
@[simp] theorem rfs_lp (b n : Nat) (flt : D) : (rdFs b n flt).lookup "last_position" = some (.ref (b + 1 + 2 * n)) := rfl
@[simp] theorem rfs_flt (b n : Nat) (flt : D) : (rdFs b n flt).lookup "fault" = some flt := rfl
@[simp] theorem rfs_len (b n : Nat) (flt : D) : (rdFs b n flt).length = 3 := rfl
@[simp] theorem rfs_n1 (b n : Nat) (flt : D) : hasNo (rdFs b n flt) "kind_of_fault" = True := eq_true rfl
@[simp] theorem rfs_n2 (b n : Nat) (flt : D) : hasNo (rdFs b n flt) "read_tick" = True := eq_true rfl
def gMb : Str × Int := (gTk.name, gTk.rank)
structure WfM (ms : List (Str × Int)) : Prop where
  len : ms.length ≤ 10
  rk : ∀ m ∈ ms, 1 ≤ m.2 ∧ m.2 ≤ 10
  nm : ∀ m ∈ ms, WfN m.1
  nd : (ms.map (·.1)).Nodup
end
end HR
set_option Elab.async false
set_option linter.all false
set_option maxRecDepth 20000
set_option exponentiation.threshold 5000
set_option Elab.async false
set_option linter.all false
set_option maxRecDepth 20000
set_option exponentiation.threshold 5000
namespace HR
open PySem L2
def dMb (m : Str × Int) : D := .tup [.str m.1, .int m.2]
@[simp] theorem pure_dMb (m : Str × Int) : (dMb m).pure = true := by simp [dMb]
@[simp] theorem pureL_dMb (ms : List (Str × Int)) : D.pureL (ms.map dMb) = true := pureL_map _ pure_dMb ms
@[simp] theorem pureL_dN (xs : List (Option Str)) : D.pureL (xs.map dN) = true := pureL_map _ (fun x => by cases x <;> rfl) xs
def nmM (ms : List (Str × Int)) (x : Option Nat) : Option Str := x.map fun k => (ms.getD k gMb).1
end HR
set_option Elab.async false
set_option linter.all false
set_option maxRecDepth 20000
set_option exponentiation.threshold 5000
set_option Elab.async false
set_option linter.all false
set_option maxRecDepth 20000
set_option exponentiation.threshold 5000
namespace HR
open PySem L2
section
variable {ms : List (Str × Int)}
/-- the first members and a record -/
structure Rc (ms : List (Str × Int)) (xs : List (Option Nat)) : Prop where
  w : WfM ms
  hx : ∀ x ∈ xs, ∀ k, x = some k → k < ms.length
  hl : xs.length ≤ 400
def recD (ms : List (Str × Int)) (xs : List (Option Nat)) : D := .lst ((xs.map (nmM ms)).map dN)
@[simp] theorem pure_recD (ms : List (Str × Int)) (xs : List (Option Nat)) : (recD ms xs).pure = true := by simp [recD, -List.map_map]
variable {xs : List (Option Nat)}
end
end HR
set_option Elab.async false
set_option linter.all false
set_option maxRecDepth 20000
set_option exponentiation.threshold 5000
set_option Elab.async false
set_option linter.all false
set_option maxRecDepth 20000
set_option exponentiation.threshold 5000
set_option Elab.async false
set_option linter.all false
set_option maxRecDepth 20000
set_option exponentiation.threshold 5000
set_option Elab.async false
set_option linter.all false
set_option maxRecDepth 20000
set_option exponentiation.threshold 5000
set_option Elab.async false
set_option linter.all false
set_option maxRecDepth 20000
set_option exponentiation.threshold 5000
set_option Elab.async false
set_option linter.all false
set_option maxRecDepth 20000
set_option exponentiation.threshold 5000
set_option Elab.async false
set_option linter.all false
set_option maxRecDepth 20000
set_option exponentiation.threshold 5000
set_option Elab.async false
set_option linter.all false
set_option maxRecDepth 20000
set_option exponentiation.threshold 5000
namespace HR
open PySem L2
/-! ### the stream of the laws 70 and on: draw, talks, halls -/
def Spr4 (h : OH) (i : Nat) : Prop := ∃ a b : Int, h[i]? = some (.lst [.int a, .int b]) ∧ 0 ≤ b ∧ b < 2147483647
theorem Spr4.lt {h : OH} {i : Nat} (s : Spr4 h i) : i < h.length := by
  obtain ⟨a, b, e, _⟩ := s
  exact (List.getElem?_eq_some_iff.mp e).1
theorem Spr4.app {h : OH} {i : Nat} (s : Spr4 h i) (t : OH) : Spr4 (h ++ t) i := by
  have := s.lt
  obtain ⟨a, b, e, r⟩ := s
  exact ⟨a, b, by rw [List.getElem?_append_left this]; exact e, r⟩
theorem Spr4.set {h : OH} {i j : Nat} (s : Spr4 h i) (n : j ≠ i) (o : OO) : Spr4 (h.set j o) i := by
  obtain ⟨a, b, e, r⟩ := s
  exact ⟨a, b, by rw [List.getElem?_set_ne n]; exact e, r⟩
end HR
set_option Elab.async false
set_option linter.all false
set_option maxRecDepth 20000
set_option exponentiation.threshold 5000
set_option Elab.async false
set_option linter.all false
set_option maxRecDepth 20000
set_option exponentiation.threshold 5000
namespace HR
open PySem L2
/-! ### law k73: the helpers of the law -/
section
variable {ms : List (Str × Int)} {xs : List (Option Nat)} {ts : List Tk} {t : Tk}
theorem Rc.sub (r : Rc ms xs) {ys : List (Option Nat)} (h1 : ∀ y ∈ ys, y ∈ xs) (h2 : ys.length ≤ xs.length) : Rc ms ys := ⟨r.w, fun y hy => r.hx y (h1 y hy), Nat.le_trans h2 r.hl⟩
theorem Rc.take (r : Rc ms xs) (n : Nat) : Rc ms (xs.take n) := r.sub (fun y hy => List.mem_of_mem_take hy) (by simp; omega)
end
end HR
set_option Elab.async false
set_option linter.all false
set_option maxRecDepth 20000
set_option exponentiation.threshold 5000
set_option Elab.async false
set_option linter.all false
set_option maxRecDepth 20000
set_option exponentiation.threshold 5000
set_option Elab.async false
set_option linter.all false
set_option maxRecDepth 20000
set_option exponentiation.threshold 5000
namespace HR
open PySem L2
/-! ### the law's own model of a hall: one tick -/
section
variable {ts : List Tk} {S : RdS} {r : Nat → Rs} {tot : Nat → Int} {tick sil : Int} {b : Nat} {h : OH}
/-- only the model's own objects are changed -/
def Frm (b n : Nat) (h h' : OH) : Prop := h.length ≤ h'.length ∧ ∀ j, j < h.length → (j < b ∨ b + 10 + 2 * n < j) → h'[j]? = h[j]?
theorem Frm.refl (b n : Nat) (h : OH) : Frm b n h h := ⟨Nat.le_refl _, fun _ _ _ => rfl⟩
theorem Frm.trans {b n : Nat} {h1 h2 h3 : OH} (x : Frm b n h1 h2) (y : Frm b n h2 h3) : Frm b n h1 h3 := ⟨Nat.le_trans x.1 y.1, fun j hj hn => (y.2 j (Nat.lt_of_lt_of_le hj x.1) hn).trans (x.2 j hj hn)⟩
theorem Frm.set {b n i : Nat} (h : OH) (h1 : b ≤ i) (h2 : i ≤ b + 10 + 2 * n) (o : OO) : Frm b n h (h.set i o) := ⟨by simp, fun j _ hn => by rw [List.getElem?_set_ne (by omega)]⟩
theorem Frm.app (b n : Nat) (h t : OH) : Frm b n h (h ++ t) := ⟨by simp, fun j hj _ => List.getElem?_append_left hj⟩
theorem Frm.get {b n : Nat} {h h' : OH} (f : Frm b n h h') {j : Nat} {o : OO} (e : h[j]? = some o) (hn : j < b ∨ b + 10 + 2 * n < j) : h'[j]? = some o := (f.2 j (List.getElem?_eq_some_iff.mp e).1 hn).trans e
end
end HR
set_option Elab.async false
set_option linter.all false
set_option maxRecDepth 100000
set_option exponentiation.threshold 5000
namespace HR
open PySem L2
/-! ### the law's own model of a hall: made, heard -/
section
variable {ts : List Tk} {h : OH}
/-- what was there stays -/
def Kept (h h' : OH) : Prop := h.length ≤ h'.length ∧ ∀ j, j < h.length → h'[j]? = h[j]?
theorem Kept.refl (h : OH) : Kept h h := ⟨Nat.le_refl _, fun _ _ => rfl⟩
theorem Kept.trans {a b c : OH} (x : Kept a b) (y : Kept b c) : Kept a c := ⟨Nat.le_trans x.1 y.1, fun j hj => (y.2 j (Nat.lt_of_lt_of_le hj x.1)).trans (x.2 j hj)⟩
theorem Kept.app (h t : OH) : Kept h (h ++ t) := ⟨by simp, fun j hj => List.getElem?_append_left hj⟩
theorem Kept.get {a b : OH} (x : Kept a b) {j : Nat} {o : OO} (e : a[j]? = some o) : b[j]? = some o := (x.2 j (List.getElem?_eq_some_iff.mp e).1).trans e
theorem MdIs.app {b : Nat} {r : Nat → Rs} {tot : Nat → Int} {tick sil : Int} (M : MdIs b ts r tot tick sil h) (t : OH) : MdIs b ts r tot tick sil (h ++ t) :=
  ⟨fun k hk => (Kept.app _ _).get (M.seat k hk), fun q hq => (Kept.app _ _).get (M.que q hq), (Kept.app _ _).get M.mod⟩
end
end HR
set_option Elab.async false
set_option linter.all false
set_option maxRecDepth 20000
set_option exponentiation.threshold 5000
set_option Elab.async false
set_option linter.all false
set_option maxRecDepth 20000
set_option exponentiation.threshold 5000
namespace HR
open PySem L2
/-! ### halls, drawn from the bag -/
section
variable {ns : List Int} {h : OH} {i c : Nat}
theorem ftalks {least more longest : Int} (hs : Bag ns h i c) (hc : c + 300 < 2 ^ 60) (hl : 0 ≤ least) (hl2 : least ≤ 10) (hm : 0 < more) (hm2 : more ≤ 10) (hg : 0 < longest) (hg2 : Small longest) {P : D → OH → Prop}
    (q : ∀ (ts : List (Int × Int)) h', Bag ns h' i (c + 300) → Chl i h h' → least ≤ ts.length → ts.length < least + more → (∀ p ∈ ts, In1 longest p) → P (.lst (ts.map dT)) h') : (Sh.l_talks_2 [.ref i, .int least, .int more, .int longest] h).W P := by
  unfold Sh.l_talks_2; rw [W_fn]; unfold Sh.l_talks_2_b
  refine SW_seqK fun K hK => ?_
  simp
  refine bdrawL hs (by omega) hm (small_64 (by omega)) fun v h1 v0 v1 s1 c1 => ?_
  simp
  refine hK _ _ ?_
  clear hK K
  have r : rngOk (least + v) = true := by simp [rngOk]; omega
  simp [r]
  refine W_lcGo (fun k acc h' => Bag ns h' i (c + 1 + 2 * k) ∧ Chl i h h' ∧ ∃ ts : List (Int × Int), acc = ts.map dT ∧ ts.length = k ∧ ∀ p ∈ ts, In1 longest p) _ _ _ ⟨s1, c1, [], rfl, rfl, by simp⟩ (fun k d hd acc h' hI => ?_) (fun acc h' hI => ?_)
  · obtain ⟨s2, c2, ts, rfl, hk, ht⟩ := hI
    obtain ⟨hk2, rfl⟩ := rngD_at hd
    refine ⟨_, rfl, ?_⟩
    simp [wipeD]
    refine bdrawL s2 (by omega) hg hg2 fun a h2 a0 a1 s3 c3 => ?_
    simp
    refine bdrawL s3 (by omega) hg hg2 fun b h3 b0 b1 s4 c4 => ?_
    simp
    refine ⟨by omega, s4.mono (by omega), c2.trans (c3.trans c4), ts ++ [(1 + a, 1 + b)], by simp [dT], by simp [hk], fun p hp hq => ?_⟩
    rcases List.mem_append.mp hq with hq | hq
    · exact ht (p, hp) hq
    · simp only [List.mem_singleton, Prod.mk.injEq] at hq
      obtain ⟨rfl, rfl⟩ := hq
      refine ⟨?_, ?_, ?_, ?_⟩ <;> dsimp only <;> omega
  · obtain ⟨s2, c2, ts, rfl, hk, ht⟩ := hI
    rw [rngD_len] at hk s2
    exact q ts _ (s2.mono (by omega)) c2 (by omega) (by omega) ht
set_option maxHeartbeats 4000000 in
theorem fhall {most longest : Int} (hs : Bag ns h i c) (hc : c + 10000 < 2 ^ 60) (ht0 : 0 ≤ most) (ht1 : most ≤ 10) (hg : 0 < longest) (hg2 : Small longest) {P : D → OH → Prop}
    (q : ∀ (ts : List Tk) h', Bag ns h' i (c + 10000) → Chg i h h' → ts.length ≤ most → WfHall longest ts → (∀ t ∈ ts, t.name ∈ NAMES) → P (.lst (ts.map dTk)) h') : (Sh.l_hall_2 [.ref i, .int most, .int longest] h).W P := by
  have hi := hs.lt
  unfold Sh.l_hall_2; rw [W_fn]; unfold Sh.l_hall_2_b
  refine SW_seqK fun K hK => ?_
  simp
  refine hK _ _ ?_
  clear hK K
  refine SW_seqK fun K hK => ?_
  try simp
  refine bdrawL (hs.app _) (by omega) (by decide) (small_64 (by decide)) fun v h1 v0 v1 s1 c1 => ?_
  try simp
  refine pickI (ns := [1, 2, 4, 10]) v0 v1 fun ranks hr => ?_
  have hr' : 1 ≤ ranks ∧ ranks ≤ 10 := by simp at hr; omega
  refine hK _ _ ?_
  clear hK K
  have l1 : h1.length = h.length + 1 := by rw [c1.1]; simp
  refine SW_seqK fun K hK => ?_
  simp
  refine hK _ _ ?_
  clear hK K
  refine SW_seqK fun K hK => ?_
  simp
  refine bdrawL (s1.app _) (by omega) (by omega) (small_64 (by omega)) fun w h2 w0 w1 s2 c2 => ?_
  have r : rngOk w = true := by simp [rngOk]; omega
  have l2 : h2.length = h.length + 2 := by rw [c2.1, List.length_append, l1]; rfl
  have hn1 : h1[h.length]? = some (.lst (NAMES.map D.str)) := c1.get (by simp; rfl) (by omega)
  have hn2 : h2[h.length]? = some (.lst (NAMES.map D.str)) := c2.get (by rw [List.getElem?_append_left (by omega)]; exact hn1) (by omega)
  have hf2 : h2[h.length + 1]? = some (.lst []) := c2.get (by rw [← l1]; simp) (by omega)
  have keep : ∀ j, j < h.length → j ≠ i → h2[j]? = h[j]? := fun j hj n => by
    rw [c2.2 j n, List.getElem?_append_left (by omega), c1.2 j n, List.getElem?_append_left hj]
  simp [r]
  rw [l1]
  refine W_forL (fun k e h' => Bag ns h' i (c + 2 + 700 * k) ∧ (∀ j, j < h.length → j ≠ i → h'[j]? = h[j]?) ∧ h'.length = h.length + 2 ∧ ∃ (ts : List Tk) (nm : List Str) (a b c d : Option D), e = [some (.ref i), some (.int most), some (.int longest), some (.ref h.length), some (.int ranks), some (.ref (h.length + 1)), a, b, c, d] ∧
      h'[h.length]? = some (.lst (nm.map D.str)) ∧ h'[h.length + 1]? = some (.lst (ts.map dTk)) ∧ ts.length = k ∧ nm.length + k = 10 ∧ (ts.map (·.name) ++ nm).Perm NAMES ∧ ∀ t ∈ ts, WfTk longest t) _ _ _
    ⟨s2, keep, l2, [], NAMES, none, none, none, none, rfl, hn2, hf2, rfl, rfl, List.Perm.refl _, by simp⟩ (fun k d hd e h' hI => ?_) (fun e h' hI => ?_)
  · obtain ⟨s, kp, lk, ts, nm, ea, eb, ec, ed, rfl, g1, g2, hk, hns, hp, hw⟩ := hI
    obtain ⟨hk2, rfl⟩ := rngD_at hd
    have hk3 : k < 10 := by omega
    refine ⟨_, rfl, ?_⟩
    refine SW_seqK fun K2 hK2 => ?_
    simp [g1]
    refine bdrawL s (by omega) (by omega) (small_64 (by omega)) fun p h3 p0 p1 s3 c3 => ?_
    have g3 := c3.get g1 (by omega)
    simp [g3]
    have hpl : p.toNat < nm.length := by omega
    refine W_popAt p0 (y := .str nm[p.toNat]) (by simp [hpl]) (by omega) ?_
    have s3' := s3.set (j := h.length) (by omega) (.lst ((nm.map D.str).eraseIdx p.toNat))
    have c3' : ∀ j, j ≠ i → j ≠ h.length → (h3.set h.length (.lst ((nm.map D.str).eraseIdx p.toNat)))[j]? = h'[j]? := fun j n1 n2 => by
      rw [List.getElem?_set_ne (Ne.symm n2), c3.2 j n1]
    have n3 : (h3.set h.length (.lst ((nm.map D.str).eraseIdx p.toNat)))[h.length]? = some (.lst ((nm.eraseIdx p.toNat).map D.str)) := by
      rw [List.getElem?_set_self (List.getElem?_eq_some_iff.mp g3).1, eraseIdx_mapF]
    have l4 : (h3.set h.length (.lst ((nm.map D.str).eraseIdx p.toNat))).length = h.length + 2 := by rw [List.length_set, c3.1, lk]
    generalize h3.set h.length (.lst ((nm.map D.str).eraseIdx p.toNat)) = h4 at s3' c3' n3 l4 ⊢
    refine hK2 _ _ ?_
    clear hK2 K2 s3 c3 g3
    refine SW_seqK fun K2 hK2 => ?_
    try simp
    refine bdrawL s3' (by omega) (by decide) (small_64 (by decide)) fun a h5 a0 a1 s5 c5 => ?_
    try simp
    refine pickI (ns := [1, 1, 3, 9]) a0 a1 fun more hm => ?_
    have hm' : 1 ≤ more ∧ more ≤ 9 := by simp at hm; omega
    try simp
    refine ftalks s5 (by omega) (by decide) (by decide) (by omega) (by omega) hg hg2 fun pre h6 s6 c6 l6 l6' w6 => ?_
    refine hK2 _ _ ?_
    clear hK2 K2
    refine SW_seqK fun K2 hK2 => ?_
    try simp
    refine bdrawL s6 (by omega) (by decide) (small_64 (by decide)) fun a h7 a0 a1 s7 c7 => ?_
    try simp
    refine pickI (ns := [1, 3, 8]) a0 a1 fun more2 hm2 => ?_
    have hm2' : 1 ≤ more2 ∧ more2 ≤ 8 := by simp at hm2; omega
    try simp
    refine ftalks s7 (by omega) (by decide) (by decide) (by omega) (by omega) hg hg2 fun cyc h8 s8 c8 l8 l8' w8 => ?_
    refine hK2 _ _ ?_
    clear hK2 K2
    have c48 : Chl i h4 h8 := c5.trans (c6.trans (c7.trans c8))
    have f8 : h8[h.length + 1]? = some (.lst (ts.map dTk)) := by rw [c48.2 _ (by omega), c3' _ (by omega) (by omega)]; exact g2
    have n8 : h8[h.length]? = some (.lst ((nm.eraseIdx p.toNat).map D.str)) := by rw [c48.2 _ (by omega)]; exact n3
    simp [f8]
    refine bdrawL s8 (by omega) (by omega) (small_64 (by omega)) fun rk h9 rk0 rk1 s9 c9 => ?_
    have f9 := c9.get f8 (by omega)
    have n9 := c9.get n8 (by omega)
    have l9 : h9.length = h.length + 2 := by rw [c9.1, c48.1, l4]
    have k9 : ∀ j, j ≠ i → j ≠ h.length → h9[j]? = h'[j]? := fun j a2 a3 => by rw [c9.2 j a2, c48.2 j a2, c3' j a2 a3]
    have hx : nm[p.toNat] ∈ NAMES := hp.mem_iff.mp (List.mem_append_right _ (List.getElem_mem hpl))
    simp [f9]
    refine ⟨by omega, (s9.set (by omega) _).mono (by omega), fun j hj n => ?_, by simpa using l9, ts ++ [⟨nm[p.toNat], 1 + rk, pre, cyc⟩], nm.eraseIdx p.toNat, ?_, ?_, by simp [hk], ?_, ?_, ?_⟩
    · rw [List.getElem?_set_ne (by omega), k9 j n (by omega)]
      exact kp j hj n
    · first
      | exact n9
      | (rw [List.getElem?_set_ne (by omega)]; exact n9)
    · rw [List.getElem?_set_self (List.getElem?_eq_some_iff.mp f9).1]
      simp [dTk]
    · rw [List.length_eraseIdx, if_pos hpl]; omega
    · refine List.Perm.trans ?_ hp
      simp only [List.map_append, List.map_cons, List.map_nil, List.append_assoc, List.singleton_append]
      exact List.Perm.append_left _ (eraseIdx_permF nm _ hpl)
    · intro t htm
      rcases List.mem_append.mp htm with htm | htm
      · exact hw t htm
      · simp only [List.mem_singleton] at htm
        subst htm
        exact ⟨names_wf _ hx, by dsimp only; omega, by dsimp only; omega, by dsimp only; omega, by dsimp only; omega, by dsimp only; omega, w6, w8⟩
  · obtain ⟨s, kp, lk, ts, nm, ea, eb, ec, ed, rfl, g1, g2, hk, hns, hp, hw⟩ := hI
    rw [rngD_len] at hk hns s
    refine hK _ _ ?_
    clear hK K
    have nd : (ts.map (·.name) ++ nm).Nodup := hp.nodup_iff.mpr names_nd
    have nd1 := (List.nodup_append.mp nd).1
    simp [g2]
    exact q ts _ ((s.set (by omega) _).mono (by omega)) ⟨by simp; omega, fun j hj n => by rw [List.getElem?_set_ne (by omega)]; exact kp j hj n⟩ (by omega) ⟨by omega, hw, nd1⟩ fun t ht => hp.mem_iff.mp (List.mem_append_left _ (List.mem_map_of_mem ht))
end
end HR
set_option Elab.async false
set_option linter.all false
set_option maxRecDepth 20000
set_option exponentiation.threshold 5000
namespace HR
open PySem L2
theorem d3_eq : Sh.l_draw_3 = Sh.l_draw_2 := rfl
theorem h4_eq : Sh.l_hall_4 = Sh.l_hall_2 := rfl
theorem bdraw56 {ns : List Int} {h : OH} {c : Nat} {n : Int} (hs : Bag ns h 0 c) (hc : c < 2 ^ 60) (hn : 0 < n) (hn2 : Small n) {P : D → OH → Prop} (q : ∀ (v : Nat) h', (v : Int) < n → Bag ns h' 0 (c + 1) → Chl 0 h h' → P (.int (v : Int)) h') : (Sh.l_draw_3 [.ref 0, .int n] h).W P := by
  rw [d3_eq]
  refine bdrawL hs hc hn hn2 fun v h' v0 v1 b' c' => ?_
  obtain ⟨m, rfl⟩ : ∃ m : Nat, v = m := ⟨v.toNat, by omega⟩
  exact q m h' v1 b' c'
theorem hall56 {ns : List Int} {h : OH} {i c : Nat} {most longest : Int} (hs : Bag ns h i c) (hc : c + 10000 < 2 ^ 60) (ht0 : 0 ≤ most) (ht1 : most ≤ 10) (hg : 0 < longest) (hg2 : Small longest) {P : D → OH → Prop}
    (q : ∀ (ts : List Tk) h', Bag ns h' i (c + 10000) → Chg i h h' → ts.length ≤ most → WfHall longest ts → (∀ t ∈ ts, t.name ∈ NAMES) → P (.lst (ts.map dTk)) h') : (Sh.l_hall_4 [.ref i, .int most, .int longest] h).W P := by
  rw [h4_eq]
  exact fhall hs hc ht0 ht1 hg hg2 q
/-! ### _law_changed -/
def CW : List (List Nat) := (["", "|", "-", "a", "A", "0", "01", "1:1", "1:", ":1", "1:1:1", "0:1", "1:0", "11", "abcdefghi", "+1", "1 |", "1_0", "1_0:1", "a_b", "1.0:1"] : List String).map fun s => (Str.ofString s).cps.toList
theorem cw_ok : ∀ p ∈ CW, (∀ c ∈ p, c < 128) ∧ p.length ≤ 9 := by decide +kernel
def CS : List Nat := (Str.ofString " 0123456789:|-ab\nA_.+',;").cps.toList
theorem cs_ok : CS.length = 24 ∧ ∀ c ∈ CS, c < 128 := by decide +kernel
end HR
set_option Elab.async false
set_option linter.all false
set_option maxRecDepth 20000
set_option exponentiation.threshold 5000
namespace HR
open PySem L2
theorem stepIx_rev (n : Nat) : stepIx n none none (some (-1)) = (List.range n).map fun k => n - 1 - k := by
  have e1 : (sliceBounds none none (some (-1)) n) = ((n : Int) - 1, -1, -1) := rfl
  unfold stepIx
  rw [e1]
  unfold sliceRange
  dsimp only
  rw [if_neg (by decide)]
  have cnt : (if ((n : Int) - 1) > -1 then (((n : Int) - 1) - (-1) - (-1) - 1) / (-(-1)) else 0) = (n : Int) := by
    by_cases z : n = 0
    · subst z; rfl
    · rw [if_pos (by omega)]
      have : -(-1 : Int) = 1 := rfl
      rw [this, Int.ediv_one]
      omega
  rw [cnt]
  simp only [Int.toNat_natCast]
  refine List.map_congr_left fun k hk => ?_
  have := List.mem_range.mp hk
  omega
theorem pickA_m {α : Type} {xs : List α} {g : Nat → Nat} {f : Nat → α} : ∀ {ix : List Nat}, (∀ k ∈ ix, xs[g k]? = some (f k)) → pickA xs (ix.map g) = ix.map f
  | [], _ => rfl
  | k :: ix, h => by
    rw [List.map_cons, pickA_cons_some (h k List.mem_cons_self), pickA_m fun y hy => h y (List.mem_cons_of_mem _ hy)]
    rfl
theorem stepD_rev (xs : List D) : stepD xs none none (some (-1)) = xs.reverse := by
  unfold stepD
  rw [stepIx_rev, pickA_m (f := fun k => xs.reverse.getD k .non) fun k hk => ?_]
  · refine List.ext_getElem (by simp) fun i h1 h2 => ?_
    simp at h1 h2
    simp [h1]
  · have hk := List.mem_range.mp hk
    rw [List.getD_eq_getElem?_getD, List.getElem?_reverse hk, List.getElem?_eq_getElem (by omega)]
    rfl
theorem W_ixN {xs : List (List Nat)} {v : Nat} (hv : v < xs.length) (h : OH) {P : D → OH → Prop} (q : ∀ p ∈ xs, P (.str (SX.S p)) h) : (opIx (.lst (xs.map fun p => D.str (SX.S p))) (.int (v : Int)) h).W P := by
  rw [W_ixL, atI_z (by omega) (by simp; omega)]
  have e : (xs.map fun p => D.str (SX.S p))[((v : Nat) : Int).toNat]? = some (D.str (SX.S xs[v])) := by
    rw [Int.toNat_natCast, List.getElem?_map, List.getElem?_eq_getElem hv]
    rfl
  rw [e]
  exact q _ (List.getElem_mem hv)
theorem W_ixSg {p : List Nat} {v : Nat} (hv : v < p.length) (b : p.length ≤ 1000000) (h : OH) {P : D → OH → Prop} (q : ∀ c ∈ p, P (.str (SX.S [c])) h) : (opIx (.str (SX.S p)) (.int (v : Int)) h).W P := by
  unfold opIx
  dsimp only
  rw [if_pos (by rw [SX.S_len]; exact b), atI_z (by omega) (by omega)]
  have e : p[((v : Nat) : Int).toNat]? = some p[v] := by
    rw [Int.toNat_natCast, List.getElem?_eq_getElem hv]
  rw [e]
  exact q _ (List.getElem_mem hv)
theorem cw_eq : ([.str "", .str "|", .str "-", .str "a", .str "A", .str "0", .str "01", .str "1:1", .str "1:", .str ":1", .str "1:1:1", .str "0:1", .str "1:0", .str "11", .str "abcdefghi", .str "+1", .str "1 |", .str "1_0", .str "1_0:1", .str "a_b", .str "1.0:1"] : List D) = CW.map fun p => D.str (SX.S p) := by
  unfold CW
  rw [List.map_map]
  simp only [List.map_cons, List.map_nil, Function.comp_apply, SX.S_tl]
theorem cs_eq : (Str.ofString " 0123456789:|-ab\nA_.+',;") = SX.S CS := (SX.S_tl _).symm
theorem mk_eq : ([.str (Str.ofString " "), .str (Str.ofString "\n")] : List D) = ([[32], [10]] : List (List Nat)).map fun p => D.str (SX.S p) := rfl
theorem W_spR {c : Nat} (hc : c < 256) {l : List Nat} (b : l.length ≤ 200000) (h : OH) {PD : D → OH → Prop} : (opSplit (SX.S l) (.str (SX.S [c])) h).W PD = PD (.lst ((sp c l).map fun p => D.str (SX.S p))) h := by
  have e := split_sp hc (SX.S l)
  rw [sgs_S] at e
  rw [W_splitA e (by simp [SX.S, Str.length]) (by rw [SX.S_len]; omega), List.map_map]
  rfl
theorem W_cutDrop1 {l : List Nat} (b : l.length ≤ 1000000) (k : Nat) (h : OH) {PD : D → OH → Prop} : (opCutT (.str (SX.S l)) (some ((k : Int) + 1)) none h).W PD = PD (.str (SX.S (l.drop (k + 1)))) h := by
  rw [show ((k : Int) + 1) = ((k + 1 : Nat) : Int) by omega, W_cutDrop b]
/-! the seven changes -/
theorem Okr.mono {n r n' r' : Nat} {l : List Nat} (w : Okr n r l) (a : n ≤ n') (b : r ≤ r') : Okr n' r' l := ⟨Nat.le_trans w.len a, w.chr, w.run.mono b⟩
section
variable {n r : Nat} {l : List Nat} (w : Okr n r l)
include w
theorem Okr.tk (k : Nat) : Okr n r (l.take k) := ⟨Nat.le_trans (List.length_take_le' ..) w.len, fun c hc => w.chr c (List.mem_of_mem_take hc), w.run.inf (List.take_prefix _ _).isInfix⟩
theorem Okr.dr (k : Nat) : Okr n r (l.drop k) := ⟨by rw [List.length_drop]; have := w.len; omega, fun c hc => w.chr c (List.mem_of_mem_drop hc), w.run.inf (List.drop_suffix _ _).isInfix⟩
theorem tkdr (i j : Nat) (h : i ≤ j) : (l.take i).length + (l.drop j).length ≤ l.length := by
  rw [List.length_take, List.length_drop]
  omega
theorem ch_ins {c : Nat} (hc : c < 128) (i j : Nat) (h : i ≤ j) : Okr (2 * n + 20) (2 * r + 1) ((l.take i ++ [c]) ++ l.drop j) := by
  have a := w.tk i
  have b := w.dr j
  have tl := tkdr w i j h
  have wl := w.len
  refine ⟨by simp only [List.length_append, List.length_cons, List.length_nil]; omega, fun x hx => ?_, ?_⟩
  · rcases List.mem_append.mp hx with hx | hx
    · rcases List.mem_append.mp hx with hx | hx
      · exact a.chr x hx
      · rw [List.mem_singleton] at hx
        subst hx
        exact hc
    · exact b.chr x hx
  · exact ((a.run.app (Run.len [c])).app b.run).mono (by simp only [List.length_cons, List.length_nil]; omega)
theorem ch_del (i j : Nat) (h : i ≤ j) : Okr (2 * n + 20) (2 * r + 1) (l.take i ++ l.drop j) := by
  have a := w.tk i
  have b := w.dr j
  have tl := tkdr w i j h
  have wl := w.len
  refine ⟨by simp only [List.length_append]; omega, fun x hx => ?_, ?_⟩
  · rcases List.mem_append.mp hx with hx | hx
    · exact a.chr x hx
    · exact b.chr x hx
  · exact (a.run.app b.run).mono (by omega)
theorem ch_join {m : Nat} (hm : ¬ isDg m) (hm2 : m < 128) {ps : List (List Nat)} (h : ∀ p ∈ ps, p ∈ sp m l ∨ p ∈ CW) (b : sumP ps ≤ 2 * n + 20) (hr : 9 ≤ r) : Okr (2 * n + 20) (2 * r + 1) (TL.joinL [m] ps) := by
  refine Okr.join hm hm2 (fun p hp => ?_) b
  rcases h p hp with q | q
  · obtain ⟨a, b⟩ := w.parts p q
    exact ⟨a, b.mono (by omega)⟩
  · obtain ⟨a, b⟩ := cw_ok p q
    exact ⟨a, (Run.len p).mono (by omega)⟩
theorem sumP_sp (m : Nat) : sumP (sp m l) ≤ n + 1 := by
  have := sp_sum m l
  have := w.len
  unfold sumP
  omega
end
end HR
set_option Elab.async false
set_option linter.all false
set_option maxRecDepth 20000
set_option exponentiation.threshold 5000
namespace HR
open PySem L2
theorem changed56 {ns : List Int} {h : OH} {c n r : Nat} {l : List Nat} (hs : Bag ns h 0 c) (hc : c + 10 < 2 ^ 60) (w : Okr n r l) (hn : n ≤ 100000) (hr : 9 ≤ r) {P : D → OH → Prop}
    (q : ∀ l' h', Okr (2 * n + 20) (2 * r + 1) l' → Bag ns h' 0 (c + 10) → P (.str (SX.S l')) h') : (Sh.l_changed_5 [.ref 0, .str (SX.S l)] h).W P := by
  have dr := fun {h : OH} {c : Nat} {n : Int} (hs : Bag ns h 0 c) (hc : c < 2 ^ 60) (hn : 0 < n) (hn2 : Small n) {P : D → OH → Prop} => bdraw56 (P := P) hs hc hn hn2
  unfold Sh.l_changed_5; rw [W_fn]; unfold Sh.l_changed_5_b
  generalize Sh.l_draw_3 = DR at dr ⊢
  have wl := w.len
  have lb : l.length ≤ 1000000 := by omega
  have lb2 : l.length ≤ 200000 := by omega
  refine SW_seqK fun K hK => ?_
  simp
  refine hK _ _ ?_
  clear hK K
  refine SW_seqK fun K hK => ?_
  simp
  refine hK _ _ ?_
  clear hK K
  refine SW_seqK fun K hK => ?_
  simp [cs_eq]
  rw [cw_eq]
  refine hK _ _ ?_
  clear hK K
  refine SW_seqK fun K hK => ?_
  rw [SW_par]
  simp [W_lenS, SX.S_len, lb]
  refine dr hs (by omega) (by omega) (small_64 (by omega)) fun at_ h1 a1 s1 c1 => ?_
  refine dr s1 (by omega) (by decide) (small_64 (by decide)) fun sg h2 g1 s2 c2 => ?_
  refine W_ixSg (by rw [cs_ok.1]; omega) (by rw [cs_ok.1]; decide) h2 fun cc hcc => ?_
  have hc8 := cs_ok.2 cc hcc
  refine hK _ _ ?_
  clear hK K
  refine SW_seqK fun K hK => ?_
  simp
  refine dr s2 (by omega) (by decide) (small_64 (by decide)) fun mk h3 m1 s3 c3 => ?_
  rw [mk_eq]
  refine W_ixN (by simp only [List.length_cons, List.length_nil]; omega) h3 fun pm hpm => ?_
  have hm : ∃ m, pm = [m] ∧ ¬ isDg m ∧ m < 128 := by
    simp only [List.mem_cons, List.not_mem_nil, or_false] at hpm
    rcases hpm with rfl | rfl
    · exact ⟨32, rfl, by unfold isDg; omega, by decide⟩
    · exact ⟨10, rfl, by unfold isDg; omega, by decide⟩
  obtain ⟨m, rfl, hmd, hm8⟩ := hm
  refine hK _ _ ?_
  clear hK K
  refine SW_seqK fun K hK => ?_
  simp [W_spR (c := m) (by omega) lb2]
  refine hK _ _ ?_
  clear hK K
  have pl : 1 ≤ (sp m l).length := List.length_pos_iff.mpr (sp_ne m l)
  have pl2 := sp_len m l
  have sm := sumP_sp w m
  have spm : ∀ p ∈ sp m l, p ∈ sp m l ∨ p ∈ CW := fun p hp => .inl hp
  generalize hps : sp m l = ps at pl pl2 sm spm ⊢
  refine SW_seqK fun K hK => ?_
  simp
  refine dr s3 (by omega) (by omega) (small_64 (by omega)) fun on h4 o1 s4 c4 => ?_
  refine hK _ _ ?_
  clear hK K
  refine SW_seqK fun K hK => ?_
  have ll : l.length ≤ 100000 := by omega
  have t1 : (l.take at_).length ≤ 100000 := by rw [List.length_take]; omega
  have d1 : (l.drop at_).length ≤ 100000 := by rw [List.length_drop]; omega
  have d2 : (l.drop (at_ + 1)).length ≤ 100000 := by rw [List.length_drop]; omega
  have A1 : ∀ (h : OH) (PD : D → OH → Prop), (opAdd (.str (SX.S (l.take at_))) (.str (SX.S [cc])) h).W PD = PD (.str (SX.S (l.take at_ ++ [cc]))) h := fun h PD => W_addS (by simp only [List.length_cons, List.length_nil]; omega) h
  have A2 : ∀ (h : OH) (PD : D → OH → Prop), (opAdd (.str (SX.S (l.take at_ ++ [cc]))) (.str (SX.S (l.drop at_))) h).W PD = PD (.str (SX.S (l.take at_ ++ [cc] ++ l.drop at_))) h := fun h PD => W_addS (by rw [List.length_append]; simp only [List.length_cons, List.length_nil]; omega) h
  have A3 : ∀ (h : OH) (PD : D → OH → Prop), (opAdd (.str (SX.S (l.take at_))) (.str (SX.S (l.drop (at_ + 1)))) h).W PD = PD (.str (SX.S (l.take at_ ++ l.drop (at_ + 1)))) h := fun h PD => W_addS (by omega) h
  have A4 : ∀ (h : OH) (PD : D → OH → Prop), (opAdd (.str (SX.S (l.take at_ ++ [cc]))) (.str (SX.S (l.drop (at_ + 1)))) h).W PD = PD (.str (SX.S (l.take at_ ++ [cc] ++ l.drop (at_ + 1)))) h := fun h PD => W_addS (by rw [List.length_append]; simp only [List.length_cons, List.length_nil]; omega) h
  have k1 := ch_ins w hc8 at_ at_ (Nat.le_refl _)
  have k2 := ch_del w at_ (at_ + 1) (by omega)
  have k3 := ch_ins w hc8 at_ (at_ + 1) (by omega)
  simp [W_cutTake lb, W_cutDrop lb, W_cutDrop1 lb, A1, A2, A3, A4]
  refine hK _ _ ?_
  clear hK K A1 A2 A3 A4
  generalize hf : (fun p : List Nat => D.str (SX.S p)) = f
  have jn : ∀ {qs : List (List Nat)} (h : OH) (PD : D → OH → Prop), sumP qs ≤ 1000000 → (opJoin (SX.S [m]) (.lst (qs.map f)) h).W PD = PD (.str (SX.S (TL.joinL [m] qs))) h := fun h PD b => by rw [← hf]; exact W_joinP b h
  have e1 : (ps.map f).take on ++ (ps.map f).drop (on + 1) = (ps.take on ++ ps.drop (on + 1)).map f := by simp
  have e2 : (ps.map f).take (on + 1) ++ (ps.map f).drop on = (ps.take (on + 1) ++ ps.drop on).map f := by simp
  have st1 := sumP_take ps on
  have st2 := sumP_take ps (on + 1)
  have sd1 := sumP_drop ps on
  have sd2 := sumP_drop ps (on + 1)
  have b1 : sumP (ps.take on ++ ps.drop (on + 1)) ≤ 2 * n + 20 := by
    have h1 := sumP_app (ps.take on) (ps.drop on)
    rw [List.take_append_drop] at h1
    have h2 : sumP (ps.drop (on + 1)) ≤ sumP (ps.drop on) := by
      rw [← List.drop_drop]
      exact sumP_drop _ _
    rw [sumP_app]
    omega
  have b2 : sumP (ps.take (on + 1) ++ ps.drop on) ≤ 2 * n + 20 := by
    rw [sumP_app]
    omega
  have c1 : ∀ ds : List D, cutD ds none (some (on : Int)) = ds.take on := fun ds => by rw [cutD_take _ _ (by omega), Int.toNat_natCast]
  have c2 : ∀ ds : List D, cutD ds (some (on : Int)) none = ds.drop on := fun ds => by rw [cutD_drop _ _ (by omega), Int.toNat_natCast]
  have c3 : ∀ ds : List D, cutD ds none (some ((on : Int) + 1)) = ds.take (on + 1) := fun ds => by rw [cutD_take _ _ (by omega)]; congr 1
  have c4 : ∀ ds : List D, cutD ds (some ((on : Int) + 1)) none = ds.drop (on + 1) := fun ds => by rw [cutD_drop _ _ (by omega)]; congr 1
  have lps : (ps.map f).length ≤ 100001 := by rw [List.length_map]; omega
  refine SW_seqK fun K hK => ?_
  simp [c1, c2, c3, c4]
  refine ⟨by omega, ?_⟩
  rw [e1, jn _ _ (by omega)]
  refine ⟨by omega, ?_⟩
  rw [e2, jn _ _ (by omega)]
  refine hK _ _ ?_
  clear hK K
  refine SW_seqK fun K hK => ?_
  have er : (ps.map f).reverse = ps.reverse.map f := by simp
  have rv : ∀ (e : Env') (h : OH) (PD : D → OH → Prop), e[7]? = some (some (.lst (ps.map f))) → (sCutS false (sVar 7) sNoPart sNoPart (sPart (sUn opNeg (sC (D.int 1)))) e h).W PD = PD (.lst (ps.reverse.map f)) h := fun e h PD e7 => by
    unfold sCutS
    rw [W_bind, W_sVar', e7]
    dsimp only
    simp [sNoPart, sPart, stepD_rev]
  simp [c1, c4]
  rw [rv _ _ _ rfl, jn _ _ (by rw [sumP_rev]; omega)]
  refine dr s4 (by omega) (by decide) (small_64 (by decide)) fun wd h5 w1 s5 c5 => ?_
  have ixW : ∀ {v : Nat} {h : OH} {P : D → OH → Prop}, v < 21 → (∀ p ∈ CW, P (f p) h) → (opIx (.lst (CW.map f)) (.int (v : Int)) h).W P := fun hv hq => by
    subst hf
    exact W_ixN hv _ hq
  refine ixW (by omega) fun wp hwp => ?_
  have e3 : (ps.map f).take on ++ f wp :: (ps.map f).drop (on + 1) = (ps.take on ++ wp :: ps.drop (on + 1)).map f := by simp
  refine ⟨by omega, by omega, ?_⟩
  have lw := (cw_ok wp hwp).2
  have b3 : sumP (ps.take on ++ wp :: ps.drop (on + 1)) ≤ 2 * n + 20 := by
    have h0 : sumP (wp :: ps.drop (on + 1)) = wp.length + 1 + sumP (ps.drop (on + 1)) := by simp [sumP]
    rw [sumP_app] at b1 ⊢
    rw [h0]
    have h1 := sumP_app (ps.take on) (ps.drop on)
    rw [List.take_append_drop] at h1
    have h2 : sumP (ps.drop (on + 1)) ≤ sumP (ps.drop on) := by
      rw [← List.drop_drop]
      exact sumP_drop _ _
    omega
  rw [e3, jn _ _ (by omega)]
  refine hK _ _ ?_
  clear hK K
  have k4 := ch_join w hmd hm8 (ps := ps.take on ++ ps.drop (on + 1)) (fun p hp => by
    rcases List.mem_append.mp hp with z | z
    · exact .inl (by rw [hps]; exact List.mem_of_mem_take z)
    · exact .inl (by rw [hps]; exact List.mem_of_mem_drop z)) b1 hr
  have k5 := ch_join w hmd hm8 (ps := ps.take (on + 1) ++ ps.drop on) (fun p hp => by
    rcases List.mem_append.mp hp with z | z
    · exact .inl (by rw [hps]; exact List.mem_of_mem_take z)
    · exact .inl (by rw [hps]; exact List.mem_of_mem_drop z)) b2 hr
  have k6 := ch_join w hmd hm8 (ps := ps.reverse) (fun p hp => .inl (by rw [hps]; exact List.mem_reverse.mp hp)) (by rw [sumP_rev]; omega) hr
  have k7 := ch_join w hmd hm8 (ps := ps.take on ++ wp :: ps.drop (on + 1)) (fun p hp => by
    rcases List.mem_append.mp hp with z | z
    · exact .inl (by rw [hps]; exact List.mem_of_mem_take z)
    · rcases List.mem_cons.mp z with z | z
      · exact .inr (by rw [z]; exact hwp)
      · exact .inl (by rw [hps]; exact List.mem_of_mem_drop z)) b3 hr
  simp
  refine dr s5 (by omega) (by decide) (small_64 (by decide)) fun pk h6 p1 s6 c6 => ?_
  have k1' : Okr (2 * n + 20) (2 * r + 1) (l.take at_ ++ cc :: l.drop at_) := by simpa using k1
  have k3' : Okr (2 * n + 20) (2 * r + 1) (l.take at_ ++ cc :: l.drop (at_ + 1)) := by simpa using k3
  have hC : ∀ p ∈ ([l.take at_ ++ cc :: l.drop at_, l.take at_ ++ l.drop (at_ + 1), l.take at_ ++ cc :: l.drop (at_ + 1), TL.joinL [m] (ps.take on ++ ps.drop (on + 1)), TL.joinL [m] (ps.take (on + 1) ++ ps.drop on), TL.joinL [m] ps.reverse, TL.joinL [m] (ps.take on ++ wp :: ps.drop (on + 1))] : List (List Nat)), Okr (2 * n + 20) (2 * r + 1) p := fun p hp => by
    simp only [List.mem_cons, List.not_mem_nil, or_false] at hp
    rcases hp with rfl | rfl | rfl | rfl | rfl | rfl | rfl
    · exact k1'
    · exact k2
    · exact k3'
    · exact k4
    · exact k5
    · exact k6
    · exact k7
  refine W_ixN (xs := [l.take at_ ++ cc :: l.drop at_, l.take at_ ++ l.drop (at_ + 1), l.take at_ ++ cc :: l.drop (at_ + 1), TL.joinL [m] (ps.take on ++ ps.drop (on + 1)), TL.joinL [m] (ps.take (on + 1) ++ ps.drop on), TL.joinL [m] ps.reverse, TL.joinL [m] (ps.take on ++ wp :: ps.drop (on + 1))]) (by simp only [List.length_cons, List.length_nil]; omega) h6 fun p hp => ?_
  exact q p h6 (hC p hp) (s6.mono (by omega))
end HR
set_option Elab.async false
set_option linter.all false
set_option maxRecDepth 20000
set_option exponentiation.threshold 5000
namespace HR
open PySem L2
/-! ### the texts that are changed -/
theorem ndg (m : Nat) (h : m < 48 ∨ 57 < m) : ¬ isDg m := by
  unfold isDg
  omega
theorem word_run {p : Int × Int} (w : PNum p) : Run 31 (sgs (wordT p)) := by
  have e : sgs (wordT p) = sgs (strI p.1) ++ 58 :: sgs (strI p.2) := by
    unfold wordT
    have c : sgs CO = [58] := rfl
    rw [sgs_app, sgs_app, c]
    simp
  have l1 := (num_len w.1).2
  have l2 := (num_len w.2).2
  rw [e]
  refine Run.sep (ndg 58 (by omega)) ((Run.len _).mono ?_) ((Run.len _).mono ?_)
  · rw [sgs_len]; exact l1
  · rw [sgs_len]; exact l2
theorem wds_run {t : Tk} (w : WfTk T30 t) : ∀ x ∈ wds t, Run 31 (sgs x) := by
  intro x hx
  unfold wds wdsC at hx
  simp only [List.mem_cons, List.mem_append, List.mem_map, List.not_mem_nil, or_false] at hx
  have sm : ∀ y : Str, y.length ≤ 31 → Run 31 (sgs y) := fun y h => (Run.len _).mono (by rw [sgs_len]; exact h)
  rcases hx with rfl | rfl | (⟨p, hp, rfl⟩ | rfl) | ⟨p, hp, rfl⟩
  · exact sm _ (by have := w.name.2.1; omega)
  · exact sm _ (num_len (rank_num w)).2
  · exact word_run (pnum (w.pre p hp))
  · exact sm _ (by decide)
  · exact word_run (pnum (w.cyc p hp))
theorem line_okr {t : Tk} (w : WfTk T30 t) : (∀ c ∈ sgs (lineT t), c < 128) ∧ Run 31 (sgs (lineT t)) := by
  have e : sgs (lineT t) = TL.joinL [32] ((wds t).map sgs) := join_sgs 32 (wds t)
  rw [e]
  refine ⟨fun c hc => ?_, Run.join (ndg 32 (by omega)) fun p hp => ?_⟩
  · rcases joinL_mem hc with rfl | ⟨p, hp, hc⟩
    · decide
    · obtain ⟨x, hx, rfl⟩ := List.mem_map.mp hp
      have := wds_sgs w x hx c hc
      omega
  · obtain ⟨x, hx, rfl⟩ := List.mem_map.mp hp
    exact wds_run w x hx
theorem hallT_okr {ts : List Tk} (w : WfHall T30 ts) : Okr 12170 31 (sgs (hallT ts)) := by
  have e : sgs (hallT ts) = TL.joinL [10] ((ts.map lineT).map sgs) := join_sgs 10 (ts.map lineT)
  have hl := (hall_len w).1
  refine ⟨by rw [sgs_len]; exact hl, ?_, ?_⟩
  · rw [e]
    intro c hc
    rcases joinL_mem hc with rfl | ⟨p, hp, hc⟩
    · decide
    · obtain ⟨x, hx, rfl⟩ := List.mem_map.mp hp
      obtain ⟨t, ht, rfl⟩ := List.mem_map.mp hx
      exact (line_okr (w.tk t ht)).1 c hc
  · rw [e]
    refine Run.join (ndg 10 (by omega)) fun p hp => ?_
    obtain ⟨x, hx, rfl⟩ := List.mem_map.mp hp
    obtain ⟨t, ht, rfl⟩ := List.mem_map.mp hx
    exact (line_okr (w.tk t ht)).2
def ITM : List (List Nat) := [[45], [97], [98], [122, 122], [97, 98, 99, 100, 101, 102, 103, 104]]
theorem itm_ok : ∀ p ∈ ITM, (∀ c ∈ p, c < 128) ∧ p.length ≤ 8 := by decide
theorem itm_eq : ([.str (Str.ofString "-"), .str (Str.ofString "a"), .str (Str.ofString "b"), .str (Str.ofString "zz"), .str (Str.ofString "abcdefgh")] : List D) = ITM.map fun p => D.str (SX.S p) := rfl
theorem sumP_le {ps : List (List Nat)} (h : ∀ p ∈ ps, p.length ≤ 8) : sumP ps ≤ 9 * ps.length := by
  induction ps with
  | nil => simp [sumP]
  | cons p ps ih =>
    have := ih fun q hq => h q (List.mem_cons_of_mem _ hq)
    have := h p (List.mem_cons_self ..)
    simp only [sumP, List.map_cons, List.sum_cons, List.length_cons] at *
    omega
theorem rec_okr {ps : List (List Nat)} (h : ∀ p ∈ ps, p ∈ ITM) (l : ps.length ≤ 30) : Okr 12170 31 (TL.joinL [32] ps) := by
  refine Okr.join (ndg 32 (by omega)) (by decide) (fun p hp => ?_) ?_
  · obtain ⟨a, b⟩ := itm_ok p (h p hp)
    exact ⟨a, (Run.len p).mono (by omega)⟩
  · have := sumP_le fun p hp => (itm_ok p (h p hp)).2
    omega
/-! changes, one after another -/
def NN : Nat → Nat
  | 0 => 12170
  | j + 1 => 2 * NN j + 20
def RN : Nat → Nat
  | 0 => 31
  | j + 1 => 2 * RN j + 1
theorem nn_le : ∀ j, j ≤ 3 → NN j ≤ 97500 ∧ 9 ≤ RN j ∧ RN j ≤ 255
  | 0, _ => by decide
  | 1, _ => by decide
  | 2, _ => by decide
  | 3, _ => by decide
  | j + 4, h => by omega
theorem errN : errT "None" = ("error None" : Str) := by decide +kernel
theorem err401 : errT (strI ((401 : Nat) : Int)) = ("error 401" : Str) := by decide +kernel
theorem okl_nodig {l : List Nat} (h1 : l.length ≤ 4000) (h2 : ∀ c ∈ l, c < 128 ∧ ¬ (48 ≤ c ∧ c ≤ 57)) : Okl l := by
  refine ⟨h1, fun c hc => (h2 c hc).1, fun x hx d => ?_⟩
  cases x with
  | nil => simp
  | cons c x => exact absurd (d c (List.mem_cons_self ..)) (h2 c (hx.subset (List.mem_cons_self ..))).2
def LONG : List Nat := TL.joinL [32] (List.replicate 401 [97])
theorem long_ok : Okl LONG := okl_nodig (by decide +kernel) (by decide +kernel)
theorem longA_ok : Okl (LONG ++ [32, 65]) := okl_nodig (by decide +kernel) (by decide +kernel)
theorem long2_ok : Okl (LONG.drop 2) := okl_nodig (by decide +kernel) (by decide +kernel)
def SHORT : List Nat := [97, 32, 49, 49, 32, 124, 32, 49, 58, 49]
theorem short_ok : Okl SHORT := ⟨by decide, by decide, fun x hx _ => Nat.le_trans hx.length_le (by decide)⟩
theorem long_r : recR LONG = .str "error None" := by
  rw [← errN]
  kernel_rfl
theorem longA_r : recR (LONG ++ [32, 65]) = .str "error 401" := by
  rw [← err401]
  kernel_rfl
theorem long2_r : recR (LONG.drop 2) = .lst (List.replicate 400 (.str "a")) := by kernel_rfl
theorem short_r : hallR SHORT = .str "error None" := by
  rw [← errN]
  kernel_rfl
end HR
set_option Elab.async false
set_option linter.all false
set_option maxRecDepth 20000
set_option exponentiation.threshold 5000
namespace HR
open PySem L2
/-! ### law k56, part by part -/
def B8 : SS := (sSeq (sSet 8 (sLc false (sIt (sBin opAdd (sVar 6) (sVar 7))) (gN 9) sYes (sBin opAdd (sBin opAdd (sCall (b1 opStrI) (sCons (sBin opIx (sVar 9) (sC (.int 0))) sNil)) (sC (.str ":"))) (sCall (b1 opStrI) (sCons (sBin opIx (sVar 9) (sC (.int 1))) sNil))) [9])) (sExpr (sMtO gAppend (sVar 3) (sCons (sM1 opJoin (sC (.str " ")) (sBin opAdd (sBin opAdd (sBin opAdd (sLst (sCons (sVar 4) (sCons (sCall (b1 opStrI) (sCons (sVar 5) sNil)) sNil))) (sCut false (sVar 8) sNoPart (sPart (sCall bLen (sCons (sVar 6) sNil))))) (sLst (sCons (sC (.str "|")) sNil))) (sCut false (sVar 8) (sPart (sCall bLen (sCons (sVar 6) sNil))) sNoPart))) sNil))))
def B12 : SS := (sSeq (sSet 13 (sBin opIx (sVar 11) (sCall (withD [] Sh.l_draw_3) (sCons (sVar 1) (sCons (sC (.int 2)) sNil))))) (sSeq (sFor (sRng1 (sCall (withD [] Sh.l_draw_3) (sCons (sVar 1) (sCons (sC (.int 4)) sNil)))) (gN 14) (sSet 13 (sCall (withD [] Sh.l_changed_5) (sCons (sVar 1) (sCons (sVar 13) sNil))))) (sSeq (sSet 13 (sCutT (sVar 13) sNoPart (sPart (sC (.int 4000))))) (sSeq (sSet 15 (sLst (sCons (sCall (withD [] (pureF Sh.l_hall_of_1)) (sCons (sVar 13) sNil)) (sCons (sCall (withD [] (pureF Sh.l_record_of)) (sCons (sVar 13) sNil)) sNil)))) (sIfS (sTest (sBin (opEqT true) (sCall (b1 opReprX) (sCons (sLst (sCons (sCall (withD [] (pureF Sh.l_read)) (sCons (sC (.int 0)) (sCons (sVar 13) sNil))) (sCons (sCall (withD [] (pureF Sh.l_read)) (sCons (sC (.int 1)) (sCons (sVar 13) sNil))) sNil))) sNil)) (sCall (b1 opReprX) (sCons (sVar 15) sNil)))) (sRet (sC (.bl false))) sNext)))))
def BV : SS := (sIfS (sTest (sBin (opEq true) (sLst (sCons (sCall (withD [] (pureF Sh.l_read)) (sCons (sC (.int 0)) (sCons (sVar 16) sNil))) (sCons (sCall (withD [] (pureF Sh.l_read)) (sCons (sC (.int 1)) (sCons (sVar 16) sNil))) sNil))) (sBin opMul (sLst (sCons (sC (.str "error None")) sNil)) (sC (.int 2))))) (sRet (sC (.bl false))) sNext)
def BT : SS := (sSeq (sSet 3 (sLstO sNil)) (sSeq (sFor (sIt (sCall (withD [] Sh.l_hall_4) (sCons (sVar 1) (sCons (sC (.int 4)) (sCons (sBin opIx (sLst (sCons (sC (.int 9)) (sCons (sBin opPow (sC (.int 10)) (sC (.int 30))) sNil))) (sCall (withD [] Sh.l_draw_3) (sCons (sVar 1) (sCons (sC (.int 2)) sNil)))) sNil))))) (gT 4 (gCs (gN 4) (gCs (gN 5) (gCs (gN 6) (gCs (gN 7) gNl))))) B8) (sSeq (sSet 10 (sLst (sCons (sC (.str "-")) (sCons (sC (.str "a")) (sCons (sC (.str "b")) (sCons (sC (.str "zz")) (sCons (sC (.str "abcdefgh")) sNil))))))) (sSeq (sSet 11 (sLst (sCons (sM1 opJoin (sC (.str "\n")) (sVar 3)) (sCons (sM1 opJoin (sC (.str " ")) (sLc false (sRng1 (sCall (withD [] Sh.l_draw_3) (sCons (sVar 1) (sCons (sC (.int 30)) sNil)))) (gN 12) sYes (sBin opIx (sVar 10) (sCall (withD [] Sh.l_draw_3) (sCons (sVar 1) (sCons (sC (.int 5)) sNil)))) [12])) sNil)))) (sFor (sRng1 (sC (.int 6))) (gN 12) B12)))))
theorem law56_b : Sh.law_k56_1_b = (sSeq (sSet 1 (sCall (withD [] Sh.l_bag) (sCons (sVar 0) sNil))) (sSeq (sFor (sRng1 (sBin opAdd (sC (.int 4)) (sCall bMin (sCons (sC (.int 8)) (sCons (sCall bLen (sCons (sVar 0) sNil)) sNil))))) (gN 2) BT) (sSeq (sFor (sIt (sLst (sCons (sC .non) (sCons (sC (.int 0)) (sCons (sLst (sCons (sC (.str "a")) sNil)) (sCons (sC (.bl true)) (sCons sDct0 (sCons (sTup (sCons (sC (.str "a")) (sCons (sC (.int 1)) sNil))) sNil)))))))) (gN 16) BV) (sSeq (sSet 17 (sM1 opJoin (sC (.str " ")) (sBin opMul (sLst (sCons (sC (.str "a")) sNil)) (sC (.int 401))))) (sSeq (sSet 18 (sLst (sCons (sCall (withD [] (pureF Sh.l_read)) (sCons (sC (.int 1)) (sCons (sVar 17) sNil))) (sCons (sCall (withD [] (pureF Sh.l_read)) (sCons (sC (.int 1)) (sCons (sBin opAdd (sVar 17) (sC (.str " A"))) sNil))) (sCons (sCall (withD [] (pureF Sh.l_read)) (sCons (sC (.int 1)) (sCons (sCutT (sVar 17) (sPart (sC (.int 2))) sNoPart) sNil))) (sCons (sCall (withD [] (pureF Sh.l_read)) (sCons (sC (.int 0)) (sCons (sC (.str "a 11 | 1:1")) sNil))) sNil)))))) (sRet (sBin (opEq false) (sVar 18) (sLst (sCons (sC (.str "error None")) (sCons (sC (.str "error 401")) (sCons (sBin opMul (sLst (sCons (sC (.str "a")) sNil)) (sC (.int 400))) (sCons (sC (.str "error None")) sNil)))))))))))) := rfl
theorem W_ixZ {xs : List Int} {v : Nat} (hv : v < xs.length) (h : OH) {P : D → OH → Prop} (q : ∀ n ∈ xs, P (.int n) h) : (opIx (.lst (xs.map D.int)) (.int (v : Int)) h).W P := by
  rw [W_ixL, atI_z (by omega) (by simp; omega)]
  have e : (xs.map D.int)[((v : Nat) : Int).toNat]? = some (D.int xs[v]) := by
    rw [Int.toNat_natCast, List.getElem?_map, List.getElem?_eq_getElem hv]
    rfl
  rw [e]
  exact q _ (List.getElem_mem hv)
section
variable {N C B : Env' → OH → Prop} {R : D → OH → Prop}
theorem b8_ok {t : Tk} (w : WfTk T30 t) {h : OH} {L : Nat} {ls : List D} (g : h[L]? = some (.lst ls)) (ll : ls.length ≤ 100) {a0 a1 a2 a8 a9 a10 a11 a12 a13 a14 a15 a16 a17 a18 : Option D}
    (q : ∀ x y : Option D, N [a0, a1, a2, some (.ref L), some (.str t.name), some (.int t.rank), some (.lst (t.pre.map dT)), some (.lst (t.cyc.map dT)), x, y, a10, a11, a12, a13, a14, a15, a16, a17, a18] (h.set L (.lst (ls ++ [.str (lineT t)])))) :
    (B8 [a0, a1, a2, some (.ref L), some (.str t.name), some (.int t.rank), some (.lst (t.pre.map dT)), some (.lst (t.cyc.map dT)), a8, a9, a10, a11, a12, a13, a14, a15, a16, a17, a18] h).W N C B R := by
  have lp := w.lp
  have lc := w.lc
  unfold B8
  refine SW_seqK fun K hK => ?_
  simp [wipeD]
  refine ⟨by omega, ?_⟩
  rw [← List.map_append]
  have pn : ∀ p ∈ t.pre ++ t.cyc, PNum p := fun p hp => by
    rcases List.mem_append.mp hp with z | z
    · exact pnum (w.pre p z)
    · exact pnum (w.cyc p z)
  refine W_lcMap1 (t.pre ++ t.cyc) dT (fun p => .str (wordT p)) h (by rw [List.length_append]; simp only [big]; omega) (fun p hp => ⟨_, rfl, ?_⟩) ?_
  · have w1 := (pn p hp).1
    have w2 := (pn p hp).2
    have l1 := (num_len w1).2
    have l2 := (num_len w2).2
    have e58 : (Str.ofString ":") = CO := rfl
    have l3 : (CO : Str).length = 1 := rfl
    have l4 : (strI p.1 ++ CO).length ≤ 32 := by
      have := TL.tl_append (strI p.1) CO
      have := congrArg List.length this
      rw [List.length_append] at this
      have e : ∀ x : Str, (TL.tl x).length = x.length := fun x => by simp [TL.tl, Str.length]
      rw [e, e, e] at this
      omega
    simp [dT, W_strI (num_bits w1), W_strI (num_bits w2), e58]
    rw [W_addTx, if_pos (by omega), W_addTx, if_pos (by omega)]
    exact ⟨rfl, rfl⟩
  · refine hK _ _ ?_
    clear hK K
    have cut1 : cutD ((t.pre ++ t.cyc).map fun p => D.str (wordT p)) none (some (t.pre.length : Int)) = t.pre.map fun p => D.str (wordT p) := by
      rw [cutD_take _ _ (by omega), Int.toNat_natCast, List.map_append, List.take_left' (by simp)]
    have cut2 : cutD ((t.pre ++ t.cyc).map fun p => D.str (wordT p)) (some (t.pre.length : Int)) none = t.cyc.map fun p => D.str (wordT p) := by
      rw [cutD_drop _ _ (by omega), Int.toNat_natCast, List.map_append, List.drop_left' (by simp)]
    have el : (wds t).map D.str = D.str t.name :: D.str (strI t.rank) :: ((t.pre.map fun p => D.str (wordT p)) ++ D.str BA :: (t.cyc.map fun p => D.str (wordT p))) := by
      simp [wds, wdsC]
      rfl
    have wl := fun (h : OH) (PD : D → OH → Prop) => W_line w h (PD := PD)
    rw [el] at wl
    have lA : (t.pre.map fun p => D.str (wordT p)).length ≤ 8 := by simpa using lp
    have lB : (t.cyc.map fun p => D.str (wordT p)).length ≤ 8 := by simpa using lc
    generalize hq : ((t.pre ++ t.cyc).map fun p => D.str (wordT p)) = Q at cut1 cut2 ⊢
    generalize (t.pre.map fun p => D.str (wordT p)) = A at cut1 lA wl
    generalize (t.cyc.map fun p => D.str (wordT p)) = B2 at cut2 lB wl
    have es : Str.ofString " " = SP := rfl
    have eb : Str.ofString "|" = BA := rfl
    simp [W_strI (num_bits (rank_num w)), cut1, cut2, es, eb, g]
    refine ⟨by omega, by omega, by omega, ?_⟩
    rw [wl, g]
    refine ⟨by show ls.length < 1000000; omega, ?_⟩
    exact q _ _
set_option maxHeartbeats 1000000 in
theorem b12_ok {ns : List Int} {h : OH} {c : Nat} (hs : Bag ns h 0 c) (hc : c + 100 < 2 ^ 60) {A A2 : List Nat} (wA : Okr 12170 31 A) (wB : Okr 12170 31 A2) {a0 a2 a3 a4 a5 a6 a7 a8 a9 a10 a12 a13 a14 a15 a16 a17 a18 : Option D}
    (q : ∀ (x y z : Option D) h', Bag ns h' 0 (c + 100) → N [a0, some (.ref 0), a2, a3, a4, a5, a6, a7, a8, a9, a10, some (.lst [.str (SX.S A), .str (SX.S A2)]), a12, x, y, z, a16, a17, a18] h') :
    (B12 [a0, some (.ref 0), a2, a3, a4, a5, a6, a7, a8, a9, a10, some (.lst [.str (SX.S A), .str (SX.S A2)]), a12, a13, a14, a15, a16, a17, a18] h).W N C B R := by
  have dr := fun {h : OH} {c : Nat} {n : Int} (hs : Bag ns h 0 c) (hc : c < 2 ^ 60) (hn : 0 < n) (hn2 : Small n) {P : D → OH → Prop} => bdraw56 (P := P) hs hc hn hn2
  have ch := fun {h : OH} {c n r : Nat} {l : List Nat} (hs : Bag ns h 0 c) (hc : c + 10 < 2 ^ 60) (w : Okr n r l) (hn : n ≤ 100000) (hr : 9 ≤ r) {P : D → OH → Prop} => changed56 (P := P) hs hc w hn hr
  have ho := fun {l : List Nat} (w : Okl l) (h : OH) => lhallof_any w h
  have ro := fun {l : List Nat} (w : Okl l) (h : OH) => lrec_any w h
  have r0 := fun {l : List Nat} (w : Okl l) (h : OH) => read_hall w h
  have r1 := fun {l : List Nat} (w : Okl l) (h : OH) => read_rec w h
  unfold B12
  generalize Sh.l_draw_3 = DR at dr ⊢
  generalize Sh.l_changed_5 = CH at ch ⊢
  generalize pureF Sh.l_hall_of_1 = HO at ho ⊢
  generalize pureF Sh.l_record_of = RO at ro ⊢
  generalize pureF Sh.l_read = RD at r0 r1 ⊢
  refine SW_seqK fun K hK => ?_
  simp
  refine dr hs (by omega) (by decide) (small_64 (by decide)) fun v h1 v1 s1 c1 => ?_
  have em : ([.str (SX.S A), .str (SX.S A2)] : List D) = [A, A2].map fun p => D.str (SX.S p) := rfl
  rw [em]
  refine W_ixN (by simp only [List.length_cons, List.length_nil]; omega) h1 fun l hl => ?_
  have wl : Okr (NN 0) (RN 0) l := by
    simp only [List.mem_cons, List.not_mem_nil, or_false] at hl
    rcases hl with rfl | rfl
    · exact wA
    · exact wB
  refine hK _ _ ?_
  clear hK K
  refine SW_seqK fun K hK => ?_
  simp
  refine dr s1 (by omega) (by decide) (small_64 (by decide)) fun cn h2 v2 s2 c2 => ?_
  have rc : rngOk (cn : Int) = true := by simp [rngOk]; omega
  refine ⟨rc, ?_⟩
  refine W_forL (fun j e h' => ∃ l2, Okr (NN j) (RN j) l2 ∧ Bag ns h' 0 (c + 2 + 10 * j) ∧ ∃ y : Option D, e = [a0, some (.ref 0), a2, a3, a4, a5, a6, a7, a8, a9, a10, some (.lst [.str (SX.S A), .str (SX.S A2)]), a12, some (.str (SX.S l2)), y, a15, a16, a17, a18]) _ _ _ ⟨l, wl, s2.mono (by omega), _, rfl⟩ (fun j d hd e h hI => ?_) (fun e h hI => ?_)
  · obtain ⟨l2, w2, b2, y, rfl⟩ := hI
    obtain ⟨hj, rfl⟩ := rngD_at hd
    have nn := nn_le j (by omega)
    refine ⟨_, rfl, ?_⟩
    simp
    refine ch b2 (by omega) w2 (by omega) nn.2.1 fun l3 h3 w3 b3 => ?_
    exact ⟨l3, w3, b3.mono (by omega), rfl⟩
  · obtain ⟨l2, w2, b2, y, rfl⟩ := hI
    have hcn : (rngD 0 (cn : Int).toNat).length = cn := by rw [rngD_len, Int.toNat_natCast]
    rw [hcn] at w2 b2
    have nn := nn_le cn (by omega)
    have w3 : Okr (NN cn) 255 l2 := w2.mono (Nat.le_refl _) nn.2.2
    have wk := w3.okl
    have lb : l2.length ≤ 1000000 := by have := w2.len; omega
    refine hK _ _ ?_
    clear hK K
    refine SW_seqK fun K hK => ?_
    have ct : ∀ (h : OH) (PD : D → OH → Prop), (opCutT (.str (SX.S l2)) none (some 4000) h).W PD = PD (.str (SX.S (l2.take 4000))) h := fun h PD => W_cutTake lb 4000 h (PD := PD)
    simp
    rw [ct]
    refine hK _ _ ?_
    clear hK K
    generalize l2.take 4000 = u at wk ⊢
    obtain ⟨y1, ry⟩ := W_reprF (d := .lst [hallR u, recR u]) (h := h) (k := 5) (n := 150000) rfl (rp_both wk) (by decide) (by decide)
    refine SW_seqK fun K hK => ?_
    simp [ho wk, ro wk]
    refine hK _ _ ?_
    clear hK K
    simp [r0 wk, r1 wk, ry]
    exact q _ _ _ _ (b2.mono (by omega))
set_option maxHeartbeats 1000000 in
theorem bt_ok {ns : List Int} {h : OH} {c : Nat} (hs : Bag ns h 0 c) (hc : c + 11000 < 2 ^ 60) {a0 a2 a3 a4 a5 a6 a7 a8 a9 a10 a11 a12 a13 a14 a15 a16 a17 a18 : Option D}
    (q : ∀ (x3 x4 x5 x6 x7 x8 x9 x10 x11 x12 x13 x14 x15 : Option D) h', Bag ns h' 0 (c + 11000) → N [a0, some (.ref 0), a2, x3, x4, x5, x6, x7, x8, x9, x10, x11, x12, x13, x14, x15, a16, a17, a18] h') :
    (BT [a0, some (.ref 0), a2, a3, a4, a5, a6, a7, a8, a9, a10, a11, a12, a13, a14, a15, a16, a17, a18] h).W N C B R := by
  have dr := fun {h : OH} {c : Nat} {n : Int} (hs : Bag ns h 0 c) (hc : c < 2 ^ 60) (hn : 0 < n) (hn2 : Small n) {P : D → OH → Prop} => bdraw56 (P := P) hs hc hn hn2
  have ha := fun {h : OH} {c : Nat} {most longest : Int} (hs : Bag ns h 0 c) (hc : c + 10000 < 2 ^ 60) (ht0 : 0 ≤ most) (ht1 : most ≤ 10) (hg : 0 < longest) (hg2 : Small longest) {P : D → OH → Prop} => hall56 (P := P) hs hc ht0 ht1 hg hg2
  unfold BT
  simp only [p1030]
  generalize Sh.l_draw_3 = DR at dr ⊢
  generalize Sh.l_hall_4 = HA at ha ⊢
  have hlt := hs.lt
  refine SW_seqK fun K hK => ?_
  simp
  refine hK _ _ ?_
  clear hK K
  have s0 := hs.app [.lst []]
  have g0 : (h ++ [OO.lst []])[h.length]? = some (.lst []) := by simp
  generalize h ++ [OO.lst []] = h0 at s0 g0 ⊢
  have nL : h.length ≠ 0 := by omega
  generalize h.length = L at g0 nL ⊢
  refine SW_seqK fun K hK => ?_
  simp
  refine dr s0 (by omega) (by decide) (small_64 (by decide)) fun v h1 v1 s1 c1 => ?_
  refine W_ixZ (xs := [9, T30]) (by simp only [List.length_cons, List.length_nil]; omega) h1 fun lg hlg => ?_
  have hg : 0 < lg ∧ lg ≤ T30 := by
    simp only [List.mem_cons, List.not_mem_nil, or_false] at hlg
    rcases hlg with rfl | rfl
    · exact ⟨by decide, by decide⟩
    · exact ⟨by decide, Int.le_refl _⟩
  have t100 : T30 < (2 ^ 100 : Nat) := by simp only [T30]; decide
  refine ha s1 (by omega) (by decide) (by decide) hg.1 (small_lt 100 (by omega) (by omega)) fun ts h2 s2 c2 l4 w0 _ => ?_
  have w : WfHall T30 ts := w0.mono hg.2
  have lt := w.len
  have L1 : L < h1.length := by
    rw [c1.1]
    exact (List.getElem?_eq_some_iff.mp g0).1
  have g2 : h2[L]? = some (.lst []) := by rw [c2.2 L L1 nL, c1.2 L nL, g0]
  simp only [itAt, lkS_some]
  refine W_forL (fun j e h' => Bag ns h' 0 (c + 1 + 10000) ∧ h'[L]? = some (.lst ((ts.take j).map fun t => D.str (lineT t))) ∧ ∃ x4 x5 x6 x7 x8 x9 : Option D, e = [a0, some (.ref 0), a2, some (.ref L), x4, x5, x6, x7, x8, x9, a10, a11, a12, a13, a14, a15, a16, a17, a18]) _ _ _ ⟨s2, by simpa using g2, _, _, _, _, _, _, rfl⟩ (fun j d hd e h' hI => ?_) (fun e h' hI => ?_)
  · obtain ⟨b, g, x4, x5, x6, x7, x8, x9, rfl⟩ := hI
    rw [List.getElem?_map, Option.map_eq_some_iff] at hd
    obtain ⟨t, ht, rfl⟩ := hd
    have wt := w.tk t (List.mem_of_getElem? ht)
    refine ⟨_, rfl, ?_⟩
    have et : (ts.take (j + 1)).map (fun t => D.str (lineT t)) = (ts.take j).map (fun t => D.str (lineT t)) ++ [D.str (lineT t)] := by
      rw [List.take_add_one, ht]
      simp
    have lj : ((ts.take j).map fun t => D.str (lineT t)).length ≤ 100 := by rw [List.length_map, List.length_take]; omega
    rw [et]
    generalize ((ts.take j).map fun t => D.str (lineT t)) = Q at g lj ⊢
    refine b8_ok wt g lj fun x y => ?_
    have Lh : L < h'.length := (List.getElem?_eq_some_iff.mp g).1
    exact ⟨b.set nL _, by simp [Lh], _, _, _, _, _, _, rfl⟩
  · obtain ⟨b, g, x4, x5, x6, x7, x8, x9, rfl⟩ := hI
    rw [List.length_map, List.take_length] at g
    refine hK _ _ ?_
    clear hK K
    refine SW_seqK fun K hK => ?_
    simp
    rw [itm_eq]
    refine hK _ _ ?_
    clear hK K
    refine SW_seqK fun K hK => ?_
    have enl : Str.ofString "\n" = NL := rfl
    have es : Str.ofString " " = SX.S [32] := rfl
    have j1 : ∀ (PD : D → OH → Prop), (opJoin NL (.ref L) h').W PD = PD (.str (SX.S (sgs (hallT ts)))) h' := fun PD => by
      have e1 : lsqAt h' (.ref L) = some ((ts.map lineT).map D.str) := by
        simp [lsqAt, seqAt, g]
      have jb : ((ts.map lineT).map (·.length)).sum + (ts.map lineT).length * NL.length ≤ 1000000 := by
        have ja := join_all (c := 0) (xs := ts.map lineT) (M := 1216) fun x hx => by
          obtain ⟨t, ht, rfl⟩ := List.mem_map.mp hx
          exact (line_len (w.tk t ht)).2
        have n1 : NL.length = 1 := rfl
        rw [n1]
        rw [List.length_map] at ja ⊢
        have : 1216 * ts.length ≤ 1216 * 10 := Nat.mul_le_mul_left _ lt
        omega
      rw [W_joinA e1 jb]
      have es : SX.S (sgs (hallT ts)) = hallT ts := SX.S_tl _
      rw [es]
      rfl
    simp [enl, j1, wipeD]
    refine dr b (by omega) (by decide) (small_64 (by decide)) fun m h3 m1 s3 c3 => ?_
    have rm : rngOk (m : Int) = true := by simp [rngOk]; omega
    simp [rm]
    refine W_lcGo (fun j acc h4 => Bag ns h4 0 (c + 10002 + j) ∧ ∃ ps : List (List Nat), acc = ps.map (fun p => D.str (SX.S p)) ∧ (∀ p ∈ ps, p ∈ ITM) ∧ ps.length = j) _ _ _ ⟨s3.mono (by omega), [], rfl, by simp, rfl⟩ (fun j d hd acc h4 hI => ?_) (fun acc h4 hI => ?_)
    · obtain ⟨b4, ps, rfl, hp, lp⟩ := hI
      obtain ⟨hj, rfl⟩ := rngD_at hd
      refine ⟨_, rfl, ?_⟩
      simp
      refine dr b4 (by omega) (by decide) (small_64 (by decide)) fun v5 h5 m5 s5 c5 => ?_
      refine W_ixN (by show v5 < 5; omega) h5 fun p hpp => ?_
      refine ⟨by omega, s5.mono (by omega), ps ++ [p], by simp, fun x hx => ?_, by simp [lp]⟩
      rcases List.mem_append.mp hx with z | z
      · exact hp x z
      · rw [List.mem_singleton] at z
        rw [z]
        exact hpp
    · obtain ⟨b4, ps, rfl, hp, lp⟩ := hI
      have lm : (rngD 0 m).length = m := by rw [rngD_len]
      rw [lm] at b4 lp
      have l30 : ps.length ≤ 30 := by omega
      have sp8 := sumP_le fun p hx => (itm_ok p (hp p hx)).2
      rw [es, W_joinP (by omega)]
      refine hK _ _ ?_
      clear hK K
      simp
      refine ⟨by decide, ?_⟩
      refine W_forL (fun j e h' => Bag ns h' 0 (c + 10100 + 100 * j) ∧ ∃ x12 x13 x14 x15 : Option D, e = [a0, some (.ref 0), a2, some (.ref L), x4, x5, x6, x7, x8, x9, some (.lst (ITM.map fun p => D.str (SX.S p))), some (.lst [.str (SX.S (sgs (hallT ts))), .str (SX.S (TL.joinL [32] ps))]), x12, x13, x14, x15, a16, a17, a18]) _ _ _ ⟨b4.mono (by omega), _, _, _, _, rfl⟩ (fun j d hd e h' hI => ?_) (fun e h' hI => ?_)
      · obtain ⟨b5, x12, x13, x14, x15, rfl⟩ := hI
        obtain ⟨hj, rfl⟩ := rngD_at hd
        refine ⟨_, rfl, ?_⟩
        refine b12_ok b5 (by omega) (hallT_okr w) (rec_okr hp l30) fun x y z h6 b6 => ?_
        exact ⟨b6.mono (by omega), _, _, _, _, rfl⟩
      · obtain ⟨b5, x12, x13, x14, x15, rfl⟩ := hI
        have l6 : (rngD 0 6).length = 6 := by rw [rngD_len]
        exact q _ _ _ _ _ _ _ _ _ _ _ _ _ _ (b5.mono (by rw [l6]; omega))
end
end HR
set_option Elab.async false
set_option linter.all false
set_option maxRecDepth 20000
set_option exponentiation.threshold 5000
namespace HR
open PySem L2
/-! ### a value equals itself -/
def EqOk (k : Nat) (d : D) : Prop := ∃ p : PyData, (∀ get, pyG get d = some p) ∧ p.canLay0 = true ∧ p.depth ≤ k
def EqOks (k : Nat) (ds : List D) : Prop := ∃ ps : List PyData, (∀ get, pyGL get ds = some ps) ∧ PyData.canLayAll0 ps = true ∧ PyData.depthAll ps ≤ k
theorem EqOk.mono {k m : Nat} {d : D} (e : EqOk k d) (h : k ≤ m) : EqOk m d := by
  obtain ⟨p, a, b, c⟩ := e
  exact ⟨p, a, b, by omega⟩
theorem eqOk_str {x : Str} (h : PyData.strOk x = true) : EqOk 0 (.str x) := ⟨.str x, fun _ => rfl, h, Nat.le_refl _⟩
theorem eqOks_nil (k : Nat) : EqOks k [] := ⟨[], fun _ => rfl, rfl, Nat.zero_le _⟩
theorem eqOks_cons {k : Nat} {d : D} {ds : List D} (a : EqOk k d) (b : EqOks k ds) : EqOks k (d :: ds) := by
  obtain ⟨p, a1, a2, a3⟩ := a
  obtain ⟨ps, b1, b2, b3⟩ := b
  exact ⟨p :: ps, fun get => by simp [pyGL, a1, b1], by simp [PyData.canLayAll0, a2, b2], by simp only [PyData.depthAll]; omega⟩
theorem eqOks_all {k : Nat} : ∀ {ds : List D}, (∀ d ∈ ds, EqOk k d) → EqOks k ds
  | [], _ => eqOks_nil k
  | d :: ds, h => eqOks_cons (h d List.mem_cons_self) (eqOks_all fun x hx => h x (List.mem_cons_of_mem _ hx))
theorem eqOk_lst {k : Nat} {ds : List D} (e : EqOks k ds) : EqOk (k + 1) (.lst ds) := by
  obtain ⟨ps, b1, b2, b3⟩ := e
  exact ⟨.list ps, fun get => by simp [pyG, b1], b2, by simp only [PyData.depth]; omega⟩
theorem W_eqRf {k : Nat} {d : D} (e : EqOk k d) (hk : k ≤ 64) (neg : Bool) (h : OH) {PD : D → OH → Prop} : (opEq neg d d h).W PD = PD (.bl (!neg)) h := by
  obtain ⟨p, g, l, dp⟩ := e
  have sh : SeqAt.shaped p = true := by simp [SeqAt.shaped, l]; omega
  have e := SeqAt.eqv_refl _ l
  simp only [opEq, pyAt, g, sh, e, Bool.and_self, if_true]
  cases neg <;> rfl
end HR
set_option Elab.async false
set_option linter.all false
set_option maxRecDepth 20000
set_option exponentiation.threshold 5000
namespace HR
open PySem L2
/-! ### law k56 -/
theorem mulRep56 (x : D) (n : Nat) (hn : n ≤ 1000) (h : OH) {PD : D → OH → Prop} : (opMul (.lst [x]) (.int (n : Int)) h).W PD = PD (.lst (List.replicate n x)) h := by
  have e : ∀ n : Nat, (List.replicate n [x]).flatten = List.replicate n x := fun n => by
    induction n with
    | zero => rfl
    | succ n ih => rw [List.replicate_succ, List.flatten_cons, ih]; rfl
  have : opMul (.lst [x]) (.int (n : Int)) h = .ok (.lst (List.replicate n x)) h := by
    show (match lstAt h (.lst [x]) with
    | some xs => if -(2 ^ 63) ≤ (n : Int) ∧ (n : Int) < 2 ^ 63 ∧ xs.length * (n : Int).toNat ≤ big then Res.ok (D.lst (List.replicate (n : Int).toNat xs).flatten) h else .bad
    | none => .bad) = _
    rw [show lstAt h (.lst [x]) = some [x] from rfl]
    dsimp only
    rw [if_pos ⟨by omega, by omega, by simp [big]; omega⟩, Int.toNat_natCast, e]
  rw [this]; rfl
theorem okE56 : PyData.strOk ("error None" : Str) = true := by decide +kernel
theorem okE56b : PyData.strOk ("error 401" : Str) = true := by decide +kernel
theorem okA56 : PyData.strOk ("a" : Str) = true := by decide +kernel
section
variable {N C B : Env' → OH → Prop} {R : D → OH → Prop}
theorem bv_ok {d : D} (hd : d ∈ ([.non, .int 0, .lst [.str "a"], .bl true, .dct [], .tup [.str "a", .int 1]] : List D)) {h : OH} {a0 a1 a2 a3 a4 a5 a6 a7 a8 a9 a10 a11 a12 a13 a14 a15 a17 a18 : Option D}
    (q : N [a0, a1, a2, a3, a4, a5, a6, a7, a8, a9, a10, a11, a12, a13, a14, a15, some d, a17, a18] h) :
    (BV [a0, a1, a2, a3, a4, a5, a6, a7, a8, a9, a10, a11, a12, a13, a14, a15, some d, a17, a18] h).W N C B R := by
  have r0 := fun h => read_no (i := 0) (.inl rfl) hd h
  have r1 := fun h => read_no (i := 1) (.inr rfl) hd h
  unfold BV
  generalize pureF Sh.l_read = RD at r0 r1 ⊢
  rw [errN] at r0 r1
  have m2 := fun (h : OH) (PD : D → OH → Prop) => mulRep56 (.str (Str.ofString "error None")) 2 (by decide) h (PD := PD)
  have e2 := fun (h : OH) (PD : D → OH → Prop) => W_eqRf (eqOk_lst (eqOks_all (k := 0) (ds := List.replicate 2 (.str (Str.ofString "error None"))) fun d hd => by rw [List.eq_of_mem_replicate hd]; exact eqOk_str okE56)) (by decide) true h (PD := PD)
  have er : List.replicate 2 (D.str (Str.ofString "error None")) = [.str (Str.ofString "error None"), .str (Str.ofString "error None")] := rfl
  rw [er] at m2 e2
  simp [r0, r1]
  rw [show (2 : Int) = ((2 : Nat) : Int) from rfl, m2, e2]
  simp
  exact q
end
theorem st18 {N C B : Env' → OH → Prop} {R : D → OH → Prop} {RD : FN} {L1 L2 L3 S4 A2 : Str} {x1 x2 x3 x4 : D} {e : Env'} {h : OH} (e17 : e[17]? = some (some (.str L1))) (q1 : ∀ h, RD [.int 1, .str L1] h = .ok x1 h) (q2 : ∀ h, RD [.int 1, .str L2] h = .ok x2 h) (q3 : ∀ h, RD [.int 1, .str L3] h = .ok x3 h) (q4 : ∀ h, RD [.int 0, .str S4] h = .ok x4 h)
    (ad : ∀ (h : OH) (PD : D → OH → Prop), (opAdd (.str L1) (.str A2) h).W PD = PD (.str L2) h) (ct : ∀ (h : OH) (PD : D → OH → Prop), (opCutT (.str L1) (some ((2 : Nat) : Int)) none h).W PD = PD (.str L3) h)
    (q : N (e.set 18 (some (.lst [x1, x2, x3, x4]))) h) :
    ((sSet 18 (sLst (sCons (sCall (withD [] RD) (sCons (sC (.int 1)) (sCons (sVar 17) sNil))) (sCons (sCall (withD [] RD) (sCons (sC (.int 1)) (sCons (sBin opAdd (sVar 17) (sC (.str A2))) sNil))) (sCons (sCall (withD [] RD) (sCons (sC (.int 1)) (sCons (sCutT (sVar 17) (sPart (sC (.int 2))) sNoPart) sNil))) (sCons (sCall (withD [] RD) (sCons (sC (.int 0)) (sCons (sC (.str S4)) sNil))) sNil)))))) e h).W N C B R := by
  have v17 : ∀ (h : OH) (PD : D → OH → Prop), (sVar 17 e h).W PD = PD (.str L1) h := fun h PD => by simp only [sVar, e17]; rfl
  simp [v17, q1]
  rw [ad]
  simp [q2]
  rw [show (2 : Int) = ((2 : Nat) : Int) from rfl, ct]
  simp [q3, q4]
  exact q
theorem st19 {N C B : Env' → OH → Prop} {R : D → OH → Prop} {x1 x2 x3 : D} {A4 : List D} {e : Env'} {h : OH} (e18 : e[18]? = some (some (.lst [x1, x2, .lst A4, x3]))) (m4 : ∀ (h : OH) (PD : D → OH → Prop), (opMul (.lst [.str (Str.ofString "a")]) (.int ((400 : Nat) : Int)) h).W PD = PD (.lst A4) h)
    (eq : ∀ (h : OH) (PD : D → OH → Prop), (opEq false (.lst [x1, x2, .lst A4, x3]) (.lst [x1, x2, .lst A4, x3]) h).W PD = PD (.bl true) h) {c1 c2 c3 : D} (hx1 : x1 = c1) (hx2 : x2 = c2) (hx3 : x3 = c3) (q : R (.bl true) h) :
    ((sRet (sBin (opEq false) (sVar 18) (sLst (sCons (sC c1) (sCons (sC c2) (sCons (sBin opMul (sLst (sCons (sC (.str (Str.ofString "a"))) sNil)) (sC (.int 400))) (sCons (sC c3) sNil))))))) e h).W N C B R := by
  subst hx1 hx2 hx3
  have v18 : ∀ (h : OH) (PD : D → OH → Prop), (sVar 18 e h).W PD = PD (.lst [x1, x2, .lst A4, x3]) h := fun h PD => by simp only [sVar, e18]; rfl
  simp [v18]
  rw [show (400 : Int) = ((400 : Nat) : Int) from rfl, m4, eq]
  exact q
theorem eqA56 (h : OH) {PD : D → OH → Prop} : (opEq false (.lst [.str (Str.ofString "error None"), .str (Str.ofString "error 401"), .lst (List.replicate 400 (.str (Str.ofString "a"))), .str (Str.ofString "error None")]) (.lst [.str (Str.ofString "error None"), .str (Str.ofString "error 401"), .lst (List.replicate 400 (.str (Str.ofString "a"))), .str (Str.ofString "error None")]) h).W PD = PD (.bl true) h := by
  have e : EqOks 0 (List.replicate 400 (.str (Str.ofString "a"))) := eqOks_all fun d hd => by rw [List.eq_of_mem_replicate hd]; exact eqOk_str okA56
  generalize List.replicate 400 (D.str (Str.ofString "a")) = A at e ⊢
  exact W_eqRf (k := 2) (eqOk_lst (eqOks_cons ((eqOk_str okE56).mono (by decide)) (eqOks_cons ((eqOk_str okE56b).mono (by decide)) (eqOks_cons (eqOk_lst e) (eqOks_cons ((eqOk_str okE56).mono (by decide)) (eqOks_nil _)))))) (by decide) false h
set_option maxHeartbeats 1000000 in
theorem law56 (ns : List Int) (hl : ns.length ≤ 63) : ∃ h', Sh.law_k56_1 [.scr (ns.map D.int)] [] = .ok (.bl true) h' := by
  have fin : (Sh.law_k56_1 [.scr (ns.map D.int)] []).W (fun d _ => d = .bl true) := by
    have p60 : 10000000 ≤ (2 : Nat) ^ 60 := by decide
    have r1 := fun {l : List Nat} (w : Okl l) (h : OH) => read_rec w h
    have r0 := fun (h : OH) => read_hall short_ok h
    unfold Sh.law_k56_1; rw [W_fn, law56_b]
    generalize pureF Sh.l_read = RD at r0 r1 ⊢
    refine SW_seqK fun K hK => ?_
    simp
    refine bag_ok ns [] hl fun o s0 => ?_
    refine hK _ _ ?_
    clear hK K
    simp only [List.length_nil, List.nil_append] at s0 ⊢
    refine SW_seqK fun K hK => ?_
    have mn : (if (ns.length : Int) < 8 then (ns.length : Int) else 8) ≤ 8 := by split <;> omega
    have mn0 : 0 ≤ (if (ns.length : Int) < 8 then (ns.length : Int) else 8) := by split <;> omega
    simp
    generalize (if (ns.length : Int) < 8 then (ns.length : Int) else 8) = cc at mn mn0 ⊢
    have r : rngOk (4 + cc) = true := by simp [rngOk]; omega
    refine ⟨r, ?_⟩
    refine W_forL (fun k e h' => Bag ns h' 0 (11000 * k) ∧ ∃ a2 a3 a4 a5 a6 a7 a8 a9 a10 a11 a12 a13 a14 a15 : Option D, e = [some (.scr (ns.map D.int)), some (.ref 0), a2, a3, a4, a5, a6, a7, a8, a9, a10, a11, a12, a13, a14, a15, none, none, none]) _ _ _ ⟨s0.mono (by omega), _, _, _, _, _, _, _, _, _, _, _, _, _, _, rfl⟩ (fun k d hd e h hI => ?_) (fun e h hI => ?_)
    · obtain ⟨s, a2, a3, a4, a5, a6, a7, a8, a9, a10, a11, a12, a13, a14, a15, rfl⟩ := hI
      obtain ⟨hk2, rfl⟩ := rngD_at hd
      have hk3 : k < 12 := by omega
      refine ⟨_, rfl, ?_⟩
      refine bt_ok s (by omega) fun x3 x4 x5 x6 x7 x8 x9 x10 x11 x12 x13 x14 x15 h' b => ?_
      exact ⟨b.mono (by omega), _, _, _, _, _, _, _, _, _, _, _, _, _, _, rfl⟩
    · obtain ⟨s, a2, a3, a4, a5, a6, a7, a8, a9, a10, a11, a12, a13, a14, a15, rfl⟩ := hI
      refine hK _ _ ?_
      clear hK K
      refine SW_seqK fun K hK => ?_
      simp
      refine W_forL (fun k e h' => ∃ a16 : Option D, e = [some (.scr (ns.map D.int)), some (.ref 0), a2, a3, a4, a5, a6, a7, a8, a9, a10, a11, a12, a13, a14, a15, a16, none, none]) _ _ _ ⟨_, rfl⟩ (fun k d hd e h hI => ?_) (fun e h hI => ?_)
      · obtain ⟨a16, rfl⟩ := hI
        refine ⟨_, rfl, ?_⟩
        exact bv_ok (List.mem_of_getElem? hd) ⟨_, rfl⟩
      · obtain ⟨a16, rfl⟩ := hI
        refine hK _ _ ?_
        clear hK K
        have es : Str.ofString " " = SX.S [32] := rfl
        have ea : (D.str (Str.ofString "a")) = D.str (SX.S [97]) := rfl
        have eA : Str.ofString " A" = SX.S [32, 65] := rfl
        have mulA := fun (h : OH) (PD : D → OH → Prop) => mulRep56 (.str (SX.S [97])) 401 (by decide) h (PD := PD)
        have er : List.replicate 401 (D.str (SX.S [97])) = (List.replicate 401 [97]).map fun p => D.str (SX.S p) := by rw [List.map_replicate]
        have jn := fun (h : OH) (PD : D → OH → Prop) => W_joinP (m := 32) (ps := List.replicate 401 [97]) (by decide +kernel) h (PD := PD)
        rw [er] at mulA
        have addA := fun (h : OH) (PD : D → OH → Prop) => W_addS (a := LONG) (b := [32, 65]) (by decide +kernel) h (PD := PD)
        have cutA := fun (h : OH) (PD : D → OH → Prop) => W_cutDrop (l := LONG) (by decide +kernel) 2 h (PD := PD)
        have q1 := fun h => r1 long_ok h
        have q2 := fun h => r1 longA_ok h
        have q3 := fun h => r1 long2_ok h
        rw [long_r] at q1
        rw [longA_r] at q2
        rw [long2_r] at q3
        rw [short_r] at r0
        clear r1
        generalize hps : (List.replicate 401 [97]).map (fun p => D.str (SX.S p)) = PS at mulA jn
        have jn2 : ∀ (h : OH) (PD : D → OH → Prop), (opJoin (SX.S [32]) (.lst PS) h).W PD = PD (.str (SX.S LONG)) h := jn
        clear jn hps er
        have l1 : (SX.S LONG) = SX.S LONG := rfl
        generalize hL : SX.S LONG = L1 at jn2 addA cutA q1 l1
        generalize hL2 : SX.S (LONG ++ [32, 65]) = L2' at addA q2
        generalize hL3 : SX.S (LONG.drop 2) = L3 at cutA q3
        clear hL hL2 hL3 l1
        have i401 : (401 : Int) = ((401 : Nat) : Int) := rfl
        have i2 : (2 : Int) = ((2 : Nat) : Int) := rfl
        refine SW_seqK fun K hK => ?_
        simp
        rw [ea, es, i401, mulA, jn2]
        refine hK _ _ ?_
        clear hK K
        have sS : Str.ofString "a 11 | 1:1" = SX.S SHORT := rfl
        have m400 := fun (h : OH) (PD : D → OH → Prop) => mulRep56 (.str (Str.ofString "a")) 400 (by decide) h (PD := PD)
        have eqA := fun (h : OH) (PD : D → OH → Prop) => eqA56 h (PD := PD)
        generalize List.replicate 400 (D.str (Str.ofString "a")) = A4 at q3 m400 eqA
        refine SW_seqK fun K hK => ?_
        rw [sS, eA]
        refine st18 (L1 := L1) (L2 := L2') (L3 := L3) rfl q1 q2 q3 r0 addA cutA ?_
        refine hK _ _ ?_
        clear hK K
        refine st19 rfl m400 eqA rfl rfl rfl ?_
        rfl
  obtain ⟨d, h', e, rfl⟩ := fin.out
  exact ⟨h', e⟩
end HR
set_option Elab.async false
set_option linter.all false
set_option maxRecDepth 100000
set_option maxHeartbeats 4000000
/-! the text of law_k56_text_errors: facts of its head, the derivations -/
namespace HR
open PySem L2
open PyProof.Rows (envOfC)
namespace Tk56
def top (i : Nat) : Stmt := PySem.Challenge.pw_hushranks_k56_text_errors.main.body.getD i (.Pass ⟨0, 0, 0, 0⟩)
def d_is_integer : He.DefD := ⟨("is_integer", none), "is_integer", "is_integer", defArgs (top 24), defBody (top 24), defScope (top 24), [.non], []⟩
def d_is_sequence : He.DefD := ⟨("is_sequence", none), "is_sequence", "is_sequence", defArgs (top 25), defBody (top 25), defScope (top 25), [], []⟩
def d_is_name : He.DefD := ⟨("is_name", none), "is_name", "is_name", defArgs (top 26), defBody (top 26), defScope (top 26), [], []⟩
def d_is_talk : He.DefD := ⟨("is_talk", none), "is_talk", "is_talk", defArgs (top 27), defBody (top 27), defScope (top 27), [], []⟩
def d_are_talks : He.DefD := ⟨("are_talks", none), "are_talks", "are_talks", defArgs (top 28), defBody (top 28), defScope (top 28), [], []⟩
def d_is_talker : He.DefD := ⟨("is_talker", none), "is_talker", "is_talker", defArgs (top 29), defBody (top 29), defScope (top 29), [], []⟩
def d_is_hall : He.DefD := ⟨("is_hall", none), "is_hall", "is_hall", defArgs (top 30), defBody (top 30), defScope (top 30), [], []⟩
def d_is_number : He.DefD := ⟨("is_number", none), "is_number", "is_number", defArgs (top 39), defBody (top 39), defScope (top 39), [], []⟩
def d_talk_in : He.DefD := ⟨("talk_in", none), "talk_in", "talk_in", defArgs (top 40), defBody (top 40), defScope (top 40), [], []⟩
def d_schedule_in_1 : He.DefD := ⟨("schedule_in", none), "schedule_in", "schedule_in", defArgs (top 41), defBody (top 41), defScope (top 41), [], []⟩
def d_talker_in_1 : He.DefD := ⟨("talker_in", none), "talker_in", "talker_in", defArgs (top 42), defBody (top 42), defScope (top 42), [], []⟩
def d_parse_hall_1 : He.DefD := ⟨("parse_hall", none), "parse_hall", "parse_hall", defArgs (top 43), defBody (top 43), defScope (top 43), [], []⟩
def d_parse_record_1 : He.DefD := ⟨("parse_record", none), "parse_record", "parse_record", defArgs (top 44), defBody (top 44), defScope (top 44), [], []⟩
def d_l_bag : He.DefD := ⟨("_law_bag", none), "_law_bag", "_law_bag", defArgs (top 46), defBody (top 46), defScope (top 46), [], []⟩
def d_l_stir_1 : He.DefD := ⟨("_law_stir", none), "_law_stir", "_law_stir", defArgs (top 47), defBody (top 47), defScope (top 47), [], []⟩
def d_l_draw_3 : He.DefD := ⟨("_law_draw", none), "_law_draw", "_law_draw", defArgs (top 48), defBody (top 48), defScope (top 48), [], []⟩
def d_l_shuffled_1 : He.DefD := ⟨("_law_shuffled", none), "_law_shuffled", "_law_shuffled", defArgs (top 49), defBody (top 49), defScope (top 49), [], []⟩
def d_l_talks_4 : He.DefD := ⟨("_law_talks", none), "_law_talks", "_law_talks", defArgs (top 50), defBody (top 50), defScope (top 50), [], []⟩
def d_l_hall_4 : He.DefD := ⟨("_law_hall", none), "_law_hall", "_law_hall", defArgs (top 51), defBody (top 51), defScope (top 51), [], []⟩
def d_l_class_6 : He.DefD := ⟨("_law_class", none), "_law_class", "_law_class", defArgs (top 52), defBody (top 52), defScope (top 52), [], []⟩
def d_l_number_1 : He.DefD := ⟨("_law_number", none), "_law_number", "_law_number", defArgs (top 53), defBody (top 53), defScope (top 53), [], []⟩
def d_l_is_name_1 : He.DefD := ⟨("_law_is_name", none), "_law_is_name", "_law_is_name", defArgs (top 54), defBody (top 54), defScope (top 54), [], []⟩
def d_l_pair_1 : He.DefD := ⟨("_law_pair", none), "_law_pair", "_law_pair", defArgs (top 55), defBody (top 55), defScope (top 55), [], []⟩
def d_l_line_2 : He.DefD := ⟨("_law_line", none), "_law_line", "_law_line", defArgs (top 56), defBody (top 56), defScope (top 56), [], []⟩
def d_l_is_hall : He.DefD := ⟨("_law_is_hall", none), "_law_is_hall", "_law_is_hall", defArgs (top 57), defBody (top 57), defScope (top 57), [], []⟩
def d_l_hall_of_1 : He.DefD := ⟨("_law_hall_of", none), "_law_hall_of", "_law_hall_of", defArgs (top 58), defBody (top 58), defScope (top 58), [], []⟩
def d_l_record_of : He.DefD := ⟨("_law_record_of", none), "_law_record_of", "_law_record_of", defArgs (top 59), defBody (top 59), defScope (top 59), [], []⟩
def d_l_read : He.DefD := ⟨("_law_read", none), "_law_read", "_law_read", defArgs (top 60), defBody (top 60), defScope (top 60), [], []⟩
def d_l_changed_5 : He.DefD := ⟨("_law_changed", none), "_law_changed", "_law_changed", defArgs (top 61), defBody (top 61), defScope (top 61), [], []⟩
def d_law_k56_1 : He.DefD := ⟨("law", none), "law", "law", defArgs (top 62), defBody (top 62), defScope (top 62), [], []⟩
def d_InvalidText_init : He.DefD := ⟨("InvalidText", some "__init__"), "__init__", "InvalidText.__init__", defArgs (inClass (top 4) 0), defBody (inClass (top 4) 0), defScope (inClass (top 4) 0), [], []⟩
def fn : List He.DefD := [d_is_integer, d_is_sequence, d_is_name, d_is_talk, d_are_talks, d_is_talker, d_is_hall, d_is_number, d_talk_in, d_schedule_in_1, d_talker_in_1, d_parse_hall_1, d_parse_record_1, d_l_bag, d_l_stir_1, d_l_draw_3, d_l_shuffled_1, d_l_talks_4, d_l_hall_4, d_l_class_6, d_l_number_1, d_l_is_name_1, d_l_pair_1, d_l_line_2, d_l_is_hall, d_l_hall_of_1, d_l_record_of, d_l_read, d_l_changed_5, d_law_k56_1, d_InvalidText_init]
def fa0 : List He.Fa := [.glo "HushError", .exc "HushError", .glo "TooMany", .glo "Inconsistent", .glo "InvalidText", .glo "InvalidHall", .exc "InvalidHall", .glo "InvalidTalker", .exc "InvalidTalker", .glo "UnknownTalker", .exc "UnknownTalker", .glo "InvalidNumber", .exc "InvalidNumber", .glo "InvalidTick", .exc "InvalidTick", .glo "InvalidRank", .exc "InvalidRank", .glo "InvalidRanks", .exc "InvalidRanks", .glo "InvalidPosition", .exc "InvalidPosition", .glo "InvalidMembers", .exc "InvalidMembers", .glo "InvalidRecord", .exc "InvalidRecord", .glo "NothingToUndo", .exc "NothingToUndo", .glo "InvalidCommand", .exc "InvalidCommand", .str "LETTERS" "abcdefghijklmnopqrstuvwxyz"]
def fa1 : List He.Fa := [.int "MAX_NAME" (8), .int "MAX_TIME" (1000000000000000000000000000000), .int "MAX_RANK" (10), .int "MAX_TALKS" (8), .int "MAX_TALKERS" (10), .glo "is_integer", .glo "is_sequence", .glo "is_name", .glo "is_talk", .glo "are_talks", .glo "is_talker", .glo "is_hall", .int "MAX_RECORD" (400), .str "NOBODY" "-", .str "BAR" "|", .str "COLON" ":", .str "BLANK" " ", .str "NEWLINE" "\n", .str "DIGITS" "0123456789", .glo "is_number", .glo "talk_in", .glo "schedule_in", .glo "talker_in", .glo "parse_hall", .glo "parse_record", .glo "_law_bag", .glo "_law_stir", .glo "_law_draw", .glo "_law_shuffled", .glo "_law_talks"]
def fa2 : List He.Fa := [.glo "_law_hall", .glo "_law_class", .glo "_law_number", .glo "_law_is_name", .glo "_law_pair", .glo "_law_line", .glo "_law_is_hall", .glo "_law_hall_of", .glo "_law_record_of", .glo "_law_read", .glo "_law_changed", .glo "law", .free "ValueError", .free "all", .free "bool", .free "enumerate", .free "int", .free "isinstance", .free "len", .free "list", .free "max", .free "min", .free "range", .free "repr", .free "set", .free "str", .free "tuple"]
def fa : List He.Fa := fa0 ++ fa1 ++ fa2
def xsL : List String := ["InvalidText"]
def ysL : List String := ["Inconsistent", "InvalidCommand", "InvalidHall", "InvalidMembers", "InvalidNumber", "InvalidPosition", "InvalidRank", "InvalidRanks", "InvalidRecord", "InvalidTalker", "InvalidText", "InvalidTick", "NothingToUndo", "TooMany", "UnknownTalker"]
theorem hu_ {A : Around} {k : Nat} (hr : Room k A) : A.units + 64 < cLine := hr.units
theorem hu1_ {A : Around} {k : Nat} (hr : Room k A) : A.units + 64 + 1 < cLine := by have := hr.un; omega
section
variable {P : Program} {w : World} {K : PySem.W.Frag} {mg : Str → Option Value} {base h : Heap}
theorem sc_InvalidText_init : FnScope ["self", "line"] ["self", "line"] (defScope (inClass (top 4) 0)) := ⟨rfl, rfl, rfl, by decide +kernel, rfl, by decide +kernel, by decide +kernel⟩
theorem oki_InvalidText (c : SaysX fa fn xsL ysL K) (X0 : K.In h) (G : h.Ns mainGlobals mg) : DefI P w K mg base 1 "InvalidText" "line" := by
  obtain ⟨fd, F⟩ := c.def_ 30 (d := d_InvalidText_init) rfl
  have T := c.xf.oex "InvalidText" (by decide) "line" rfl
  exact ⟨⟨fd, "self", "line", init_ok (m := "invalid text") F sc_InvalidText_init T (fun cdv A outer s H E => pss_ini T rfl (by first | exact Or.inl rfl | exact Or.inr (Or.inl rfl)) (by first | exact Or.inl rfl | exact Or.inr (Or.inl rfl)) (by rfl) (He.glo_ok X0 G (c.fact 0 (f := .glo "HushError") (by rfl))) (by decide) (by decide) (by decide) (by decide)), F.bindsN fun _ _ _ _ _ _ us hl => match us, hl with | [_, _], _ => rfl⟩, T⟩
theorem sc_l_bag : FnScope ["_law_script", "_law_total", "_law_cell"] ["_law_script"] (defScope (top 46)) := ⟨rfl, rfl, rfl, by decide +kernel, rfl, by decide +kernel, by decide +kernel⟩
theorem okb_l_bag (c : SaysX fa fn xsL ysL K) (X0 : K.In h) (G : h.Ns mainGlobals mg) {fd : FuncData} (F : FunD K d_l_bag.name d_l_bag.qual d_l_bag.params d_l_bag.body d_l_bag.scope (d_l_bag.dvs K) (d_l_bag.kws K) (He.ga K "_law_bag") fd) : FnOk P w K mg base CX0 1 (He.ga K "_law_bag") fd ["_law_script"] (spN K 1 Sh.l_bag) := by
  have sc := sc_l_bag
  refine fn_ok F sc (by decide) (fun cdv A outer s H E hr => ?_)
  exact (ds_cons (ds_set 1 sc.nd de_int) (ds_cons (ds_for (vs := [2]) (passes_of rfl) rfl (di_any (de_var 0)) (dg_name 2 sc.nd) (ds_one (ds_set 1 sc.nd (de_mod (de_add (de_add (de_mul (de_var 1) de_int) (de_mod (de_var 2) de_int)) de_int) de_int)))) (ds_one (ds_ret (de_lstO (da_cons (de_list false (by rfl) (He.free_ok X0 G (c.fact 79 (f := .free "list") (by rfl))) (de_var 0)) (da_cons de_int (da_cons de_int (da_cons de_int (da_cons (de_var 1) da_nil))))))))))
theorem ok_l_bag (c : SaysX fa fn xsL ysL K) (X0 : K.In h) (G : h.Ns mainGlobals mg) : Def P w K mg base CX0 1 (He.ga K "_law_bag") ["_law_script"] [] Sh.l_bag := by
  obtain ⟨fd, F⟩ := c.def_ 13 (d := d_l_bag) rfl
  exact ⟨⟨fd, [], okb_l_bag c X0 G F, F.bindsN fun _ _ _ _ _ _ us hl => match us, hl with | [_], _ => rfl, .nil⟩, F.kp⟩
theorem sc_l_stir_1 : FnScope ["_law_number_here", "_law_place", "_law_one", "_law_two"] ["_law_number_here", "_law_place"] (defScope (top 47)) := ⟨rfl, rfl, rfl, by decide +kernel, rfl, by decide +kernel, by decide +kernel⟩
theorem okb_l_stir_1 (c : SaysX fa fn xsL ysL K) (X0 : K.In h) (G : h.Ns mainGlobals mg) {fd : FuncData} (F : FunD K d_l_stir_1.name d_l_stir_1.qual d_l_stir_1.params d_l_stir_1.body d_l_stir_1.scope (d_l_stir_1.dvs K) (d_l_stir_1.kws K) (He.ga K "_law_stir") fd) : FnOk P w K mg base CX0 1 (He.ga K "_law_stir") fd ["_law_number_here", "_law_place"] (spN K 2 Sh.l_stir_1) := by
  have sc := sc_l_stir_1
  refine fn_ok F sc (by decide) (fun cdv A outer s H E hr => ?_)
  exact (ds_cons (ds_set 2 sc.nd (de_mod (de_add (de_add (de_mul (de_var 0) de_int) (de_mul (de_var 1) de_int)) de_int) de_int)) (ds_cons (ds_set 3 sc.nd (de_mod (de_mul (de_var 2) (de_var 2)) de_int)) (ds_one (ds_ret (de_div (de_mod (de_add (de_add (de_mul (de_var 3) de_int) (de_mul (de_mul (de_var 1) (de_var 1)) de_int)) (de_div (de_var 2) de_int)) de_int) de_int)))))
theorem ok_l_stir_1 (c : SaysX fa fn xsL ysL K) (X0 : K.In h) (G : h.Ns mainGlobals mg) : Def P w K mg base CX0 1 (He.ga K "_law_stir") ["_law_number_here", "_law_place"] [] Sh.l_stir_1 := by
  obtain ⟨fd, F⟩ := c.def_ 14 (d := d_l_stir_1) rfl
  exact ⟨⟨fd, [], okb_l_stir_1 c X0 G F, F.bindsN fun _ _ _ _ _ _ us hl => match us, hl with | [_, _], _ => rfl, .nil⟩, F.kp⟩
theorem sc_l_draw_3 : FnScope ["_law_bag_here", "_law_bound", "_law_cell", "_law_found"] ["_law_bag_here", "_law_bound"] (defScope (top 48)) := ⟨rfl, rfl, rfl, by decide +kernel, rfl, by decide +kernel, by decide +kernel⟩
theorem okb_l_draw_3 (c : SaysX fa fn xsL ysL K) (X0 : K.In h) (G : h.Ns mainGlobals mg) {fd : FuncData} (F : FunD K d_l_draw_3.name d_l_draw_3.qual d_l_draw_3.params d_l_draw_3.body d_l_draw_3.scope (d_l_draw_3.dvs K) (d_l_draw_3.kws K) (He.ga K "_law_draw") fd) : FnOk P w K mg base CX0 2 (He.ga K "_law_draw") fd ["_law_bag_here", "_law_bound"] (spN K 2 Sh.l_draw_3) := by
  have H_l_stir_1 := ok_l_stir_1 (P := P) (w := w) (base := base) c X0 G
  have sc := sc_l_draw_3
  refine fn_ok F sc (by decide) (fun cdv A outer s H E hr => ?_)
  exact (ds_cons (ds_if (dt_eq (hu_ hr) (de_var 1) de_int) (ds_one (ds_ret de_int)) ds_nil) (ds_cons (ds_ix (de_var 0) de_int (de_add (de_ix (de_var 0) de_int) de_int) (pg_sub (de_var 0) de_int set_list)) (ds_cons (ds_if (DW.dt (dw_and (dt_lt (de_ix (de_var 0) de_int) de_int) (dw_and1 (dt_eq (hu_ hr) (de_ix (de_var 0) de_int) (de_len (by rfl) (He.free_ok X0 G (c.fact 78 (f := .free "len") (by rfl))) (de_ix (de_var 0) de_int)))))) (ds_one (ds_ret (de_mod (de_callF [] ((H_l_stir_1.up (by decide)).pure) hr (He.glo_ok X0 G (c.fact 56 (f := .glo "_law_stir") (by rfl))) (fun _ _ => .nil) (fun _ => passAt0) (da_cons (de_ix (de_var 0) de_int) (da_cons (de_ix (de_var 0) de_int) da_nil)) (sCons_len (sCons_len sNil_len))) (de_var 1)))) ds_nil) (ds_cons (ds_if (dt_lt (de_ix (de_var 0) de_int) de_int) (ds_cons (ds_set 2 sc.nd (de_ix (de_ix (de_var 0) de_int) (de_ix (de_var 0) de_int))) (ds_cons (ds_ix (de_var 0) de_int (de_add (de_ix (de_var 0) de_int) de_int) (pg_sub (de_var 0) de_int set_list)) (ds_cons (ds_if (dt_lt (de_var 2) (de_pow de_int de_int)) (ds_one (ds_ret (de_mod (de_callF [] ((H_l_stir_1.up (by decide)).pure) hr (He.glo_ok X0 G (c.fact 56 (f := .glo "_law_stir") (by rfl))) (fun _ _ => .nil) (fun _ => passAt0) (da_cons (de_mod (de_var 2) de_int) (da_cons (de_ix (de_var 0) de_int) da_nil)) (sCons_len (sCons_len sNil_len))) (de_var 1)))) ds_nil) (ds_one (ds_ix (de_var 0) de_int (de_sub (de_var 2) (de_pow de_int de_int)) (pg_sub (de_var 0) de_int set_list)))))) ds_nil) (ds_cons (ds_set 3 sc.nd (de_mod (de_ix (de_var 0) de_int) (de_var 1))) (ds_cons (ds_ix (de_var 0) de_int (de_div (de_ix (de_var 0) de_int) (de_var 1)) (pg_sub (de_var 0) de_int set_list)) (ds_one (ds_ret (de_var 3)))))))))
theorem ok_l_draw_3 (c : SaysX fa fn xsL ysL K) (X0 : K.In h) (G : h.Ns mainGlobals mg) : Def P w K mg base CX0 2 (He.ga K "_law_draw") ["_law_bag_here", "_law_bound"] [] Sh.l_draw_3 := by
  obtain ⟨fd, F⟩ := c.def_ 15 (d := d_l_draw_3) rfl
  exact ⟨⟨fd, [], okb_l_draw_3 c X0 G F, F.bindsN fun _ _ _ _ _ _ us hl => match us, hl with | [_, _], _ => rfl, .nil⟩, F.kp⟩
theorem sc_l_talks_4 : FnScope ["_law_bag_here", "_law_least", "_law_more", "_law_longest", "_law_count", "_law_step"] ["_law_bag_here", "_law_least", "_law_more", "_law_longest"] (defScope (top 50)) := ⟨rfl, rfl, rfl, by decide +kernel, rfl, by decide +kernel, by decide +kernel⟩
theorem okb_l_talks_4 (c : SaysX fa fn xsL ysL K) (X0 : K.In h) (G : h.Ns mainGlobals mg) {fd : FuncData} (F : FunD K d_l_talks_4.name d_l_talks_4.qual d_l_talks_4.params d_l_talks_4.body d_l_talks_4.scope (d_l_talks_4.dvs K) (d_l_talks_4.kws K) (He.ga K "_law_talks") fd) : FnOk P w K mg base CX0 3 (He.ga K "_law_talks") fd ["_law_bag_here", "_law_least", "_law_more", "_law_longest"] (spN K 4 Sh.l_talks_4) := by
  have H_l_draw_3 := ok_l_draw_3 (P := P) (w := w) (base := base) c X0 G
  have sc := sc_l_talks_4
  refine fn_ok F sc (by decide) (fun cdv A outer s H E hr => ?_)
  exact (ds_cons (ds_set 4 sc.nd (de_add (de_var 1) (de_callF [] (H_l_draw_3.up (by decide)) hr (He.glo_ok X0 G (c.fact 57 (f := .glo "_law_draw") (by rfl))) (fun _ _ => .nil) (fun _ => passAt0) (da_cons (de_var 0) (da_cons (de_var 2) da_nil)) (sCons_len (sCons_len sNil_len))))) (ds_one (ds_ret (de_lc false [("_law_step", 5)] rfl sc.nd (di_rng1 (by rfl) (He.free_ok X0 G (c.fact 82 (f := .free "range") (by rfl))) (de_var 4)) (blkOk_by (by kernel_rfl)) (fun _ _ _ _ _ => (dg_name 5 sc.nd)) (fun _ _ _ _ _ => dts_nil) (fun _ _ _ _ _ => (de_tup (da_cons (de_add de_int (de_callF [] (H_l_draw_3.up (by decide)) hr (He.glo_ok X0 G (c.fact 57 (f := .glo "_law_draw") (by rfl))) (fun _ _ => .nil) (fun _ => passAt0) (da_cons (de_var 0) (da_cons (de_var 3) da_nil)) (sCons_len (sCons_len sNil_len)))) (da_cons (de_add de_int (de_callF [] (H_l_draw_3.up (by decide)) hr (He.glo_ok X0 G (c.fact 57 (f := .glo "_law_draw") (by rfl))) (fun _ _ => .nil) (fun _ => passAt0) (da_cons (de_var 0) (da_cons (de_var 3) da_nil)) (sCons_len (sCons_len sNil_len)))) da_nil))))))))
theorem ok_l_talks_4 (c : SaysX fa fn xsL ysL K) (X0 : K.In h) (G : h.Ns mainGlobals mg) : Def P w K mg base CX0 3 (He.ga K "_law_talks") ["_law_bag_here", "_law_least", "_law_more", "_law_longest"] [] Sh.l_talks_4 := by
  obtain ⟨fd, F⟩ := c.def_ 17 (d := d_l_talks_4) rfl
  exact ⟨⟨fd, [], okb_l_talks_4 c X0 G F, F.bindsN fun _ _ _ _ _ _ us hl => match us, hl with | [_, _, _, _], _ => rfl, .nil⟩, F.kp⟩
theorem sc_l_hall_4 : FnScope ["_law_bag_here", "_law_most", "_law_longest", "_law_names", "_law_ranks", "_law_found", "_law_step", "_law_name", "_law_prefix", "_law_cycle"] ["_law_bag_here", "_law_most", "_law_longest"] (defScope (top 51)) := ⟨rfl, rfl, rfl, by decide +kernel, rfl, by decide +kernel, by decide +kernel⟩
theorem okb_l_hall_4 (c : SaysX fa fn xsL ysL K) (X0 : K.In h) (G : h.Ns mainGlobals mg) {fd : FuncData} (F : FunD K d_l_hall_4.name d_l_hall_4.qual d_l_hall_4.params d_l_hall_4.body d_l_hall_4.scope (d_l_hall_4.dvs K) (d_l_hall_4.kws K) (He.ga K "_law_hall") fd) : FnOk P w K mg base CX0 4 (He.ga K "_law_hall") fd ["_law_bag_here", "_law_most", "_law_longest"] (spN K 3 Sh.l_hall_4) := by
  have H_l_draw_3 := ok_l_draw_3 (P := P) (w := w) (base := base) c X0 G
  have H_l_talks_4 := ok_l_talks_4 (P := P) (w := w) (base := base) c X0 G
  have sc := sc_l_hall_4
  refine fn_ok F sc (by decide) (fun cdv A outer s H E hr => ?_)
  exact (ds_cons (ds_set 3 sc.nd (de_lstO (da_cons de_str (da_cons de_str (da_cons de_str (da_cons de_str (da_cons de_str (da_cons de_str (da_cons de_str (da_cons de_str (da_cons de_str (da_cons de_str da_nil)))))))))))) (ds_cons (ds_set 4 sc.nd (de_ix (de_lst (da_cons de_int (da_cons de_int (da_cons de_int (da_cons de_int da_nil))))) (de_callF [] (H_l_draw_3.up (by decide)) hr (He.glo_ok X0 G (c.fact 57 (f := .glo "_law_draw") (by rfl))) (fun _ _ => .nil) (fun _ => passAt0) (da_cons (de_var 0) (da_cons de_int da_nil)) (sCons_len (sCons_len sNil_len))))) (ds_cons (ds_set 5 sc.nd (de_lstO da_nil)) (ds_cons (ds_for (vs := [6]) (passes_of rfl) rfl (di_rng1 (by rfl) (He.free_ok X0 G (c.fact 82 (f := .free "range") (by rfl))) (de_callF [] (H_l_draw_3.up (by decide)) hr (He.glo_ok X0 G (c.fact 57 (f := .glo "_law_draw") (by rfl))) (fun _ _ => .nil) (fun _ => passAt0) (da_cons (de_var 0) (da_cons (de_add (de_var 1) de_int) da_nil)) (sCons_len (sCons_len sNil_len)))) (dg_name 6 sc.nd) (ds_cons (ds_set 7 sc.nd (de_popAt (de_var 3) (de_callF [] (H_l_draw_3.up (by decide)) hr (He.glo_ok X0 G (c.fact 57 (f := .glo "_law_draw") (by rfl))) (fun _ _ => .nil) (fun _ => passAt0) (da_cons (de_var 0) (da_cons (de_len (by rfl) (He.free_ok X0 G (c.fact 78 (f := .free "len") (by rfl))) (de_var 3)) da_nil)) (sCons_len (sCons_len sNil_len))))) (ds_cons (ds_set 8 sc.nd (de_callF [] (H_l_talks_4.up (by decide)) hr (He.glo_ok X0 G (c.fact 59 (f := .glo "_law_talks") (by rfl))) (fun _ _ => .nil) (fun _ => passAt0) (da_cons (de_var 0) (da_cons de_int (da_cons (de_ix (de_lst (da_cons de_int (da_cons de_int (da_cons de_int (da_cons de_int da_nil))))) (de_callF [] (H_l_draw_3.up (by decide)) hr (He.glo_ok X0 G (c.fact 57 (f := .glo "_law_draw") (by rfl))) (fun _ _ => .nil) (fun _ => passAt0) (da_cons (de_var 0) (da_cons de_int da_nil)) (sCons_len (sCons_len sNil_len)))) (da_cons (de_var 2) da_nil)))) (sCons_len (sCons_len (sCons_len (sCons_len sNil_len)))))) (ds_cons (ds_set 9 sc.nd (de_callF [] (H_l_talks_4.up (by decide)) hr (He.glo_ok X0 G (c.fact 59 (f := .glo "_law_talks") (by rfl))) (fun _ _ => .nil) (fun _ => passAt0) (da_cons (de_var 0) (da_cons de_int (da_cons (de_ix (de_lst (da_cons de_int (da_cons de_int (da_cons de_int da_nil)))) (de_callF [] (H_l_draw_3.up (by decide)) hr (He.glo_ok X0 G (c.fact 57 (f := .glo "_law_draw") (by rfl))) (fun _ _ => .nil) (fun _ => passAt0) (da_cons (de_var 0) (da_cons de_int da_nil)) (sCons_len (sCons_len sNil_len)))) (da_cons (de_var 2) da_nil)))) (sCons_len (sCons_len (sCons_len (sCons_len sNil_len)))))) (ds_one (ds_expr (de_append (de_var 5) (de_tup (da_cons (de_var 7) (da_cons (de_add de_int (de_callF [] (H_l_draw_3.up (by decide)) hr (He.glo_ok X0 G (c.fact 57 (f := .glo "_law_draw") (by rfl))) (fun _ _ => .nil) (fun _ => passAt0) (da_cons (de_var 0) (da_cons (de_var 4) da_nil)) (sCons_len (sCons_len sNil_len)))) (da_cons (de_var 8) (da_cons (de_var 9) da_nil)))))))))))) (ds_one (ds_ret (de_frz (de_var 5))))))))
theorem ok_l_hall_4 (c : SaysX fa fn xsL ysL K) (X0 : K.In h) (G : h.Ns mainGlobals mg) : Def P w K mg base CX0 4 (He.ga K "_law_hall") ["_law_bag_here", "_law_most", "_law_longest"] [] Sh.l_hall_4 := by
  obtain ⟨fd, F⟩ := c.def_ 18 (d := d_l_hall_4) rfl
  exact ⟨⟨fd, [], okb_l_hall_4 c X0 G F, F.bindsN fun _ _ _ _ _ _ us hl => match us, hl with | [_, _, _], _ => rfl, .nil⟩, F.kp⟩
theorem sc_is_number : FnScope ["word", "sign"] ["word"] (defScope (top 39)) := ⟨rfl, rfl, rfl, by decide +kernel, rfl, by decide +kernel, by decide +kernel⟩
theorem okb_is_number (c : SaysX fa fn xsL ysL K) (X0 : K.In h) (G : h.Ns mainGlobals mg) {fd : FuncData} (F : FunD K d_is_number.name d_is_number.qual d_is_number.params d_is_number.body d_is_number.scope (d_is_number.dvs K) (d_is_number.kws K) (He.ga K "is_number") fd) : FnOk P w K mg base CX0 1 (He.ga K "is_number") fd ["word"] (spN K 1 Sh.is_number) := by
  have sc := sc_is_number
  refine fn_ok F sc (by decide) (fun cdv A outer s H E hr => ?_)
  exact (ds_one (ds_ret (de_and (de_neT (hu_ hr) (de_var 0) de_str) (de_and (de_all rfl (by rfl) (He.free_ok X0 G (c.fact 73 (f := .free "all") (by rfl))) (de_lc false [("sign", 1)] rfl sc.nd (di_any (de_var 0)) (blkOk_by (by kernel_rfl)) (fun _ _ _ _ _ => (dg_name 1 sc.nd)) (fun _ _ _ _ _ => dts_nil) (fun _ _ _ _ _ => (de_inS (de_var 1) (de_globS (by rfl) (He.str_ok X0 G (c.fact 48 (f := .str "DIGITS" "0123456789") (by rfl)))))))) (de_one (de_or (de_eq (hu_ hr) (de_var 0) de_str) (de_one (de_ne (hu_ hr) (de_ix (de_var 0) de_int) de_str))))))))
theorem ok_is_number (c : SaysX fa fn xsL ysL K) (X0 : K.In h) (G : h.Ns mainGlobals mg) : Def P w K mg base CX0 1 (He.ga K "is_number") ["word"] [] Sh.is_number := by
  obtain ⟨fd, F⟩ := c.def_ 7 (d := d_is_number) rfl
  exact ⟨⟨fd, [], okb_is_number c X0 G F, F.bindsN fun _ _ _ _ _ _ us hl => match us, hl with | [_], _ => rfl, .nil⟩, F.kp⟩
theorem sc_talk_in : FnScope ["word", "parts", "part"] ["word"] (defScope (top 40)) := ⟨rfl, rfl, rfl, by decide +kernel, rfl, by decide +kernel, by decide +kernel⟩
theorem okb_talk_in (c : SaysX fa fn xsL ysL K) (X0 : K.In h) (G : h.Ns mainGlobals mg) {fd : FuncData} (F : FunD K d_talk_in.name d_talk_in.qual d_talk_in.params d_talk_in.body d_talk_in.scope (d_talk_in.dvs K) (d_talk_in.kws K) (He.ga K "talk_in") fd) : FnOk P w K mg base CX0 2 (He.ga K "talk_in") fd ["word"] (spN K 1 Sh.talk_in) := by
  have H_is_number := ok_is_number (P := P) (w := w) (base := base) c X0 G
  have sc := sc_talk_in
  refine fn_ok F sc (by decide) (fun cdv A outer s H E hr => ?_)
  exact (ds_cons (ds_set 1 sc.nd (de_split (de_var 0) (de_globS (by rfl) (He.str_ok X0 G (c.fact 45 (f := .str "COLON" ":") (by rfl)))))) (ds_cons (ds_if (DW.dt (dw_or (dt_ne (hu_ hr) (de_len (by rfl) (He.free_ok X0 G (c.fact 78 (f := .free "len") (by rfl))) (de_var 1)) de_int) (dw_or1 (dt_not (dt_val (de_all rfl (by rfl) (He.free_ok X0 G (c.fact 73 (f := .free "all") (by rfl))) (de_lc false [("part", 2)] rfl sc.nd (di_any (de_var 1)) (blkOk_by (by kernel_rfl)) (fun _ _ _ _ _ => (dg_name 2 sc.nd)) (fun _ _ _ _ _ => dts_nil) (fun _ _ _ _ _ => (de_callF [] ((H_is_number.up (by decide)).pure) hr (He.glo_ok X0 G (c.fact 49 (f := .glo "is_number") (by rfl))) (fun _ _ => .nil) (fun _ => passAt0) (da_cons (de_var 2) da_nil) (sCons_len sNil_len)))))))))) (ds_one (ds_ret de_non)) ds_nil) (ds_one (ds_ret (de_tup (da_cons (de_intT (by rfl) (He.free_ok X0 G (c.fact 76 (f := .free "int") (by rfl))) (de_ix (de_var 1) de_int)) (da_cons (de_intT (by rfl) (He.free_ok X0 G (c.fact 76 (f := .free "int") (by rfl))) (de_ix (de_var 1) de_int)) da_nil)))))))
theorem ok_talk_in (c : SaysX fa fn xsL ysL K) (X0 : K.In h) (G : h.Ns mainGlobals mg) : Def P w K mg base CX0 2 (He.ga K "talk_in") ["word"] [] Sh.talk_in := by
  obtain ⟨fd, F⟩ := c.def_ 8 (d := d_talk_in) rfl
  exact ⟨⟨fd, [], okb_talk_in c X0 G F, F.bindsN fun _ _ _ _ _ _ us hl => match us, hl with | [_], _ => rfl, .nil⟩, F.kp⟩
theorem sc_schedule_in_1 : FnScope ["words", "bar", "prefix", "cycle", "word"] ["words"] (defScope (top 41)) := ⟨rfl, rfl, rfl, by decide +kernel, rfl, by decide +kernel, by decide +kernel⟩
theorem okb_schedule_in_1 (c : SaysX fa fn xsL ysL K) (X0 : K.In h) (G : h.Ns mainGlobals mg) {fd : FuncData} (F : FunD K d_schedule_in_1.name d_schedule_in_1.qual d_schedule_in_1.params d_schedule_in_1.body d_schedule_in_1.scope (d_schedule_in_1.dvs K) (d_schedule_in_1.kws K) (He.ga K "schedule_in") fd) : FnOk P w K mg base CX0 3 (He.ga K "schedule_in") fd ["words"] (spN K 1 Sh.schedule_in_1) := by
  have H_talk_in := ok_talk_in (P := P) (w := w) (base := base) c X0 G
  have sc := sc_schedule_in_1
  refine fn_ok F sc (by decide) (fun cdv A outer s H E hr => ?_)
  exact (ds_cons (ds_if (dt_ninL (de_globS (by rfl) (He.str_ok X0 G (c.fact 44 (f := .str "BAR" "|") (by rfl)))) (de_var 0)) (ds_one (ds_ret de_non)) ds_nil) (ds_cons (ds_set 1 sc.nd (de_index (de_var 0) (de_globS (by rfl) (He.str_ok X0 G (c.fact 44 (f := .str "BAR" "|") (by rfl)))))) (ds_cons (ds_par (i := 2) (j := 3) rfl sc.nd (da_cons (de_lc false [("word", 4)] rfl sc.nd (di_any (de_cut false (de_var 0) do_none (do_some (de_var 1)))) (blkOk_by (by kernel_rfl)) (fun _ _ _ _ _ => (dg_name 4 sc.nd)) (fun _ _ _ _ _ => dts_nil) (fun _ _ _ _ _ => (de_callF [] ((H_talk_in.up (by decide)).pure) hr (He.glo_ok X0 G (c.fact 50 (f := .glo "talk_in") (by rfl))) (fun _ _ => .nil) (fun _ => passAt0) (da_cons (de_var 4) da_nil) (sCons_len sNil_len)))) (da_cons (de_lc false [("word", 4)] rfl sc.nd (di_any (de_cut false (de_var 0) (do_some (de_add (de_var 1) de_int)) do_none)) (blkOk_by (by kernel_rfl)) (fun _ _ _ _ _ => (dg_name 4 sc.nd)) (fun _ _ _ _ _ => dts_nil) (fun _ _ _ _ _ => (de_callF [] ((H_talk_in.up (by decide)).pure) hr (He.glo_ok X0 G (c.fact 50 (f := .glo "talk_in") (by rfl))) (fun _ _ => .nil) (fun _ => passAt0) (da_cons (de_var 4) da_nil) (sCons_len sNil_len)))) da_nil))) (ds_one (ds_ret (de_if (DW.dt (dw_or (dt_inD (hu1_ hr) de_non (de_var 2)) (dw_or (dt_inD (hu1_ hr) de_non (de_var 3)) (dw_or1 (dt_eqN (hu_ hr) (de_var 3) (de_lst da_nil)))))) de_non (de_tup (da_cons (de_var 2) (da_cons (de_var 3) da_nil)))))))))
theorem ok_schedule_in_1 (c : SaysX fa fn xsL ysL K) (X0 : K.In h) (G : h.Ns mainGlobals mg) : Def P w K mg base CX0 3 (He.ga K "schedule_in") ["words"] [] Sh.schedule_in_1 := by
  obtain ⟨fd, F⟩ := c.def_ 9 (d := d_schedule_in_1) rfl
  exact ⟨⟨fd, [], okb_schedule_in_1 c X0 G F, F.bindsN fun _ _ _ _ _ _ us hl => match us, hl with | [_], _ => rfl, .nil⟩, F.kp⟩
theorem sc_is_name : FnScope ["value", "sign"] ["value"] (defScope (top 26)) := ⟨rfl, rfl, rfl, by decide +kernel, rfl, by decide +kernel, by decide +kernel⟩
theorem okb_is_name (c : SaysX fa fn xsL ysL K) (X0 : K.In h) (G : h.Ns mainGlobals mg) {fd : FuncData} (F : FunD K d_is_name.name d_is_name.qual d_is_name.params d_is_name.body d_is_name.scope (d_is_name.dvs K) (d_is_name.kws K) (He.ga K "is_name") fd) : FnOk P w K mg base CX0 1 (He.ga K "is_name") fd ["value"] (spN K 1 Sh.is_name) := by
  have sc := sc_is_name
  refine fn_ok F sc (by decide) (fun cdv A outer s H E hr => ?_)
  exact (ds_one (ds_ret (de_and (de_isi (T := "str") (by simp) (by rfl) (He.free_ok X0 G (c.fact 77 (f := .free "isinstance") (by rfl))) (by rfl) (He.free_ok X0 G (c.fact 85 (f := .free "str") (by rfl))) (by decide +kernel) (de_var 0)) (de_and (de_lele de_int (de_len (by rfl) (He.free_ok X0 G (c.fact 78 (f := .free "len") (by rfl))) (de_var 0)) (de_globI (by rfl) (He.int_ok X0 G (c.fact 30 (f := .int "MAX_NAME" (8)) (by rfl))))) (de_one (de_all rfl (by rfl) (He.free_ok X0 G (c.fact 73 (f := .free "all") (by rfl))) (de_lc false [("sign", 1)] rfl sc.nd (di_any (de_var 0)) (blkOk_by (by kernel_rfl)) (fun _ _ _ _ _ => (dg_name 1 sc.nd)) (fun _ _ _ _ _ => dts_nil) (fun _ _ _ _ _ => (de_inS (de_var 1) (de_globS (by rfl) (He.str_ok X0 G (c.fact 29 (f := .str "LETTERS" "abcdefghijklmnopqrstuvwxyz") (by rfl)))))))))))))
theorem ok_is_name (c : SaysX fa fn xsL ysL K) (X0 : K.In h) (G : h.Ns mainGlobals mg) : Def P w K mg base CX0 1 (He.ga K "is_name") ["value"] [] Sh.is_name := by
  obtain ⟨fd, F⟩ := c.def_ 2 (d := d_is_name) rfl
  exact ⟨⟨fd, [], okb_is_name c X0 G F, F.bindsN fun _ _ _ _ _ _ us hl => match us, hl with | [_], _ => rfl, .nil⟩, F.kp⟩
theorem sc_talker_in_1 : FnScope ["line", "words", "schedule"] ["line"] (defScope (top 42)) := ⟨rfl, rfl, rfl, by decide +kernel, rfl, by decide +kernel, by decide +kernel⟩
theorem okb_talker_in_1 (c : SaysX fa fn xsL ysL K) (X0 : K.In h) (G : h.Ns mainGlobals mg) {fd : FuncData} (F : FunD K d_talker_in_1.name d_talker_in_1.qual d_talker_in_1.params d_talker_in_1.body d_talker_in_1.scope (d_talker_in_1.dvs K) (d_talker_in_1.kws K) (He.ga K "talker_in") fd) : FnOk P w K mg base CX0 4 (He.ga K "talker_in") fd ["line"] (spN K 1 Sh.talker_in_1) := by
  have H_is_number := ok_is_number (P := P) (w := w) (base := base) c X0 G
  have H_is_name := ok_is_name (P := P) (w := w) (base := base) c X0 G
  have H_schedule_in_1 := ok_schedule_in_1 (P := P) (w := w) (base := base) c X0 G
  have sc := sc_talker_in_1
  refine fn_ok F sc (by decide) (fun cdv A outer s H E hr => ?_)
  exact (ds_cons (ds_set 1 sc.nd (de_split (de_var 0) (de_globS (by rfl) (He.str_ok X0 G (c.fact 46 (f := .str "BLANK" " ") (by rfl)))))) (ds_cons (ds_if (DW.dt (dw_or (dt_lt (de_len (by rfl) (He.free_ok X0 G (c.fact 78 (f := .free "len") (by rfl))) (de_var 1)) de_int) (dw_or (dt_not (dt_val (de_callF [] ((H_is_name.up (by decide)).pure) hr (He.glo_ok X0 G (c.fact 37 (f := .glo "is_name") (by rfl))) (fun _ _ => .nil) (fun _ => passAt0) (da_cons (de_ix (de_var 1) de_int) da_nil) (sCons_len sNil_len)))) (dw_or1 (dt_not (dt_val (de_callF [] ((H_is_number.up (by decide)).pure) hr (He.glo_ok X0 G (c.fact 49 (f := .glo "is_number") (by rfl))) (fun _ _ => .nil) (fun _ => passAt0) (da_cons (de_ix (de_var 1) de_int) da_nil) (sCons_len sNil_len)))))))) (ds_one (ds_ret de_non)) ds_nil) (ds_cons (ds_set 2 sc.nd (de_callF [] ((H_schedule_in_1.up (by decide)).pure) hr (He.glo_ok X0 G (c.fact 51 (f := .glo "schedule_in") (by rfl))) (fun _ _ => .nil) (fun _ => passAt0) (da_cons (de_cut false (de_var 1) (do_some de_int) do_none) da_nil) (sCons_len sNil_len))) (ds_one (ds_ret (de_if (dt_is (de_var 2) de_non) de_non (de_add (de_tup (da_cons (de_ix (de_var 1) de_int) (da_cons (de_intT (by rfl) (He.free_ok X0 G (c.fact 76 (f := .free "int") (by rfl))) (de_ix (de_var 1) de_int)) da_nil))) (de_var 2))))))))
theorem ok_talker_in_1 (c : SaysX fa fn xsL ysL K) (X0 : K.In h) (G : h.Ns mainGlobals mg) : Def P w K mg base CX0 4 (He.ga K "talker_in") ["line"] [] Sh.talker_in_1 := by
  obtain ⟨fd, F⟩ := c.def_ 10 (d := d_talker_in_1) rfl
  exact ⟨⟨fd, [], okb_talker_in_1 c X0 G F, F.bindsN fun _ _ _ _ _ _ us hl => match us, hl with | [_], _ => rfl, .nil⟩, F.kp⟩
theorem sc_is_sequence : FnScope ["value"] ["value"] (defScope (top 25)) := ⟨rfl, rfl, rfl, by decide +kernel, rfl, by decide +kernel, by decide +kernel⟩
theorem okb_is_sequence (c : SaysX fa fn xsL ysL K) (X0 : K.In h) (G : h.Ns mainGlobals mg) {fd : FuncData} (F : FunD K d_is_sequence.name d_is_sequence.qual d_is_sequence.params d_is_sequence.body d_is_sequence.scope (d_is_sequence.dvs K) (d_is_sequence.kws K) (He.ga K "is_sequence") fd) : FnOk P w K mg base CX0 1 (He.ga K "is_sequence") fd ["value"] (spN K 1 Sh.is_sequence) := by
  have sc := sc_is_sequence
  refine fn_ok F sc (by decide) (fun cdv A outer s H E hr => ?_)
  exact (ds_one (ds_ret (de_isi2 (T1 := "list") (T2 := "tuple") (by simp) (by simp) (by rfl) (He.free_ok X0 G (c.fact 77 (f := .free "isinstance") (by rfl))) (by rfl) (He.free_ok X0 G (c.fact 79 (f := .free "list") (by rfl))) (by decide +kernel) (by rfl) (He.free_ok X0 G (c.fact 86 (f := .free "tuple") (by rfl))) (by decide +kernel) (de_var 0))))
theorem ok_is_sequence (c : SaysX fa fn xsL ysL K) (X0 : K.In h) (G : h.Ns mainGlobals mg) : Def P w K mg base CX0 1 (He.ga K "is_sequence") ["value"] [] Sh.is_sequence := by
  obtain ⟨fd, F⟩ := c.def_ 1 (d := d_is_sequence) rfl
  exact ⟨⟨fd, [], okb_is_sequence c X0 G F, F.bindsN fun _ _ _ _ _ _ us hl => match us, hl with | [_], _ => rfl, .nil⟩, F.kp⟩
theorem sc_is_integer : FnScope ["value", "low", "high"] ["value", "low", "high"] (defScope (top 24)) := ⟨rfl, rfl, rfl, by decide +kernel, rfl, by decide +kernel, by decide +kernel⟩
theorem okb_is_integer (c : SaysX fa fn xsL ysL K) (X0 : K.In h) (G : h.Ns mainGlobals mg) {fd : FuncData} (F : FunD K d_is_integer.name d_is_integer.qual d_is_integer.params d_is_integer.body d_is_integer.scope (d_is_integer.dvs K) (d_is_integer.kws K) (He.ga K "is_integer") fd) : FnOk P w K mg base CX0 1 (He.ga K "is_integer") fd ["value", "low", "high"] (spN K 3 Sh.is_integer) := by
  have sc := sc_is_integer
  refine fn_ok F sc (by decide) (fun cdv A outer s H E hr => ?_)
  exact (ds_cons (ds_if (DW.dt (dw_or (dt_not (dt_val (de_isi (T := "int") (by simp) (by rfl) (He.free_ok X0 G (c.fact 77 (f := .free "isinstance") (by rfl))) (by rfl) (He.free_ok X0 G (c.fact 76 (f := .free "int") (by rfl))) (by decide +kernel) (de_var 0)))) (dw_or1 (dt_val (de_isi (T := "bool") (by simp) (by rfl) (He.free_ok X0 G (c.fact 77 (f := .free "isinstance") (by rfl))) (by rfl) (He.free_ok X0 G (c.fact 74 (f := .free "bool") (by rfl))) (by decide +kernel) (de_var 0)))))) (ds_one (ds_ret de_bl)) ds_nil) (ds_one (ds_ret (de_and (de_ge (de_var 0) (de_var 1)) (de_one (de_or (de_is (de_var 2) de_non) (de_one (de_le (de_var 0) (de_var 2)))))))))
theorem ok_is_integer (c : SaysX fa fn xsL ysL K) (X0 : K.In h) (G : h.Ns mainGlobals mg) : Def P w K mg base CX0 1 (He.ga K "is_integer") ["value", "low", "high"] [.non] Sh.is_integer := by
  obtain ⟨fd, F⟩ := c.def_ 0 (d := d_is_integer) rfl
  obtain ⟨dus, hd, hb⟩ := F.binds1 (ps := ["value", "low", "high"]) 2 0 (by simp [He.DefD.dvs, d_is_integer]) (by rfl) (fun T kV doc pm an cdv ct us its l1 l2 => match us, its, l1, l2 with | [_, _], [_], _, _ => ⟨_, rfl, rfl⟩)
  exact ⟨⟨fd, dus, okb_is_integer c X0 G F, hb, hd⟩, F.kp⟩
theorem ok_is_integer_all (c : SaysX fa fn xsL ysL K) (X0 : K.In h) (G : h.Ns mainGlobals mg) : Def P w K mg base CX0 1 (He.ga K "is_integer") ["value", "low", "high"] [] Sh.is_integer := by
  obtain ⟨fd, F⟩ := c.def_ 0 (d := d_is_integer) rfl
  obtain ⟨dus, hd, hb⟩ := F.binds1 (ps := ["value", "low", "high"]) 3 1 (by simp [He.DefD.dvs, d_is_integer]) (by rfl) (fun T kV doc pm an cdv ct us its l1 l2 => match us, its, l1, l2 with | [_, _, _], [_], _, _ => ⟨_, rfl, rfl⟩)
  exact ⟨⟨fd, dus, okb_is_integer c X0 G F, hb, hd⟩, F.kp⟩
theorem sc_is_talk : FnScope ["value", "part"] ["value"] (defScope (top 27)) := ⟨rfl, rfl, rfl, by decide +kernel, rfl, by decide +kernel, by decide +kernel⟩
theorem okb_is_talk (c : SaysX fa fn xsL ysL K) (X0 : K.In h) (G : h.Ns mainGlobals mg) {fd : FuncData} (F : FunD K d_is_talk.name d_is_talk.qual d_is_talk.params d_is_talk.body d_is_talk.scope (d_is_talk.dvs K) (d_is_talk.kws K) (He.ga K "is_talk") fd) : FnOk P w K mg base CX0 2 (He.ga K "is_talk") fd ["value"] (spN K 1 Sh.is_talk) := by
  have H_is_integer := ok_is_integer (P := P) (w := w) (base := base) c X0 G
  have H_is_integer_all := ok_is_integer_all (P := P) (w := w) (base := base) c X0 G
  have H_is_sequence := ok_is_sequence (P := P) (w := w) (base := base) c X0 G
  have sc := sc_is_talk
  refine fn_ok F sc (by decide) (fun cdv A outer s H E hr => ?_)
  exact (ds_one (ds_ret (de_and (de_callF [] ((H_is_sequence.up (by decide)).pure) hr (He.glo_ok X0 G (c.fact 36 (f := .glo "is_sequence") (by rfl))) (fun _ _ => .nil) (fun _ => passAt0) (da_cons (de_var 0) da_nil) (sCons_len sNil_len)) (de_and (de_eq (hu_ hr) (de_len (by rfl) (He.free_ok X0 G (c.fact 78 (f := .free "len") (by rfl))) (de_var 0)) de_int) (de_one (de_all rfl (by rfl) (He.free_ok X0 G (c.fact 73 (f := .free "all") (by rfl))) (de_lc false [("part", 1)] rfl sc.nd (di_any (de_var 0)) (blkOk_by (by kernel_rfl)) (fun _ _ _ _ _ => (dg_name 1 sc.nd)) (fun _ _ _ _ _ => dts_nil) (fun _ _ _ _ _ => (de_callF [] ((H_is_integer_all.up (by decide)).pure) hr (He.glo_ok X0 G (c.fact 35 (f := .glo "is_integer") (by rfl))) (fun _ _ => .nil) (fun _ => passAt0) (da_cons (de_var 1) (da_cons de_int (da_cons (de_globI (by rfl) (He.int_ok X0 G (c.fact 31 (f := .int "MAX_TIME" (1000000000000000000000000000000)) (by rfl)))) da_nil))) (sCons_len (sCons_len (sCons_len sNil_len))))))))))))
theorem ok_is_talk (c : SaysX fa fn xsL ysL K) (X0 : K.In h) (G : h.Ns mainGlobals mg) : Def P w K mg base CX0 2 (He.ga K "is_talk") ["value"] [] Sh.is_talk := by
  obtain ⟨fd, F⟩ := c.def_ 3 (d := d_is_talk) rfl
  exact ⟨⟨fd, [], okb_is_talk c X0 G F, F.bindsN fun _ _ _ _ _ _ us hl => match us, hl with | [_], _ => rfl, .nil⟩, F.kp⟩
theorem sc_are_talks : FnScope ["value", "least", "one"] ["value", "least"] (defScope (top 28)) := ⟨rfl, rfl, rfl, by decide +kernel, rfl, by decide +kernel, by decide +kernel⟩
theorem okb_are_talks (c : SaysX fa fn xsL ysL K) (X0 : K.In h) (G : h.Ns mainGlobals mg) {fd : FuncData} (F : FunD K d_are_talks.name d_are_talks.qual d_are_talks.params d_are_talks.body d_are_talks.scope (d_are_talks.dvs K) (d_are_talks.kws K) (He.ga K "are_talks") fd) : FnOk P w K mg base CX0 3 (He.ga K "are_talks") fd ["value", "least"] (spN K 2 Sh.are_talks) := by
  have H_is_talk := ok_is_talk (P := P) (w := w) (base := base) c X0 G
  have H_is_sequence := ok_is_sequence (P := P) (w := w) (base := base) c X0 G
  have sc := sc_are_talks
  refine fn_ok F sc (by decide) (fun cdv A outer s H E hr => ?_)
  exact (ds_one (ds_ret (de_and (de_callF [] ((H_is_sequence.up (by decide)).pure) hr (He.glo_ok X0 G (c.fact 36 (f := .glo "is_sequence") (by rfl))) (fun _ _ => .nil) (fun _ => passAt0) (da_cons (de_var 0) da_nil) (sCons_len sNil_len)) (de_and (de_lele (de_var 1) (de_len (by rfl) (He.free_ok X0 G (c.fact 78 (f := .free "len") (by rfl))) (de_var 0)) (de_globI (by rfl) (He.int_ok X0 G (c.fact 33 (f := .int "MAX_TALKS" (8)) (by rfl))))) (de_one (de_all rfl (by rfl) (He.free_ok X0 G (c.fact 73 (f := .free "all") (by rfl))) (de_lc false [("one", 2)] rfl sc.nd (di_any (de_var 0)) (blkOk_by (by kernel_rfl)) (fun _ _ _ _ _ => (dg_name 2 sc.nd)) (fun _ _ _ _ _ => dts_nil) (fun _ _ _ _ _ => (de_callF [] ((H_is_talk.up (by decide)).pure) hr (He.glo_ok X0 G (c.fact 38 (f := .glo "is_talk") (by rfl))) (fun _ _ => .nil) (fun _ => passAt0) (da_cons (de_var 2) da_nil) (sCons_len sNil_len))))))))))
theorem ok_are_talks (c : SaysX fa fn xsL ysL K) (X0 : K.In h) (G : h.Ns mainGlobals mg) : Def P w K mg base CX0 3 (He.ga K "are_talks") ["value", "least"] [] Sh.are_talks := by
  obtain ⟨fd, F⟩ := c.def_ 4 (d := d_are_talks) rfl
  exact ⟨⟨fd, [], okb_are_talks c X0 G F, F.bindsN fun _ _ _ _ _ _ us hl => match us, hl with | [_, _], _ => rfl, .nil⟩, F.kp⟩
theorem sc_is_talker : FnScope ["value"] ["value"] (defScope (top 29)) := ⟨rfl, rfl, rfl, by decide +kernel, rfl, by decide +kernel, by decide +kernel⟩
theorem okb_is_talker (c : SaysX fa fn xsL ysL K) (X0 : K.In h) (G : h.Ns mainGlobals mg) {fd : FuncData} (F : FunD K d_is_talker.name d_is_talker.qual d_is_talker.params d_is_talker.body d_is_talker.scope (d_is_talker.dvs K) (d_is_talker.kws K) (He.ga K "is_talker") fd) : FnOk P w K mg base CX0 4 (He.ga K "is_talker") fd ["value"] (spN K 1 Sh.is_talker) := by
  have H_is_name := ok_is_name (P := P) (w := w) (base := base) c X0 G
  have H_is_sequence := ok_is_sequence (P := P) (w := w) (base := base) c X0 G
  have H_are_talks := ok_are_talks (P := P) (w := w) (base := base) c X0 G
  have H_is_integer := ok_is_integer (P := P) (w := w) (base := base) c X0 G
  have H_is_integer_all := ok_is_integer_all (P := P) (w := w) (base := base) c X0 G
  have sc := sc_is_talker
  refine fn_ok F sc (by decide) (fun cdv A outer s H E hr => ?_)
  exact (ds_cons (ds_if (DW.dt (dw_or (dt_not (dt_val (de_callF [] ((H_is_sequence.up (by decide)).pure) hr (He.glo_ok X0 G (c.fact 36 (f := .glo "is_sequence") (by rfl))) (fun _ _ => .nil) (fun _ => passAt0) (da_cons (de_var 0) da_nil) (sCons_len sNil_len)))) (dw_or (dt_ne (hu_ hr) (de_len (by rfl) (He.free_ok X0 G (c.fact 78 (f := .free "len") (by rfl))) (de_var 0)) de_int) (dw_or1 (dt_not (dt_val (de_callF [] ((H_is_name.up (by decide)).pure) hr (He.glo_ok X0 G (c.fact 37 (f := .glo "is_name") (by rfl))) (fun _ _ => .nil) (fun _ => passAt0) (da_cons (de_ix (de_var 0) de_int) da_nil) (sCons_len sNil_len)))))))) (ds_one (ds_ret de_bl)) ds_nil) (ds_one (ds_ret (de_and (de_callF [] ((H_is_integer_all.up (by decide)).pure) hr (He.glo_ok X0 G (c.fact 35 (f := .glo "is_integer") (by rfl))) (fun _ _ => .nil) (fun _ => passAt0) (da_cons (de_ix (de_var 0) de_int) (da_cons de_int (da_cons (de_globI (by rfl) (He.int_ok X0 G (c.fact 32 (f := .int "MAX_RANK" (10)) (by rfl)))) da_nil))) (sCons_len (sCons_len (sCons_len sNil_len)))) (de_and (de_callF [] ((H_are_talks.up (by decide)).pure) hr (He.glo_ok X0 G (c.fact 39 (f := .glo "are_talks") (by rfl))) (fun _ _ => .nil) (fun _ => passAt0) (da_cons (de_ix (de_var 0) de_int) (da_cons de_int da_nil)) (sCons_len (sCons_len sNil_len))) (de_one (de_callF [] ((H_are_talks.up (by decide)).pure) hr (He.glo_ok X0 G (c.fact 39 (f := .glo "are_talks") (by rfl))) (fun _ _ => .nil) (fun _ => passAt0) (da_cons (de_ix (de_var 0) de_int) (da_cons de_int da_nil)) (sCons_len (sCons_len sNil_len)))))))))
theorem ok_is_talker (c : SaysX fa fn xsL ysL K) (X0 : K.In h) (G : h.Ns mainGlobals mg) : Def P w K mg base CX0 4 (He.ga K "is_talker") ["value"] [] Sh.is_talker := by
  obtain ⟨fd, F⟩ := c.def_ 5 (d := d_is_talker) rfl
  exact ⟨⟨fd, [], okb_is_talker c X0 G F, F.bindsN fun _ _ _ _ _ _ us hl => match us, hl with | [_], _ => rfl, .nil⟩, F.kp⟩
theorem sc_is_hall : FnScope ["value", "one"] ["value"] (defScope (top 30)) := ⟨rfl, rfl, rfl, by decide +kernel, rfl, by decide +kernel, by decide +kernel⟩
theorem okb_is_hall (c : SaysX fa fn xsL ysL K) (X0 : K.In h) (G : h.Ns mainGlobals mg) {fd : FuncData} (F : FunD K d_is_hall.name d_is_hall.qual d_is_hall.params d_is_hall.body d_is_hall.scope (d_is_hall.dvs K) (d_is_hall.kws K) (He.ga K "is_hall") fd) : FnOk P w K mg base CX0 5 (He.ga K "is_hall") fd ["value"] (spN K 1 Sh.is_hall) := by
  have H_is_talker := ok_is_talker (P := P) (w := w) (base := base) c X0 G
  have H_is_sequence := ok_is_sequence (P := P) (w := w) (base := base) c X0 G
  have sc := sc_is_hall
  refine fn_ok F sc (by decide) (fun cdv A outer s H E hr => ?_)
  exact (ds_cons (ds_if (DW.dt (dw_or (dt_not (dt_val (de_callF [] ((H_is_sequence.up (by decide)).pure) hr (He.glo_ok X0 G (c.fact 36 (f := .glo "is_sequence") (by rfl))) (fun _ _ => .nil) (fun _ => passAt0) (da_cons (de_var 0) da_nil) (sCons_len sNil_len)))) (dw_or (dt_gt (de_len (by rfl) (He.free_ok X0 G (c.fact 78 (f := .free "len") (by rfl))) (de_var 0)) (de_globI (by rfl) (He.int_ok X0 G (c.fact 34 (f := .int "MAX_TALKERS" (10)) (by rfl))))) (dw_or1 (dt_not (dt_val (de_all rfl (by rfl) (He.free_ok X0 G (c.fact 73 (f := .free "all") (by rfl))) (de_lc false [("one", 1)] rfl sc.nd (di_any (de_var 0)) (blkOk_by (by kernel_rfl)) (fun _ _ _ _ _ => (dg_name 1 sc.nd)) (fun _ _ _ _ _ => dts_nil) (fun _ _ _ _ _ => (de_callF [] ((H_is_talker.up (by decide)).pure) hr (He.glo_ok X0 G (c.fact 40 (f := .glo "is_talker") (by rfl))) (fun _ _ => .nil) (fun _ => passAt0) (da_cons (de_var 1) da_nil) (sCons_len sNil_len))))))))))) (ds_one (ds_ret de_bl)) ds_nil) (ds_one (ds_ret (de_eq (hu_ hr) (de_lenset rfl (by rfl) (He.free_ok X0 G (c.fact 78 (f := .free "len") (by rfl))) (by rfl) (He.free_ok X0 G (c.fact 84 (f := .free "set") (by rfl))) (de_lc false [("one", 1)] rfl sc.nd (di_any (de_var 0)) (blkOk_by (by kernel_rfl)) (fun _ _ _ _ _ => (dg_name 1 sc.nd)) (fun _ _ _ _ _ => dts_nil) (fun _ _ _ _ _ => (de_ix (de_var 1) de_int)))) (de_len (by rfl) (He.free_ok X0 G (c.fact 78 (f := .free "len") (by rfl))) (de_var 0))))))
theorem ok_is_hall (c : SaysX fa fn xsL ysL K) (X0 : K.In h) (G : h.Ns mainGlobals mg) : Def P w K mg base CX0 5 (He.ga K "is_hall") ["value"] [] Sh.is_hall := by
  obtain ⟨fd, F⟩ := c.def_ 6 (d := d_is_hall) rfl
  exact ⟨⟨fd, [], okb_is_hall c X0 G F, F.bindsN fun _ _ _ _ _ _ us hl => match us, hl with | [_], _ => rfl, .nil⟩, F.kp⟩
theorem sc_parse_hall_1 : FnScope ["text", "found", "index", "line", "talker"] ["text"] (defScope (top 43)) := ⟨rfl, rfl, rfl, by decide +kernel, rfl, by decide +kernel, by decide +kernel⟩
theorem okb_parse_hall_1 (c : SaysX fa fn xsL ysL K) (X0 : K.In h) (G : h.Ns mainGlobals mg) {fd : FuncData} (F : FunD K d_parse_hall_1.name d_parse_hall_1.qual d_parse_hall_1.params d_parse_hall_1.body d_parse_hall_1.scope (d_parse_hall_1.dvs K) (d_parse_hall_1.kws K) (He.ga K "parse_hall") fd) : FnOk P w K mg base (L2N.CX P w) 6 (He.ga K "parse_hall") fd ["text"] (spN K 1 Sh.parse_hall_1) := by
  have H_talker_in_1 := ok_talker_in_1 (P := P) (w := w) (base := base) c X0 G
  have H_is_hall := ok_is_hall (P := P) (w := w) (base := base) c X0 G
  have I_InvalidText := oki_InvalidText (P := P) (w := w) (base := base) c X0 G
  have sc := sc_parse_hall_1
  refine fn_ok F sc (by decide) (fun cdv A outer s H E hr => ?_)
  exact (ds_cons (ds_if (dt_not (dt_val (de_isi (T := "str") (by simp) (by rfl) (He.free_ok X0 G (c.fact 77 (f := .free "isinstance") (by rfl))) (by rfl) (He.free_ok X0 G (c.fact 85 (f := .free "str") (by rfl))) (by decide +kernel) (de_var 0)))) (ds_one (ds_raiseFN (L2N.takes_of rfl rfl rfl rfl) rfl I_InvalidText (hr.mono (by decide)) (He.glo_ok X0 G (c.fact 4 (f := .glo "InvalidText") (by rfl))) (by rfl) de_non)) ds_nil) (ds_cons (ds_set 1 sc.nd (de_lstO da_nil)) (ds_cons (ds_for (vs := [2, 3]) (passes_of rfl) rfl (di_enum (by rfl) (He.free_ok X0 G (c.fact 75 (f := .free "enumerate") (by rfl))) (de_if (dt_neT (hu_ hr) (de_var 0) de_str) (de_split (de_var 0) (de_globS (by rfl) (He.str_ok X0 G (c.fact 47 (f := .str "NEWLINE" "\n") (by rfl))))) (de_lst da_nil))) (dg_tup (n := 2) rfl (dg_cons (dg_name 2 sc.nd) (dg_cons (dg_name 3 sc.nd) dg_nil)) rfl (pg_tup rfl (dg_cons (dg_name 2 sc.nd) (dg_cons (dg_name 3 sc.nd) dg_nil))) (pg_lst rfl (dg_cons (dg_name 2 sc.nd) (dg_cons (dg_name 3 sc.nd) dg_nil)))) (ds_cons (ds_set 4 sc.nd (de_callF [] ((H_talker_in_1.up (by decide)).pure) hr (He.glo_ok X0 G (c.fact 52 (f := .glo "talker_in") (by rfl))) (fun _ _ => .nil) (fun _ => passAt0) (da_cons (de_var 3) da_nil) (sCons_len sNil_len))) (ds_cons (ds_if (dt_is (de_var 4) de_non) (ds_one (ds_raiseFN (L2N.takes_of rfl rfl rfl rfl) rfl I_InvalidText (hr.mono (by decide)) (He.glo_ok X0 G (c.fact 4 (f := .glo "InvalidText") (by rfl))) (by rfl) (de_var 2))) ds_nil) (ds_one (ds_expr (de_append (de_var 1) (de_var 4))))))) (ds_cons (ds_if (dt_not (dt_val (de_callF [] ((H_is_hall.up (by decide)).lend) hr (He.glo_ok X0 G (c.fact 41 (f := .glo "is_hall") (by rfl))) (fun _ _ => .nil) (fun _ => passAt0) (da_cons (de_var 1) da_nil) (sCons_len sNil_len)))) (ds_one (ds_raiseFN (L2N.takes_of rfl rfl rfl rfl) rfl I_InvalidText (hr.mono (by decide)) (He.glo_ok X0 G (c.fact 4 (f := .glo "InvalidText") (by rfl))) (by rfl) de_non)) ds_nil) (ds_one (ds_ret (de_frz (de_var 1))))))))
theorem ok_parse_hall_1 (c : SaysX fa fn xsL ysL K) (X0 : K.In h) (G : h.Ns mainGlobals mg) : Def P w K mg base (L2N.CX P w) 6 (He.ga K "parse_hall") ["text"] [] Sh.parse_hall_1 := by
  obtain ⟨fd, F⟩ := c.def_ 11 (d := d_parse_hall_1) rfl
  exact ⟨⟨fd, [], okb_parse_hall_1 c X0 G F, F.bindsN fun _ _ _ _ _ _ us hl => match us, hl with | [_], _ => rfl, .nil⟩, F.kp⟩
theorem sc_parse_record_1 : FnScope ["text", "words", "index", "word"] ["text"] (defScope (top 44)) := ⟨rfl, rfl, rfl, by decide +kernel, rfl, by decide +kernel, by decide +kernel⟩
theorem okb_parse_record_1 (c : SaysX fa fn xsL ysL K) (X0 : K.In h) (G : h.Ns mainGlobals mg) {fd : FuncData} (F : FunD K d_parse_record_1.name d_parse_record_1.qual d_parse_record_1.params d_parse_record_1.body d_parse_record_1.scope (d_parse_record_1.dvs K) (d_parse_record_1.kws K) (He.ga K "parse_record") fd) : FnOk P w K mg base (L2N.CX P w) 3 (He.ga K "parse_record") fd ["text"] (spN K 1 Sh.parse_record_1) := by
  have H_is_name := ok_is_name (P := P) (w := w) (base := base) c X0 G
  have I_InvalidText := oki_InvalidText (P := P) (w := w) (base := base) c X0 G
  have sc := sc_parse_record_1
  refine fn_ok F sc (by decide) (fun cdv A outer s H E hr => ?_)
  exact (ds_cons (ds_if (dt_not (dt_val (de_isi (T := "str") (by simp) (by rfl) (He.free_ok X0 G (c.fact 77 (f := .free "isinstance") (by rfl))) (by rfl) (He.free_ok X0 G (c.fact 85 (f := .free "str") (by rfl))) (by decide +kernel) (de_var 0)))) (ds_one (ds_raiseFN (L2N.takes_of rfl rfl rfl rfl) rfl I_InvalidText (hr.mono (by decide)) (He.glo_ok X0 G (c.fact 4 (f := .glo "InvalidText") (by rfl))) (by rfl) de_non)) ds_nil) (ds_cons (ds_set 1 sc.nd (de_if (dt_neT (hu_ hr) (de_var 0) de_str) (de_split (de_var 0) (de_globS (by rfl) (He.str_ok X0 G (c.fact 46 (f := .str "BLANK" " ") (by rfl))))) (de_lst da_nil))) (ds_cons (ds_for (vs := [2, 3]) (passes_of rfl) rfl (di_enum (by rfl) (He.free_ok X0 G (c.fact 75 (f := .free "enumerate") (by rfl))) (de_var 1)) (dg_tup (n := 2) rfl (dg_cons (dg_name 2 sc.nd) (dg_cons (dg_name 3 sc.nd) dg_nil)) rfl (pg_tup rfl (dg_cons (dg_name 2 sc.nd) (dg_cons (dg_name 3 sc.nd) dg_nil))) (pg_lst rfl (dg_cons (dg_name 2 sc.nd) (dg_cons (dg_name 3 sc.nd) dg_nil)))) (ds_one (ds_if (DW.dt (dw_and (dt_ne (hu_ hr) (de_var 3) (de_globS (by rfl) (He.str_ok X0 G (c.fact 43 (f := .str "NOBODY" "-") (by rfl))))) (dw_and1 (dt_not (dt_val (de_callF [] ((H_is_name.up (by decide)).pure) hr (He.glo_ok X0 G (c.fact 37 (f := .glo "is_name") (by rfl))) (fun _ _ => .nil) (fun _ => passAt0) (da_cons (de_var 3) da_nil) (sCons_len sNil_len))))))) (ds_one (ds_raiseFN (L2N.takes_of rfl rfl rfl rfl) rfl I_InvalidText (hr.mono (by decide)) (He.glo_ok X0 G (c.fact 4 (f := .glo "InvalidText") (by rfl))) (by rfl) (de_var 2))) ds_nil))) (ds_cons (ds_if (dt_gt (de_len (by rfl) (He.free_ok X0 G (c.fact 78 (f := .free "len") (by rfl))) (de_var 1)) (de_globI (by rfl) (He.int_ok X0 G (c.fact 42 (f := .int "MAX_RECORD" (400)) (by rfl))))) (ds_one (ds_raiseFN (L2N.takes_of rfl rfl rfl rfl) rfl I_InvalidText (hr.mono (by decide)) (He.glo_ok X0 G (c.fact 4 (f := .glo "InvalidText") (by rfl))) (by rfl) de_non)) ds_nil) (ds_one (ds_ret (de_lc false [("word", 3)] rfl sc.nd (di_any (de_var 1)) (blkOk_by (by kernel_rfl)) (fun _ _ _ _ _ => (dg_name 3 sc.nd)) (fun _ _ _ _ _ => dts_nil) (fun _ _ _ _ _ => (de_if (dt_eq (hu_ hr) (de_var 3) (de_globS (by rfl) (He.str_ok X0 G (c.fact 43 (f := .str "NOBODY" "-") (by rfl))))) de_non (de_var 3))))))))))
theorem ok_parse_record_1 (c : SaysX fa fn xsL ysL K) (X0 : K.In h) (G : h.Ns mainGlobals mg) : Def P w K mg base (L2N.CX P w) 3 (He.ga K "parse_record") ["text"] [] Sh.parse_record_1 := by
  obtain ⟨fd, F⟩ := c.def_ 12 (d := d_parse_record_1) rfl
  exact ⟨⟨fd, [], okb_parse_record_1 c X0 G F, F.bindsN fun _ _ _ _ _ _ us hl => match us, hl with | [_], _ => rfl, .nil⟩, F.kp⟩
theorem sc_l_class_6 : FnScope ["_law_caught", "_law_odd", "_law_some", "_law_found", "_law_word", "_law_matches"] ["_law_caught"] (defScope (top 52)) := ⟨rfl, rfl, rfl, by decide +kernel, rfl, by decide +kernel, by decide +kernel⟩
theorem okb_l_class_6 (c : SaysX fa fn xsL ysL K) (X0 : K.In h) (G : h.Ns mainGlobals mg) {fd : FuncData} (F : FunD K d_l_class_6.name d_l_class_6.qual d_l_class_6.params d_l_class_6.body d_l_class_6.scope (d_l_class_6.dvs K) (d_l_class_6.kws K) (He.ga K "_law_class") fd) : FnHot P w K mg base 1 (He.ga K "_law_class") fd ["_law_caught"] (spN K 1 Sh.l_class_6) := by
  have sc := sc_l_class_6
  refine fn_okHot F sc (by decide) (fun cdv A outer s H E hr c1 => ?_)
  exact (ds_cons (ds_set 1 sc.nd (de_not (de_isKV c.xf (by rfl) (He.free_ok X0 G (c.fact 77 (f := .free "isinstance") (by rfl))) (by rfl) (He.free_ok X0 G (c.fact 72 (f := .free "ValueError") (by rfl))) (de_var 0)))) (ds_cons (ds_set 1 sc.nd (de_or (de_var 1) (de_one (de_isKT (cs := ["Inconsistent", "InvalidCommand", "InvalidHall", "InvalidMembers"]) (ps := [_, _, _, _]) c.xf (by decide) rfl (by show 4 ≤ sizeLine; decide) rfl (by rfl) (He.free_ok X0 G (c.fact 77 (f := .free "isinstance") (by rfl))) (List.forall_mem_cons.mpr ⟨⟨by rfl, (He.glo_ok X0 G (c.fact 3 (f := .glo "Inconsistent") (by rfl))), by decide⟩, (List.forall_mem_cons.mpr ⟨⟨by rfl, (He.glo_ok X0 G (c.fact 27 (f := .glo "InvalidCommand") (by rfl))), by decide⟩, (List.forall_mem_cons.mpr ⟨⟨by rfl, (He.glo_ok X0 G (c.fact 5 (f := .glo "InvalidHall") (by rfl))), by decide⟩, (List.forall_mem_cons.mpr ⟨⟨by rfl, (He.glo_ok X0 G (c.fact 21 (f := .glo "InvalidMembers") (by rfl))), by decide⟩, (fun _ h_ => absurd h_ List.not_mem_nil)⟩)⟩)⟩)⟩) (de_var 0))))) (ds_cons (ds_set 1 sc.nd (de_or (de_var 1) (de_one (de_isKT (cs := ["InvalidNumber", "InvalidPosition", "InvalidRank", "InvalidRanks"]) (ps := [_, _, _, _]) c.xf (by decide) rfl (by show 4 ≤ sizeLine; decide) rfl (by rfl) (He.free_ok X0 G (c.fact 77 (f := .free "isinstance") (by rfl))) (List.forall_mem_cons.mpr ⟨⟨by rfl, (He.glo_ok X0 G (c.fact 11 (f := .glo "InvalidNumber") (by rfl))), by decide⟩, (List.forall_mem_cons.mpr ⟨⟨by rfl, (He.glo_ok X0 G (c.fact 19 (f := .glo "InvalidPosition") (by rfl))), by decide⟩, (List.forall_mem_cons.mpr ⟨⟨by rfl, (He.glo_ok X0 G (c.fact 15 (f := .glo "InvalidRank") (by rfl))), by decide⟩, (List.forall_mem_cons.mpr ⟨⟨by rfl, (He.glo_ok X0 G (c.fact 17 (f := .glo "InvalidRanks") (by rfl))), by decide⟩, (fun _ h_ => absurd h_ List.not_mem_nil)⟩)⟩)⟩)⟩) (de_var 0))))) (ds_cons (ds_set 1 sc.nd (de_or (de_var 1) (de_one (de_isKT (cs := ["InvalidRecord", "InvalidTalker", "InvalidTick", "NothingToUndo"]) (ps := [_, _, _, _]) c.xf (by decide) rfl (by show 4 ≤ sizeLine; decide) rfl (by rfl) (He.free_ok X0 G (c.fact 77 (f := .free "isinstance") (by rfl))) (List.forall_mem_cons.mpr ⟨⟨by rfl, (He.glo_ok X0 G (c.fact 23 (f := .glo "InvalidRecord") (by rfl))), by decide⟩, (List.forall_mem_cons.mpr ⟨⟨by rfl, (He.glo_ok X0 G (c.fact 7 (f := .glo "InvalidTalker") (by rfl))), by decide⟩, (List.forall_mem_cons.mpr ⟨⟨by rfl, (He.glo_ok X0 G (c.fact 13 (f := .glo "InvalidTick") (by rfl))), by decide⟩, (List.forall_mem_cons.mpr ⟨⟨by rfl, (He.glo_ok X0 G (c.fact 25 (f := .glo "NothingToUndo") (by rfl))), by decide⟩, (fun _ h_ => absurd h_ List.not_mem_nil)⟩)⟩)⟩)⟩) (de_var 0))))) (ds_cons (ds_set 1 sc.nd (de_or (de_var 1) (de_one (de_isKT (cs := ["TooMany", "UnknownTalker"]) (ps := [_, _]) c.xf (by decide) rfl (by show 2 ≤ sizeLine; decide) rfl (by rfl) (He.free_ok X0 G (c.fact 77 (f := .free "isinstance") (by rfl))) (List.forall_mem_cons.mpr ⟨⟨by rfl, (He.glo_ok X0 G (c.fact 2 (f := .glo "TooMany") (by rfl))), by decide⟩, (List.forall_mem_cons.mpr ⟨⟨by rfl, (He.glo_ok X0 G (c.fact 9 (f := .glo "UnknownTalker") (by rfl))), by decide⟩, (fun _ h_ => absurd h_ List.not_mem_nil)⟩)⟩) (de_var 0))))) (ds_cons (ds_set 2 sc.nd (de_lstO da_nil)) (ds_cons (ds_expr (de_append (de_var 2) (de_tup (da_cons de_str (da_cons (de_isK "InvalidText" c.xf (by decide) (by rfl) (He.free_ok X0 G (c.fact 77 (f := .free "isinstance") (by rfl))) (by rfl) (He.glo_ok X0 G (c.fact 4 (f := .glo "InvalidText") (by rfl))) (de_var 0)) da_nil))))) (ds_cons (ds_setLcOH (X := _) 3 false [("_law_word", 4), ("_law_matches", 5)] c1 sc.nd (de_var 2) (blkOk_by (by kernel_rfl)) (fun _ _ _ _ _ c2 => (dg_tupH c2 (dg_cons (dg_name 4 sc.nd) (dg_cons (dg_name 5 sc.nd) dg_nil)))) (fun _ _ _ _ _ => (dts_one (dt_val (de_var 5)))) (fun _ _ _ _ _ => (de_var 4)) (sw_true rfl rfl rfl (by decide +kernel))) (ds_one (ds_ret (de_if (DW.dt (dw_and (dt_eq (huH hr) (de_len (by rfl) (He.free_ok X0 G (c.fact 78 (f := .free "len") (by rfl))) (de_var 3)) de_int) (dw_and1 (dt_not (dt_val (de_var 1)))))) (de_ix (de_var 3) de_int) de_str)))))))))))
theorem ok_l_class_6 (c : SaysX fa fn xsL ysL K) (X0 : K.In h) (G : h.Ns mainGlobals mg) : DefHot P w K mg base 1 (He.ga K "_law_class") ["_law_caught"] Sh.l_class_6 := by
  obtain ⟨fd, F⟩ := c.def_ 19 (d := d_l_class_6) rfl
  exact ⟨⟨fd, okb_l_class_6 c X0 G F, F.bindsN fun _ _ _ _ _ _ us hl => match us, hl with | [_], _ => rfl⟩, F.kp⟩
theorem sc_l_read : FnScope ["_law_door", "_law_text", "_law_found", "_law_caught"] ["_law_door", "_law_text"] (defScope (top 60)) := ⟨rfl, rfl, rfl, by decide +kernel, rfl, by decide +kernel, by decide +kernel⟩
theorem okb_l_read (c : SaysX fa fn xsL ysL K) (X0 : K.In h) (G : h.Ns mainGlobals mg) {fd : FuncData} (F : FunD K d_l_read.name d_l_read.qual d_l_read.params d_l_read.body d_l_read.scope (d_l_read.dvs K) (d_l_read.kws K) (He.ga K "_law_read") fd) : FnOk P w K mg base CX0 7 (He.ga K "_law_read") fd ["_law_door", "_law_text"] (spN K 2 Sh.l_read) := by
  have H_l_class_6 := ok_l_class_6 (P := P) (w := w) (base := base) c X0 G
  have H_parse_hall_1 := ok_parse_hall_1 (P := P) (w := w) (base := base) c X0 G
  have H_parse_record_1 := ok_parse_record_1 (P := P) (w := w) (base := base) c X0 G
  have sc := sc_l_read
  refine fn_ok F sc (by decide) (fun cdv A outer s H E hr => ?_)
  exact (ds_cons (ds_set 2 sc.nd de_str) (ds_cons (ds_tryG (B := "HushError") 3 2 rfl rfl rfl sc.nd rfl rfl (by decide) rfl rfl ⟨rfl, by decide, .inl (He.glo_ok X0 G (c.fact 0 (f := .glo "HushError") (by rfl)))⟩ (fun C hC => c.xf.exm C hC) (H_l_class_6.up (by decide)) rfl hr (hu_ hr) (He.glo_ok X0 G (c.fact 61 (f := .glo "_law_class") (by rfl))) rfl (by first | exact Or.inl rfl | exact Or.inr (Or.inl rfl)) (by first | exact Or.inl rfl | exact Or.inr rfl) (by first | exact .inl rfl | exact .inr rfl) (fun a pn => de_str) (fun a pn => (de_add de_str (de_strN (by rfl) (He.free_ok X0 G (c.fact 85 (f := .free "str") (by rfl))) (de_xfl (f := "line") c.xf (de_var 3))))) (fun a pn => de_str) (fun W pn xe tk hp => (ds_one (ds_set 2 sc.nd (de_if (dt_eq (hu_ hr) (de_var 0) de_int) (de_callF [] ((H_parse_hall_1.up (by decide)).pure) hr (He.glo_ok X0 G (c.fact 53 (f := .glo "parse_hall") (by rfl))) (fun _ _ => .nil) (fun s_ => L2N.passAt tk s_) (da_cons (de_var 1) da_nil) (sCons_len sNil_len)) (de_callF [] ((H_parse_record_1.up (by decide)).pure) hr (He.glo_ok X0 G (c.fact 54 (f := .glo "parse_record") (by rfl))) (fun _ _ => .nil) (fun s_ => L2N.passAt tk s_) (da_cons (de_var 1) da_nil) (sCons_len sNil_len))))))) (ds_one (ds_ret (de_var 2)))))
theorem ok_l_read (c : SaysX fa fn xsL ysL K) (X0 : K.In h) (G : h.Ns mainGlobals mg) : Def P w K mg base CX0 7 (He.ga K "_law_read") ["_law_door", "_law_text"] [] Sh.l_read := by
  obtain ⟨fd, F⟩ := c.def_ 27 (d := d_l_read) rfl
  exact ⟨⟨fd, [], okb_l_read c X0 G F, F.bindsN fun _ _ _ _ _ _ us hl => match us, hl with | [_, _], _ => rfl, .nil⟩, F.kp⟩
theorem sc_l_changed_5 : FnScope ["_law_bag_here", "_law_text", "_law_words", "_law_signs", "_law_at", "_law_sign", "_law_mark", "_law_parts", "_law_one", "_law_some"] ["_law_bag_here", "_law_text"] (defScope (top 61)) := ⟨rfl, rfl, rfl, by decide +kernel, rfl, by decide +kernel, by decide +kernel⟩
theorem okb_l_changed_5 (c : SaysX fa fn xsL ysL K) (X0 : K.In h) (G : h.Ns mainGlobals mg) {fd : FuncData} (F : FunD K d_l_changed_5.name d_l_changed_5.qual d_l_changed_5.params d_l_changed_5.body d_l_changed_5.scope (d_l_changed_5.dvs K) (d_l_changed_5.kws K) (He.ga K "_law_changed") fd) : FnOk P w K mg base CX0 3 (He.ga K "_law_changed") fd ["_law_bag_here", "_law_text"] (spN K 2 Sh.l_changed_5) := by
  have H_l_draw_3 := ok_l_draw_3 (P := P) (w := w) (base := base) c X0 G
  have sc := sc_l_changed_5
  refine fn_ok F sc (by decide) (fun cdv A outer s H E hr => ?_)
  exact (ds_cons (ds_set 2 sc.nd (de_lst (da_cons de_str (da_cons de_str (da_cons de_str (da_cons de_str (da_cons de_str (da_cons de_str (da_cons de_str (da_cons de_str (da_cons de_str (da_cons de_str (da_cons de_str (da_cons de_str (da_cons de_str (da_cons de_str (da_cons de_str (da_cons de_str da_nil)))))))))))))))))) (ds_cons (ds_set 2 sc.nd (de_add (de_var 2) (de_lst (da_cons de_str (da_cons de_str (da_cons de_str (da_cons de_str (da_cons de_str da_nil)))))))) (ds_cons (ds_set 3 sc.nd de_str) (ds_cons (ds_par (i := 4) (j := 5) rfl sc.nd (da_cons (de_callF [] (H_l_draw_3.up (by decide)) hr (He.glo_ok X0 G (c.fact 57 (f := .glo "_law_draw") (by rfl))) (fun _ _ => .nil) (fun _ => passAt0) (da_cons (de_var 0) (da_cons (de_add (de_len (by rfl) (He.free_ok X0 G (c.fact 78 (f := .free "len") (by rfl))) (de_var 1)) de_int) da_nil)) (sCons_len (sCons_len sNil_len))) (da_cons (de_ix (de_var 3) (de_callF [] (H_l_draw_3.up (by decide)) hr (He.glo_ok X0 G (c.fact 57 (f := .glo "_law_draw") (by rfl))) (fun _ _ => .nil) (fun _ => passAt0) (da_cons (de_var 0) (da_cons de_int da_nil)) (sCons_len (sCons_len sNil_len)))) da_nil))) (ds_cons (ds_set 6 sc.nd (de_ix (de_lst (da_cons de_str (da_cons de_str da_nil))) (de_callF [] (H_l_draw_3.up (by decide)) hr (He.glo_ok X0 G (c.fact 57 (f := .glo "_law_draw") (by rfl))) (fun _ _ => .nil) (fun _ => passAt0) (da_cons (de_var 0) (da_cons de_int da_nil)) (sCons_len (sCons_len sNil_len))))) (ds_cons (ds_set 7 sc.nd (de_split (de_var 1) (de_var 6))) (ds_cons (ds_set 8 sc.nd (de_callF [] (H_l_draw_3.up (by decide)) hr (He.glo_ok X0 G (c.fact 57 (f := .glo "_law_draw") (by rfl))) (fun _ _ => .nil) (fun _ => passAt0) (da_cons (de_var 0) (da_cons (de_len (by rfl) (He.free_ok X0 G (c.fact 78 (f := .free "len") (by rfl))) (de_var 7)) da_nil)) (sCons_len (sCons_len sNil_len)))) (ds_cons (ds_set 9 sc.nd (de_lst (da_cons (de_add (de_add (de_cutT (de_var 1) do_none (do_some (de_var 4))) (de_var 5)) (de_cutT (de_var 1) (do_some (de_var 4)) do_none)) (da_cons (de_add (de_cutT (de_var 1) do_none (do_some (de_var 4))) (de_cutT (de_var 1) (do_some (de_add (de_var 4) de_int)) do_none)) (da_cons (de_add (de_add (de_cutT (de_var 1) do_none (do_some (de_var 4))) (de_var 5)) (de_cutT (de_var 1) (do_some (de_add (de_var 4) de_int)) do_none)) da_nil))))) (ds_cons (ds_set 9 sc.nd (de_add (de_var 9) (de_lst (da_cons (de_join (de_var 6) (de_add (de_cut false (de_var 7) do_none (do_some (de_var 8))) (de_cut false (de_var 7) (do_some (de_add (de_var 8) de_int)) do_none))) (da_cons (de_join (de_var 6) (de_add (de_cut false (de_var 7) do_none (do_some (de_add (de_var 8) de_int))) (de_cut false (de_var 7) (do_some (de_var 8)) do_none))) da_nil))))) (ds_cons (ds_set 9 sc.nd (de_add (de_var 9) (de_lst (da_cons (de_join (de_var 6) (de_cutS false (de_var 7) do_none do_none (do_some (de_neg de_int)))) (da_cons (de_join (de_var 6) (de_add (de_add (de_cut false (de_var 7) do_none (do_some (de_var 8))) (de_lst (da_cons (de_ix (de_var 2) (de_callF [] (H_l_draw_3.up (by decide)) hr (He.glo_ok X0 G (c.fact 57 (f := .glo "_law_draw") (by rfl))) (fun _ _ => .nil) (fun _ => passAt0) (da_cons (de_var 0) (da_cons de_int da_nil)) (sCons_len (sCons_len sNil_len)))) da_nil))) (de_cut false (de_var 7) (do_some (de_add (de_var 8) de_int)) do_none))) da_nil))))) (ds_one (ds_ret (de_ix (de_var 9) (de_callF [] (H_l_draw_3.up (by decide)) hr (He.glo_ok X0 G (c.fact 57 (f := .glo "_law_draw") (by rfl))) (fun _ _ => .nil) (fun _ => passAt0) (da_cons (de_var 0) (da_cons de_int da_nil)) (sCons_len (sCons_len sNil_len))))))))))))))))
theorem ok_l_changed_5 (c : SaysX fa fn xsL ysL K) (X0 : K.In h) (G : h.Ns mainGlobals mg) : Def P w K mg base CX0 3 (He.ga K "_law_changed") ["_law_bag_here", "_law_text"] [] Sh.l_changed_5 := by
  obtain ⟨fd, F⟩ := c.def_ 28 (d := d_l_changed_5) rfl
  exact ⟨⟨fd, [], okb_l_changed_5 c X0 G F, F.bindsN fun _ _ _ _ _ _ us hl => match us, hl with | [_, _], _ => rfl, .nil⟩, F.kp⟩
theorem sc_l_is_hall : FnScope ["_law_found", "_law_one", "_law_name", "_law_rank", "_law_prefix", "_law_cycle", "_law_pair_here"] ["_law_found"] (defScope (top 57)) := ⟨rfl, rfl, rfl, by decide +kernel, rfl, by decide +kernel, by decide +kernel⟩
theorem okb_l_is_hall (c : SaysX fa fn xsL ysL K) (X0 : K.In h) (G : h.Ns mainGlobals mg) {fd : FuncData} (F : FunD K d_l_is_hall.name d_l_is_hall.qual d_l_is_hall.params d_l_is_hall.body d_l_is_hall.scope (d_l_is_hall.dvs K) (d_l_is_hall.kws K) (He.ga K "_law_is_hall") fd) : FnOk P w K mg base CX0 1 (He.ga K "_law_is_hall") fd ["_law_found"] (spN K 1 Sh.l_is_hall) := by
  have sc := sc_l_is_hall
  refine fn_ok F sc (by decide) (fun cdv A outer s H E hr => ?_)
  exact (ds_cons (ds_if (DW.dt (dw_or (dt_gt (de_len (by rfl) (He.free_ok X0 G (c.fact 78 (f := .free "len") (by rfl))) (de_var 0)) de_int) (dw_or1 (dt_lt (de_lenset rfl (by rfl) (He.free_ok X0 G (c.fact 78 (f := .free "len") (by rfl))) (by rfl) (He.free_ok X0 G (c.fact 84 (f := .free "set") (by rfl))) (de_lc false [("_law_one", 1)] rfl sc.nd (di_any (de_var 0)) (blkOk_by (by kernel_rfl)) (fun _ _ _ _ _ => (dg_name 1 sc.nd)) (fun _ _ _ _ _ => dts_nil) (fun _ _ _ _ _ => (de_ix (de_var 1) de_int)))) (de_len (by rfl) (He.free_ok X0 G (c.fact 78 (f := .free "len") (by rfl))) (de_var 0)))))) (ds_one (ds_ret de_bl)) ds_nil) (ds_cons (ds_for (vs := [2, 3, 4, 5]) (passes_of rfl) rfl (di_any (de_var 0)) (dg_tup (n := 4) rfl (dg_cons (dg_name 2 sc.nd) (dg_cons (dg_name 3 sc.nd) (dg_cons (dg_name 4 sc.nd) (dg_cons (dg_name 5 sc.nd) dg_nil)))) rfl (pg_tup rfl (dg_cons (dg_name 2 sc.nd) (dg_cons (dg_name 3 sc.nd) (dg_cons (dg_name 4 sc.nd) (dg_cons (dg_name 5 sc.nd) dg_nil))))) (pg_lst rfl (dg_cons (dg_name 2 sc.nd) (dg_cons (dg_name 3 sc.nd) (dg_cons (dg_name 4 sc.nd) (dg_cons (dg_name 5 sc.nd) dg_nil)))))) (ds_cons (ds_if (DW.dt (dw_or (dt_not (dt_lele de_int (de_var 3) de_int)) (dw_or (dt_gt (de_len (by rfl) (He.free_ok X0 G (c.fact 78 (f := .free "len") (by rfl))) (de_var 4)) de_int) (dw_or1 (dt_gt (de_len (by rfl) (He.free_ok X0 G (c.fact 78 (f := .free "len") (by rfl))) (de_var 5)) de_int))))) (ds_one (ds_ret de_bl)) ds_nil) (ds_one (ds_if (dt_neN (hu_ hr) (de_lc false [("_law_pair_here", 6)] rfl sc.nd (di_any (de_add (de_var 4) (de_var 5))) (blkOk_by (by kernel_rfl)) (fun _ _ _ _ _ => (dg_name 6 sc.nd)) (fun _ _ _ _ _ => (dts_one (dt_not (dt_le3 de_int (de_minT (hu_ hr) rfl (by rfl) (He.free_ok X0 G (c.fact 81 (f := .free "min") (by rfl))) (de_var 6)) (de_maxT (hu_ hr) rfl (by rfl) (He.free_ok X0 G (c.fact 80 (f := .free "max") (by rfl))) (de_var 6)) (de_pow de_int de_int))))) (fun _ _ _ _ _ => (de_var 6))) (de_lst da_nil)) (ds_one (ds_ret de_bl)) ds_nil)))) (ds_one (ds_ret de_bl))))
theorem ok_l_is_hall (c : SaysX fa fn xsL ysL K) (X0 : K.In h) (G : h.Ns mainGlobals mg) : Def P w K mg base CX0 1 (He.ga K "_law_is_hall") ["_law_found"] [] Sh.l_is_hall := by
  obtain ⟨fd, F⟩ := c.def_ 24 (d := d_l_is_hall) rfl
  exact ⟨⟨fd, [], okb_l_is_hall c X0 G F, F.bindsN fun _ _ _ _ _ _ us hl => match us, hl with | [_], _ => rfl, .nil⟩, F.kp⟩
theorem sc_l_number_1 : FnScope ["_law_word", "_law_sign"] ["_law_word"] (defScope (top 53)) := ⟨rfl, rfl, rfl, by decide +kernel, rfl, by decide +kernel, by decide +kernel⟩
theorem okb_l_number_1 (c : SaysX fa fn xsL ysL K) (X0 : K.In h) (G : h.Ns mainGlobals mg) {fd : FuncData} (F : FunD K d_l_number_1.name d_l_number_1.qual d_l_number_1.params d_l_number_1.body d_l_number_1.scope (d_l_number_1.dvs K) (d_l_number_1.kws K) (He.ga K "_law_number") fd) : FnOk P w K mg base CX0 1 (He.ga K "_law_number") fd ["_law_word"] (spN K 1 Sh.l_number_1) := by
  have sc := sc_l_number_1
  refine fn_ok F sc (by decide) (fun cdv A outer s H E hr => ?_)
  exact (ds_cons (ds_if (DW.dt (dw_or (dt_eqT (hu_ hr) (de_var 0) de_str) (dw_or1 (dt_neN (hu_ hr) (de_lc false [("_law_sign", 1)] rfl sc.nd (di_any (de_var 0)) (blkOk_by (by kernel_rfl)) (fun _ _ _ _ _ => (dg_name 1 sc.nd)) (fun _ _ _ _ _ => (dts_one (dt_ninS (de_var 1) de_str))) (fun _ _ _ _ _ => (de_var 1))) (de_lst da_nil))))) (ds_one (ds_ret de_non)) ds_nil) (ds_one (ds_ret (de_if (DW.dt (dw_or (dt_eq (hu_ hr) (de_var 0) de_str) (dw_or1 (dt_ne (hu_ hr) (de_ix (de_var 0) de_int) de_str)))) (de_intT (by rfl) (He.free_ok X0 G (c.fact 76 (f := .free "int") (by rfl))) (de_var 0)) de_non))))
theorem ok_l_number_1 (c : SaysX fa fn xsL ysL K) (X0 : K.In h) (G : h.Ns mainGlobals mg) : Def P w K mg base CX0 1 (He.ga K "_law_number") ["_law_word"] [] Sh.l_number_1 := by
  obtain ⟨fd, F⟩ := c.def_ 20 (d := d_l_number_1) rfl
  exact ⟨⟨fd, [], okb_l_number_1 c X0 G F, F.bindsN fun _ _ _ _ _ _ us hl => match us, hl with | [_], _ => rfl, .nil⟩, F.kp⟩
theorem sc_l_is_name_1 : FnScope ["_law_word", "_law_sign"] ["_law_word"] (defScope (top 54)) := ⟨rfl, rfl, rfl, by decide +kernel, rfl, by decide +kernel, by decide +kernel⟩
theorem okb_l_is_name_1 (c : SaysX fa fn xsL ysL K) (X0 : K.In h) (G : h.Ns mainGlobals mg) {fd : FuncData} (F : FunD K d_l_is_name_1.name d_l_is_name_1.qual d_l_is_name_1.params d_l_is_name_1.body d_l_is_name_1.scope (d_l_is_name_1.dvs K) (d_l_is_name_1.kws K) (He.ga K "_law_is_name") fd) : FnOk P w K mg base CX0 1 (He.ga K "_law_is_name") fd ["_law_word"] (spN K 1 Sh.l_is_name_1) := by
  have sc := sc_l_is_name_1
  refine fn_ok F sc (by decide) (fun cdv A outer s H E hr => ?_)
  exact (ds_one (ds_ret (de_and (de_lele de_int (de_len (by rfl) (He.free_ok X0 G (c.fact 78 (f := .free "len") (by rfl))) (de_var 0)) de_int) (de_one (de_eqN (hu_ hr) (de_lc false [("_law_sign", 1)] rfl sc.nd (di_any (de_var 0)) (blkOk_by (by kernel_rfl)) (fun _ _ _ _ _ => (dg_name 1 sc.nd)) (fun _ _ _ _ _ => (dts_one (dt_ninS (de_var 1) de_str))) (fun _ _ _ _ _ => (de_var 1))) (de_lst da_nil))))))
theorem ok_l_is_name_1 (c : SaysX fa fn xsL ysL K) (X0 : K.In h) (G : h.Ns mainGlobals mg) : Def P w K mg base CX0 1 (He.ga K "_law_is_name") ["_law_word"] [] Sh.l_is_name_1 := by
  obtain ⟨fd, F⟩ := c.def_ 21 (d := d_l_is_name_1) rfl
  exact ⟨⟨fd, [], okb_l_is_name_1 c X0 G F, F.bindsN fun _ _ _ _ _ _ us hl => match us, hl with | [_], _ => rfl, .nil⟩, F.kp⟩
theorem sc_l_pair_1 : FnScope ["_law_word", "_law_parts", "_law_part"] ["_law_word"] (defScope (top 55)) := ⟨rfl, rfl, rfl, by decide +kernel, rfl, by decide +kernel, by decide +kernel⟩
theorem okb_l_pair_1 (c : SaysX fa fn xsL ysL K) (X0 : K.In h) (G : h.Ns mainGlobals mg) {fd : FuncData} (F : FunD K d_l_pair_1.name d_l_pair_1.qual d_l_pair_1.params d_l_pair_1.body d_l_pair_1.scope (d_l_pair_1.dvs K) (d_l_pair_1.kws K) (He.ga K "_law_pair") fd) : FnOk P w K mg base CX0 2 (He.ga K "_law_pair") fd ["_law_word"] (spN K 1 Sh.l_pair_1) := by
  have H_l_number_1 := ok_l_number_1 (P := P) (w := w) (base := base) c X0 G
  have sc := sc_l_pair_1
  refine fn_ok F sc (by decide) (fun cdv A outer s H E hr => ?_)
  exact (ds_cons (ds_setLc (X := _) 1 false [("_law_part", 2)] rfl sc.nd (di_any (de_split (de_var 0) de_str)) (blkOk_by (by kernel_rfl)) (fun _ _ _ _ _ => (dg_name 2 sc.nd)) (fun _ _ _ _ _ => dts_nil) (fun _ _ _ _ _ => (de_callF [] ((H_l_number_1.up (by decide)).pure) hr (He.glo_ok X0 G (c.fact 62 (f := .glo "_law_number") (by rfl))) (fun _ _ => .nil) (fun _ => passAt0) (da_cons (de_var 2) da_nil) (sCons_len sNil_len))) (sw_true rfl rfl rfl (by decide +kernel))) (ds_one (ds_ret (de_if (DW.dt (dw_and (dt_eq (hu_ hr) (de_len (by rfl) (He.free_ok X0 G (c.fact 78 (f := .free "len") (by rfl))) (de_var 1)) de_int) (dw_and1 (dt_ninL de_non (de_var 1))))) (de_tup (da_cons (de_ix (de_var 1) de_int) (da_cons (de_ix (de_var 1) de_int) da_nil))) de_non))))
theorem ok_l_pair_1 (c : SaysX fa fn xsL ysL K) (X0 : K.In h) (G : h.Ns mainGlobals mg) : Def P w K mg base CX0 2 (He.ga K "_law_pair") ["_law_word"] [] Sh.l_pair_1 := by
  obtain ⟨fd, F⟩ := c.def_ 22 (d := d_l_pair_1) rfl
  exact ⟨⟨fd, [], okb_l_pair_1 c X0 G F, F.bindsN fun _ _ _ _ _ _ us hl => match us, hl with | [_], _ => rfl, .nil⟩, F.kp⟩
theorem sc_l_line_2 : FnScope ["_law_line_here", "_law_words", "_law_bar", "_law_prefix", "_law_cycle", "_law_word"] ["_law_line_here"] (defScope (top 56)) := ⟨rfl, rfl, rfl, by decide +kernel, rfl, by decide +kernel, by decide +kernel⟩
theorem okb_l_line_2 (c : SaysX fa fn xsL ysL K) (X0 : K.In h) (G : h.Ns mainGlobals mg) {fd : FuncData} (F : FunD K d_l_line_2.name d_l_line_2.qual d_l_line_2.params d_l_line_2.body d_l_line_2.scope (d_l_line_2.dvs K) (d_l_line_2.kws K) (He.ga K "_law_line") fd) : FnOk P w K mg base CX0 3 (He.ga K "_law_line") fd ["_law_line_here"] (spN K 1 Sh.l_line_2) := by
  have H_l_number_1 := ok_l_number_1 (P := P) (w := w) (base := base) c X0 G
  have H_l_is_name_1 := ok_l_is_name_1 (P := P) (w := w) (base := base) c X0 G
  have H_l_pair_1 := ok_l_pair_1 (P := P) (w := w) (base := base) c X0 G
  have sc := sc_l_line_2
  refine fn_ok F sc (by decide) (fun cdv A outer s H E hr => ?_)
  exact (ds_cons (ds_set 1 sc.nd (de_split (de_var 0) de_str)) (ds_cons (ds_if (DW.dt (dw_or (dt_lt (de_len (by rfl) (He.free_ok X0 G (c.fact 78 (f := .free "len") (by rfl))) (de_var 1)) de_int) (dw_or (dt_not (dt_val (de_callF [] ((H_l_is_name_1.up (by decide)).pure) hr (He.glo_ok X0 G (c.fact 63 (f := .glo "_law_is_name") (by rfl))) (fun _ _ => .nil) (fun _ => passAt0) (da_cons (de_ix (de_var 1) de_int) da_nil) (sCons_len sNil_len)))) (dw_or (dt_is (de_callF [] ((H_l_number_1.up (by decide)).pure) hr (He.glo_ok X0 G (c.fact 62 (f := .glo "_law_number") (by rfl))) (fun _ _ => .nil) (fun _ => passAt0) (da_cons (de_ix (de_var 1) de_int) da_nil) (sCons_len sNil_len)) de_non) (dw_or1 (dt_ne (hu_ hr) (de_count (de_var 1) de_str) de_int)))))) (ds_one (ds_ret de_non)) ds_nil) (ds_cons (ds_set 2 sc.nd (de_index (de_var 1) de_str)) (ds_cons (ds_par (i := 3) (j := 4) rfl sc.nd (da_cons (de_lc false [("_law_word", 5)] rfl sc.nd (di_any (de_cut false (de_var 1) (do_some de_int) (do_some (de_var 2)))) (blkOk_by (by kernel_rfl)) (fun _ _ _ _ _ => (dg_name 5 sc.nd)) (fun _ _ _ _ _ => dts_nil) (fun _ _ _ _ _ => (de_callF [] ((H_l_pair_1.up (by decide)).pure) hr (He.glo_ok X0 G (c.fact 64 (f := .glo "_law_pair") (by rfl))) (fun _ _ => .nil) (fun _ => passAt0) (da_cons (de_var 5) da_nil) (sCons_len sNil_len)))) (da_cons (de_lc false [("_law_word", 5)] rfl sc.nd (di_any (de_cut false (de_var 1) (do_some (de_add (de_var 2) de_int)) do_none)) (blkOk_by (by kernel_rfl)) (fun _ _ _ _ _ => (dg_name 5 sc.nd)) (fun _ _ _ _ _ => dts_nil) (fun _ _ _ _ _ => (de_callF [] ((H_l_pair_1.up (by decide)).pure) hr (He.glo_ok X0 G (c.fact 64 (f := .glo "_law_pair") (by rfl))) (fun _ _ => .nil) (fun _ => passAt0) (da_cons (de_var 5) da_nil) (sCons_len sNil_len)))) da_nil))) (ds_cons (ds_if (DW.dt (dw_or (dt_lt (de_var 2) de_int) (dw_or (dt_inD (hu1_ hr) de_non (de_var 3)) (dw_or (dt_inD (hu1_ hr) de_non (de_var 4)) (dw_or1 (dt_eqN (hu_ hr) (de_var 4) (de_lst da_nil))))))) (ds_one (ds_ret de_non)) ds_nil) (ds_one (ds_ret (de_tup (da_cons (de_ix (de_var 1) de_int) (da_cons (de_callF [] ((H_l_number_1.up (by decide)).pure) hr (He.glo_ok X0 G (c.fact 62 (f := .glo "_law_number") (by rfl))) (fun _ _ => .nil) (fun _ => passAt0) (da_cons (de_ix (de_var 1) de_int) da_nil) (sCons_len sNil_len)) (da_cons (de_var 3) (da_cons (de_var 4) da_nil))))))))))))
theorem ok_l_line_2 (c : SaysX fa fn xsL ysL K) (X0 : K.In h) (G : h.Ns mainGlobals mg) : Def P w K mg base CX0 3 (He.ga K "_law_line") ["_law_line_here"] [] Sh.l_line_2 := by
  obtain ⟨fd, F⟩ := c.def_ 23 (d := d_l_line_2) rfl
  exact ⟨⟨fd, [], okb_l_line_2 c X0 G F, F.bindsN fun _ _ _ _ _ _ us hl => match us, hl with | [_], _ => rfl, .nil⟩, F.kp⟩
theorem sc_l_hall_of_1 : FnScope ["_law_text", "_law_found", "_law_line_here"] ["_law_text"] (defScope (top 58)) := ⟨rfl, rfl, rfl, by decide +kernel, rfl, by decide +kernel, by decide +kernel⟩
theorem okb_l_hall_of_1 (c : SaysX fa fn xsL ysL K) (X0 : K.In h) (G : h.Ns mainGlobals mg) {fd : FuncData} (F : FunD K d_l_hall_of_1.name d_l_hall_of_1.qual d_l_hall_of_1.params d_l_hall_of_1.body d_l_hall_of_1.scope (d_l_hall_of_1.dvs K) (d_l_hall_of_1.kws K) (He.ga K "_law_hall_of") fd) : FnOk P w K mg base CX0 4 (He.ga K "_law_hall_of") fd ["_law_text"] (spN K 1 Sh.l_hall_of_1) := by
  have H_l_line_2 := ok_l_line_2 (P := P) (w := w) (base := base) c X0 G
  have H_l_is_hall := ok_l_is_hall (P := P) (w := w) (base := base) c X0 G
  have sc := sc_l_hall_of_1
  refine fn_ok F sc (by decide) (fun cdv A outer s H E hr => ?_)
  exact (ds_cons (ds_set 1 sc.nd (de_if (dt_neT (hu_ hr) (de_var 0) de_str) (de_lc false [("_law_line_here", 2)] rfl sc.nd (di_any (de_split (de_var 0) de_str)) (blkOk_by (by kernel_rfl)) (fun _ _ _ _ _ => (dg_name 2 sc.nd)) (fun _ _ _ _ _ => dts_nil) (fun _ _ _ _ _ => (de_callF [] ((H_l_line_2.up (by decide)).pure) hr (He.glo_ok X0 G (c.fact 65 (f := .glo "_law_line") (by rfl))) (fun _ _ => .nil) (fun _ => passAt0) (da_cons (de_var 2) da_nil) (sCons_len sNil_len)))) (de_lst da_nil))) (ds_cons (ds_if (dt_inD (hu1_ hr) de_non (de_var 1)) (ds_one (ds_ret (de_add de_str (de_strI (by rfl) (He.free_ok X0 G (c.fact 85 (f := .free "str") (by rfl))) (de_indexD (hu1_ hr) (de_var 1) de_non))))) ds_nil) (ds_one (ds_ret (de_if (dt_val (de_callF [] ((H_l_is_hall.up (by decide)).pure) hr (He.glo_ok X0 G (c.fact 66 (f := .glo "_law_is_hall") (by rfl))) (fun _ _ => .nil) (fun _ => passAt0) (da_cons (de_var 1) da_nil) (sCons_len sNil_len))) (de_var 1) de_str)))))
theorem ok_l_hall_of_1 (c : SaysX fa fn xsL ysL K) (X0 : K.In h) (G : h.Ns mainGlobals mg) : Def P w K mg base CX0 4 (He.ga K "_law_hall_of") ["_law_text"] [] Sh.l_hall_of_1 := by
  obtain ⟨fd, F⟩ := c.def_ 25 (d := d_l_hall_of_1) rfl
  exact ⟨⟨fd, [], okb_l_hall_of_1 c X0 G F, F.bindsN fun _ _ _ _ _ _ us hl => match us, hl with | [_], _ => rfl, .nil⟩, F.kp⟩
theorem sc_l_record_of : FnScope ["_law_text", "_law_words", "_law_odd", "_law_at", "_law_word"] ["_law_text"] (defScope (top 59)) := ⟨rfl, rfl, rfl, by decide +kernel, rfl, by decide +kernel, by decide +kernel⟩
theorem okb_l_record_of (c : SaysX fa fn xsL ysL K) (X0 : K.In h) (G : h.Ns mainGlobals mg) {fd : FuncData} (F : FunD K d_l_record_of.name d_l_record_of.qual d_l_record_of.params d_l_record_of.body d_l_record_of.scope (d_l_record_of.dvs K) (d_l_record_of.kws K) (He.ga K "_law_record_of") fd) : FnOk P w K mg base CX0 2 (He.ga K "_law_record_of") fd ["_law_text"] (spN K 1 Sh.l_record_of) := by
  have H_l_is_name_1 := ok_l_is_name_1 (P := P) (w := w) (base := base) c X0 G
  have sc := sc_l_record_of
  refine fn_ok F sc (by decide) (fun cdv A outer s H E hr => ?_)
  exact (ds_cons (ds_set 1 sc.nd (de_if (dt_neT (hu_ hr) (de_var 0) de_str) (de_split (de_var 0) de_str) (de_lst da_nil))) (ds_cons (ds_setLc (X := _) 2 false [("_law_at", 3), ("_law_word", 4)] rfl sc.nd (di_enum (by rfl) (He.free_ok X0 G (c.fact 75 (f := .free "enumerate") (by rfl))) (de_var 1)) (blkOk_by (by kernel_rfl)) (fun _ _ _ _ _ => (dg_tup (n := 2) rfl (dg_cons (dg_name 3 sc.nd) (dg_cons (dg_name 4 sc.nd) dg_nil)) rfl (pg_tup rfl (dg_cons (dg_name 3 sc.nd) (dg_cons (dg_name 4 sc.nd) dg_nil))) (pg_lst rfl (dg_cons (dg_name 3 sc.nd) (dg_cons (dg_name 4 sc.nd) dg_nil))))) (fun _ _ _ _ _ => (dts_one (DW.dt (dw_and (dt_ne (hu_ hr) (de_var 4) de_str) (dw_and1 (dt_not (dt_val (de_callF [] ((H_l_is_name_1.up (by decide)).pure) hr (He.glo_ok X0 G (c.fact 63 (f := .glo "_law_is_name") (by rfl))) (fun _ _ => .nil) (fun _ => passAt0) (da_cons (de_var 4) da_nil) (sCons_len sNil_len))))))))) (fun _ _ _ _ _ => (de_var 3)) (sw_true rfl rfl rfl (by decide +kernel))) (ds_cons (ds_if (dt_neN (hu_ hr) (de_var 2) (de_lst da_nil)) (ds_one (ds_ret (de_add de_str (de_strI (by rfl) (He.free_ok X0 G (c.fact 85 (f := .free "str") (by rfl))) (de_ix (de_var 2) de_int))))) ds_nil) (ds_one (ds_ret (de_if (dt_le (de_len (by rfl) (He.free_ok X0 G (c.fact 78 (f := .free "len") (by rfl))) (de_var 1)) de_int) (de_lc false [("_law_word", 4)] rfl sc.nd (di_any (de_var 1)) (blkOk_by (by kernel_rfl)) (fun _ _ _ _ _ => (dg_name 4 sc.nd)) (fun _ _ _ _ _ => dts_nil) (fun _ _ _ _ _ => (de_if (dt_eq (hu_ hr) (de_var 4) de_str) de_non (de_var 4)))) de_str))))))
theorem ok_l_record_of (c : SaysX fa fn xsL ysL K) (X0 : K.In h) (G : h.Ns mainGlobals mg) : Def P w K mg base CX0 2 (He.ga K "_law_record_of") ["_law_text"] [] Sh.l_record_of := by
  obtain ⟨fd, F⟩ := c.def_ 26 (d := d_l_record_of) rfl
  exact ⟨⟨fd, [], okb_l_record_of c X0 G F, F.bindsN fun _ _ _ _ _ _ us hl => match us, hl with | [_], _ => rfl, .nil⟩, F.kp⟩
theorem sc_law_k56_1 : FnScope ["_law_script", "_law_bag_here", "_law_turn", "_law_lines", "_law_name", "_law_rank", "_law_prefix", "_law_cycle", "_law_talks_here", "_law_one", "_law_items", "_law_texts", "_law_step", "_law_text", "_law_change", "_law_due", "_law_value", "_law_long", "_law_some"] ["_law_script"] (defScope (top 62)) := ⟨rfl, rfl, rfl, by decide +kernel, rfl, by decide +kernel, by decide +kernel⟩
theorem okb_law_k56_1 (c : SaysX fa fn xsL ysL K) (X0 : K.In h) (G : h.Ns mainGlobals mg) {fd : FuncData} (F : FunD K d_law_k56_1.name d_law_k56_1.qual d_law_k56_1.params d_law_k56_1.body d_law_k56_1.scope (d_law_k56_1.dvs K) (d_law_k56_1.kws K) (He.ga K "law") fd) : FnOkG P w K mg base CX0 8 (He.ga K "law") fd ["_law_script"] (spN K 1 Sh.law_k56_1) := by
  have H_l_bag := ok_l_bag (P := P) (w := w) (base := base) c X0 G
  have H_l_hall_4 := ok_l_hall_4 (P := P) (w := w) (base := base) c X0 G
  have H_l_draw_3 := ok_l_draw_3 (P := P) (w := w) (base := base) c X0 G
  have H_l_changed_5 := ok_l_changed_5 (P := P) (w := w) (base := base) c X0 G
  have H_l_hall_of_1 := ok_l_hall_of_1 (P := P) (w := w) (base := base) c X0 G
  have H_l_record_of := ok_l_record_of (P := P) (w := w) (base := base) c X0 G
  have H_l_read := ok_l_read (P := P) (w := w) (base := base) c X0 G
  have sc := sc_law_k56_1
  refine fn_okG F sc (by decide) (fun cdv A outer s H E hr hgd => ?_)
  exact (ds_cons (ds_set 1 sc.nd (de_callF [] (H_l_bag.up (by decide)) hr (He.glo_ok X0 G (c.fact 55 (f := .glo "_law_bag") (by rfl))) (fun _ _ => .nil) (fun _ => passAt0) (da_cons (de_var 0) da_nil) (sCons_len sNil_len))) (ds_cons (ds_for (vs := [2]) (passes_of rfl) rfl (di_rng1 (by rfl) (He.free_ok X0 G (c.fact 82 (f := .free "range") (by rfl))) (de_add de_int (de_min2 rfl (by rfl) (He.free_ok X0 G (c.fact 81 (f := .free "min") (by rfl))) de_int (de_len (by rfl) (He.free_ok X0 G (c.fact 78 (f := .free "len") (by rfl))) (de_var 0))))) (dg_name 2 sc.nd) (ds_cons (ds_set 3 sc.nd (de_lstO da_nil)) (ds_cons (ds_for (vs := [4, 5, 6, 7]) (passes_of rfl) rfl (di_any (de_callF [] (H_l_hall_4.up (by decide)) hr (He.glo_ok X0 G (c.fact 60 (f := .glo "_law_hall") (by rfl))) (fun _ _ => .nil) (fun _ => passAt0) (da_cons (de_var 1) (da_cons de_int (da_cons (de_ix (de_lst (da_cons de_int (da_cons (de_pow de_int de_int) da_nil))) (de_callF [] (H_l_draw_3.up (by decide)) hr (He.glo_ok X0 G (c.fact 57 (f := .glo "_law_draw") (by rfl))) (fun _ _ => .nil) (fun _ => passAt0) (da_cons (de_var 1) (da_cons de_int da_nil)) (sCons_len (sCons_len sNil_len)))) da_nil))) (sCons_len (sCons_len (sCons_len sNil_len))))) (dg_tup (n := 4) rfl (dg_cons (dg_name 4 sc.nd) (dg_cons (dg_name 5 sc.nd) (dg_cons (dg_name 6 sc.nd) (dg_cons (dg_name 7 sc.nd) dg_nil)))) rfl (pg_tup rfl (dg_cons (dg_name 4 sc.nd) (dg_cons (dg_name 5 sc.nd) (dg_cons (dg_name 6 sc.nd) (dg_cons (dg_name 7 sc.nd) dg_nil))))) (pg_lst rfl (dg_cons (dg_name 4 sc.nd) (dg_cons (dg_name 5 sc.nd) (dg_cons (dg_name 6 sc.nd) (dg_cons (dg_name 7 sc.nd) dg_nil)))))) (ds_cons (ds_setLc (X := _) 8 false [("_law_one", 9)] rfl sc.nd (di_any (de_add (de_var 6) (de_var 7))) (blkOk_by (by kernel_rfl)) (fun _ _ _ _ _ => (dg_name 9 sc.nd)) (fun _ _ _ _ _ => dts_nil) (fun _ _ _ _ _ => (de_add (de_add (de_strI (by rfl) (He.free_ok X0 G (c.fact 85 (f := .free "str") (by rfl))) (de_ix (de_var 9) de_int)) de_str) (de_strI (by rfl) (He.free_ok X0 G (c.fact 85 (f := .free "str") (by rfl))) (de_ix (de_var 9) de_int)))) (sw_true rfl rfl rfl (by decide +kernel))) (ds_one (ds_expr (de_append (de_var 3) (de_join de_str (de_add (de_add (de_add (de_lst (da_cons (de_var 4) (da_cons (de_strI (by rfl) (He.free_ok X0 G (c.fact 85 (f := .free "str") (by rfl))) (de_var 5)) da_nil))) (de_cut false (de_var 8) do_none (do_some (de_len (by rfl) (He.free_ok X0 G (c.fact 78 (f := .free "len") (by rfl))) (de_var 6))))) (de_lst (da_cons de_str da_nil))) (de_cut false (de_var 8) (do_some (de_len (by rfl) (He.free_ok X0 G (c.fact 78 (f := .free "len") (by rfl))) (de_var 6))) do_none)))))))) (ds_cons (ds_set 10 sc.nd (de_lst (da_cons de_str (da_cons de_str (da_cons de_str (da_cons de_str (da_cons de_str da_nil))))))) (ds_cons (ds_set 11 sc.nd (de_lst (da_cons (de_join de_str (de_var 3)) (da_cons (de_join de_str (de_lc false [("_law_step", 12)] rfl sc.nd (di_rng1 (by rfl) (He.free_ok X0 G (c.fact 82 (f := .free "range") (by rfl))) (de_callF [] (H_l_draw_3.up (by decide)) hr (He.glo_ok X0 G (c.fact 57 (f := .glo "_law_draw") (by rfl))) (fun _ _ => .nil) (fun _ => passAt0) (da_cons (de_var 1) (da_cons de_int da_nil)) (sCons_len (sCons_len sNil_len)))) (blkOk_by (by kernel_rfl)) (fun _ _ _ _ _ => (dg_name 12 sc.nd)) (fun _ _ _ _ _ => dts_nil) (fun _ _ _ _ _ => (de_ix (de_var 10) (de_callF [] (H_l_draw_3.up (by decide)) hr (He.glo_ok X0 G (c.fact 57 (f := .glo "_law_draw") (by rfl))) (fun _ _ => .nil) (fun _ => passAt0) (da_cons (de_var 1) (da_cons de_int da_nil)) (sCons_len (sCons_len sNil_len))))))) da_nil)))) (ds_one (ds_for (vs := [12]) (passes_of rfl) rfl (di_rng1 (by rfl) (He.free_ok X0 G (c.fact 82 (f := .free "range") (by rfl))) de_int) (dg_name 12 sc.nd) (ds_cons (ds_set 13 sc.nd (de_ix (de_var 11) (de_callF [] (H_l_draw_3.up (by decide)) hr (He.glo_ok X0 G (c.fact 57 (f := .glo "_law_draw") (by rfl))) (fun _ _ => .nil) (fun _ => passAt0) (da_cons (de_var 1) (da_cons de_int da_nil)) (sCons_len (sCons_len sNil_len))))) (ds_cons (ds_for (vs := [14]) (passes_of rfl) rfl (di_rng1 (by rfl) (He.free_ok X0 G (c.fact 82 (f := .free "range") (by rfl))) (de_callF [] (H_l_draw_3.up (by decide)) hr (He.glo_ok X0 G (c.fact 57 (f := .glo "_law_draw") (by rfl))) (fun _ _ => .nil) (fun _ => passAt0) (da_cons (de_var 1) (da_cons de_int da_nil)) (sCons_len (sCons_len sNil_len)))) (dg_name 14 sc.nd) (ds_one (ds_set 13 sc.nd (de_callF [] (H_l_changed_5.up (by decide)) hr (He.glo_ok X0 G (c.fact 70 (f := .glo "_law_changed") (by rfl))) (fun _ _ => .nil) (fun _ => passAt0) (da_cons (de_var 1) (da_cons (de_var 13) da_nil)) (sCons_len (sCons_len sNil_len)))))) (ds_cons (ds_set 13 sc.nd (de_cutT (de_var 13) do_none (do_some de_int))) (ds_cons (ds_set 15 sc.nd (de_lst (da_cons (de_callF [] ((H_l_hall_of_1.up (by decide)).pure) hr (He.glo_ok X0 G (c.fact 67 (f := .glo "_law_hall_of") (by rfl))) (fun _ _ => .nil) (fun _ => passAt0) (da_cons (de_var 13) da_nil) (sCons_len sNil_len)) (da_cons (de_callF [] ((H_l_record_of.up (by decide)).pure) hr (He.glo_ok X0 G (c.fact 68 (f := .glo "_law_record_of") (by rfl))) (fun _ _ => .nil) (fun _ => passAt0) (da_cons (de_var 13) da_nil) (sCons_len sNil_len)) da_nil)))) (ds_one (ds_if (dt_neT (hu_ hr) (de_reprX c.sm (hu_ hr) hgd (by rfl) (He.free_ok X0 G (c.fact 83 (f := .free "repr") (by rfl))) (de_lst (da_cons (de_callF [] ((H_l_read.up (by decide)).pure) hr (He.glo_ok X0 G (c.fact 69 (f := .glo "_law_read") (by rfl))) (fun _ _ => .nil) (fun _ => passAt0) (da_cons de_int (da_cons (de_var 13) da_nil)) (sCons_len (sCons_len sNil_len))) (da_cons (de_callF [] ((H_l_read.up (by decide)).pure) hr (He.glo_ok X0 G (c.fact 69 (f := .glo "_law_read") (by rfl))) (fun _ _ => .nil) (fun _ => passAt0) (da_cons de_int (da_cons (de_var 13) da_nil)) (sCons_len (sCons_len sNil_len))) da_nil)))) (de_reprX c.sm (hu_ hr) hgd (by rfl) (He.free_ok X0 G (c.fact 83 (f := .free "repr") (by rfl))) (de_var 15))) (ds_one (ds_ret de_bl)) ds_nil))))))))))))) (ds_cons (ds_for (vs := [16]) (passes_of rfl) rfl (di_any (de_lst (da_cons de_non (da_cons de_int (da_cons (de_lst (da_cons de_str da_nil)) (da_cons de_bl (da_cons de_dct0 (da_cons (de_tup (da_cons de_str (da_cons de_int da_nil))) da_nil)))))))) (dg_name 16 sc.nd) (ds_one (ds_if (dt_ne (hu_ hr) (de_lst (da_cons (de_callF [] ((H_l_read.up (by decide)).pure) hr (He.glo_ok X0 G (c.fact 69 (f := .glo "_law_read") (by rfl))) (fun _ _ => .nil) (fun _ => passAt0) (da_cons de_int (da_cons (de_var 16) da_nil)) (sCons_len (sCons_len sNil_len))) (da_cons (de_callF [] ((H_l_read.up (by decide)).pure) hr (He.glo_ok X0 G (c.fact 69 (f := .glo "_law_read") (by rfl))) (fun _ _ => .nil) (fun _ => passAt0) (da_cons de_int (da_cons (de_var 16) da_nil)) (sCons_len (sCons_len sNil_len))) da_nil))) (de_mul (de_lst (da_cons de_str da_nil)) de_int)) (ds_one (ds_ret de_bl)) ds_nil))) (ds_cons (ds_set 17 sc.nd (de_join de_str (de_mul (de_lst (da_cons de_str da_nil)) de_int))) (ds_cons (ds_set 18 sc.nd (de_lst (da_cons (de_callF [] ((H_l_read.up (by decide)).pure) hr (He.glo_ok X0 G (c.fact 69 (f := .glo "_law_read") (by rfl))) (fun _ _ => .nil) (fun _ => passAt0) (da_cons de_int (da_cons (de_var 17) da_nil)) (sCons_len (sCons_len sNil_len))) (da_cons (de_callF [] ((H_l_read.up (by decide)).pure) hr (He.glo_ok X0 G (c.fact 69 (f := .glo "_law_read") (by rfl))) (fun _ _ => .nil) (fun _ => passAt0) (da_cons de_int (da_cons (de_add (de_var 17) de_str) da_nil)) (sCons_len (sCons_len sNil_len))) (da_cons (de_callF [] ((H_l_read.up (by decide)).pure) hr (He.glo_ok X0 G (c.fact 69 (f := .glo "_law_read") (by rfl))) (fun _ _ => .nil) (fun _ => passAt0) (da_cons de_int (da_cons (de_cutT (de_var 17) (do_some de_int) do_none) da_nil)) (sCons_len (sCons_len sNil_len))) (da_cons (de_callF [] ((H_l_read.up (by decide)).pure) hr (He.glo_ok X0 G (c.fact 69 (f := .glo "_law_read") (by rfl))) (fun _ _ => .nil) (fun _ => passAt0) (da_cons de_int (da_cons de_str da_nil)) (sCons_len (sCons_len sNil_len))) da_nil)))))) (ds_one (ds_ret (de_eq (hu_ hr) (de_var 18) (de_lst (da_cons de_str (da_cons de_str (da_cons (de_mul (de_lst (da_cons de_str da_nil)) de_int) (da_cons de_str da_nil)))))))))))))
end
def nm0 : List Str := ["HushError", "TooMany", "Inconsistent", "InvalidText", "InvalidHall", "InvalidTalker", "UnknownTalker", "InvalidNumber", "InvalidTick", "InvalidRank", "InvalidRanks", "InvalidPosition", "InvalidMembers", "InvalidRecord", "NothingToUndo", "InvalidCommand", "LETTERS", "MAX_NAME", "MAX_TIME", "MAX_RANK", "MAX_TALKS", "MAX_TALKERS", "is_integer", "is_sequence", "is_name", "is_talk", "are_talks", "is_talker", "is_hall", "MAX_RECORD"]
def nm1 : List Str := ["NOBODY", "BAR", "COLON", "BLANK", "NEWLINE", "DIGITS", "is_number", "talk_in", "schedule_in", "talker_in", "parse_hall", "parse_record", "_law_bag", "_law_stir", "_law_draw", "_law_shuffled", "_law_talks", "_law_hall", "_law_class", "_law_number", "_law_is_name", "_law_pair", "_law_line", "_law_is_hall", "_law_hall_of", "_law_record_of", "_law_read", "_law_changed"]
def nm : List Str := nm0 ++ nm1
abbrev R : PySem.W.OpenRow := PySem.W.OpenLaw.row PySem.Challenge.rw_hushranks_k56_text_errors
abbrev hk : PySem.W.Hook := hookY 5 fa fn xsL ysL
def ob (s : PySem.W.SharedT) : He.AlD × Bool := obsYG 5 fa fn xsL ysL (HandSHeadRun.getT s)
theorem ob_eq (s : PySem.W.SharedT) : ob s = hk.obs s.abs := obsYG_eq (HandSHeadRun.getT_eq s)
set_option maxHeartbeats 0 in
theorem run (w : World) : HandSHeadRun.RunEq R (PySem.W.view R.prog [62]) hk ob 9000 nm w := by
  intro os
  kernel_rfl
theorem facts {P : Program} {w : World} {K : PySem.W.Frag} {h : Heap} {mg : Str → Option Value} {f : Addr} (X : K.In h) (G : h.Ns mainGlobals mg) (hfa : mg ("law" : Str) = some (.ref f)) (c : SaysX fa fn xsL ysL K) :
    ∃ fd : FuncData, (∀ (s : Shared) (v : Value), BindsTo s fd ⟨[v], []⟩ [("_law_script", v)]) ∧ ∀ base : Heap, K.In base → base.Ns mainGlobals mg → FnOkG P w K mg base CX0 8 f fd ["_law_script"] (spN K 1 Sh.law_k56_1) := by
  obtain ⟨fd, F⟩ := c.def_ 29 (d := d_law_k56_1) rfl
  have e := hfa.symm.trans (He.glo_ok X G (c.fact 71 (f := .glo "law") (by rfl)))
  cases e
  have b := FunD.bindsA (ps := ["_law_script"]) F (fun _ _ _ _ _ _ us hl => (match us, hl with | [_], _ => rfl))
  exact ⟨fd, (fun s v => b s [v] rfl), fun base KB GB => okb_law_k56_1 c KB GB F⟩
theorem holds_of (hg : ∀ ns : List Int, ns.length ≤ 63 → ∃ h', Sh.law_k56_1 [.scr (ns.map D.int)] [] = .ok (.bl true) h') : PySem.Challenge.rw_hushranks_k56_text_errors.Holds := by
  open PySem PySem.W PySem.Calls PyProof.Rows in
  w_on; o_law
  refine HandSHeadRun.head_any (r := R) (q := PySem.W.view R.prog [62]) (H := hk) (ob := ob) (M := 9000) (loose := nm) (d := HandSHeadRun.topDef R.prog 62) (kwd := []) ob_eq
    (by kernel_rfl) (fun s => by kernel_rfl) run (by kernel_rfl) (by kernel_rfl) (by kernel_rfl) (by rfl) (by first | assumption | decide +kernel) (by decide +kernel) ⟨rfl, rfl, rfl, rfl, rfl, by decide +kernel⟩ ?hw ?hc
  case hw => w_witness2
  case hc =>
    refine walk_ofG (l := PySem.Challenge.rw_hushranks_k56_text_errors) (n := 63) (k := 8) (x := "_law_script") (CX := CX0) rfl (by decide) (by kernel_rfl) ⟨rfl, by decide, by decide⟩ ?F (fun _ _ _ _ z => z)
    intro w mg fa h Y G hmg0
    obtain ⟨K, KX, c⟩ := Y
    have hmg : mg ("law" : PySem.Str) = some (.ref fa) := by
      have e : (HandSHeadRun.topDef R.prog 62).name = ("law" : PySem.Str) := by kernel_rfl
      rw [← e]
      exact hmg0
    obtain ⟨fd, hb, hF⟩ := facts (P := (PySem.Challenge.rw_hushranks_k56_text_errors).prog) (w := w) KX G hmg c
    exact ⟨K, fd, spN K 1 Sh.law_k56_1, KX, hb, (fun H a ns hl hO hS => law_sp hg H a ns hl hO hS), hF⟩
end Tk56
end HR
theorem PySem.Challenge.cw_hushranks_k56_text_errors_holds : PySem.Challenge.rw_hushranks_k56_text_errors.Holds := by
  exact HR.Tk56.holds_of HR.law56
