import PyProof.Rows.All
import HandS.ForMost
import HandS.Defaults
import HandS.IsInst
import HandS.Wide
import HandS.Zip
import HandS.Flow
import HandS.Exc
import HandS.CallSlots
import HandS.TryOnly
import HandS.ExcOwn
import HandS.WordsExc
import HandS.HeadHook1
import HandS.HeadHook2
import HandS.WideBits
import HandS.HeadEnd
import HandS.Head0
import HandS.Head1
import HandS.Head2
import PyProof.Rows.SetFrom
import PyProof.Rows.SetObj
import HandS.Text
import HandS.Iter
import PyProof.ReprRoads
import HandS.ExcIs
import HandS.ExcInit
import HandS.ExcField
import KE.KExcIs
import HandS.Codes
import HandS.ExcValue
import PyProof.LongRange
import HandS.RaiseMore
import HandS.More
import HandS.SetFor
import HandS.Strs
import KE.DataMinMax
import HandS.SortKw
import HandS.Dict
import HandS.Deep
import HandS.DictComp
import PyProof.InstEq
import HandS.Small
import KE.GoesMore
import HandS.HotCalls
import HandS.ExcCtx
import HandS.SortInts
import HandS.Conv
import KE.KDictZip
import PyProof.ListNew
import KE.KTurns
import HandS.TupSets
import HandS.NoneIn
import KE.KStateDown
import HandS.DictTup
import HandS.MakeKwOnly
import HandS.MakeKw
import HandS.Style
import KE.KEqNest
import KE.KDictOf
import KE.DatumOrd
import KE.KDictCopyH
import PyProof.FitsInt
import PyProof.StrLawsRepr
import KE.KIntText
import PySem.Challenge.RW_hushranks_k71_whole_cycles_far
set_option Elab.async false
set_option linter.all false
set_option maxRecDepth 100000
set_option maxHeartbeats 2000000
/-! LayA: plain values, the own heap, results, and how they stand for HandS's values and heap. -/
namespace HR
open PySem L2
/-- plain values; ref: an object of the own heap; scr: a list that is only read (the script); exc: a caught exception without fields; excf: with one field; fn: a def of the text; dcl: a dict that is walked over and not changed any more -/
inductive D where
  | non | bl (b : Bool) | int (i : Int) | str (x : Str)
  | lst (xs : List D) | tup (xs : List D) | dct (kvs : List (Key × D)) | obj (C : String) (fs : List (String × D)) | ref (i : Nat) | scr (xs : List D) | exc (C : String) | excf (C f : String) (d : D) | fn (x : String) | dcl (kvs : List (Key × D))
/-- objects of the own heap; nd: a dict that holds None as a key too (ψ: how the heap tells it) -/
inductive OO where
  | lst (xs : List D) | ins (C : String) (fs : List (String × D)) | dct (kvs : List (Key × D)) | dead | nd (ψ : Addr → List (Key × V) → V → HO) (ks : List (Key × D)) (d : D)
abbrev OH := List OO
abbrev Env' := List (Option D)
abbrev Pay := Option (String × D)
inductive Res (α : Type) where
  | ok (a : α) (h : OH) | exc (C : String) (p : Pay) (h : OH) | bad
def Res.bind {α β : Type} (r : Res α) (f : α → OH → Res β) : Res β := match r with
  | .ok a h => f a h
  | .exc C p h => .exc C p h
  | .bad => .bad
@[simp] theorem Res.bind_ok {α β : Type} (a : α) (h : OH) (f : α → OH → Res β) : (Res.ok a h).bind f = f a h := rfl
@[simp] theorem Res.bind_exc {α β : Type} (C : String) (p : Pay) (h : OH) (f : α → OH → Res β) : (Res.exc C p h : Res α).bind f = .exc C p h := rfl
@[simp] theorem Res.bind_bad {α β : Type} (f : α → OH → Res β) : (Res.bad : Res α).bind f = .bad := rfl
inductive SRes where
  | nx (σ : Env') (h : OH) | rt (d : D) (h : OH) | bk (σ : Env') (h : OH) | ct (σ : Env') (h : OH) | exc (C : String) (p : Pay) (σ : Env') (h : OH) | bad
abbrev SE := Env' → OH → Res D
abbrev ST := Env' → OH → Res Bool
abbrev SA := Env' → OH → Res (List D)
abbrev SS := Env' → OH → SRes
abbrev FN := List D → OH → Res D
/-- what the class of an object must be, for its fields -/
def ObT (K : PySem.W.Frag) (C : String) (fs : List (String × D)) : Prop :=
  Cls K (He.ga K (Str.ofString C)) ∧ ∀ q ∈ fs, NoAttr K (He.ga K (Str.ofString C)) (Str.ofString q.1)
/-- a caught exception of the class cls, kept at a -/
def HexO (cls : Value) (a : Addr) : HO := .ext fun hp => ∃ (ob : Obj) (ws : Array Value), hp.get? a = some ob ∧ Zc cls none ob ∧ ob.data = .fields ws
/-- an exception of the class cls with a dict at dx, kept at a -/
def HexP (cls : Value) (dx : Addr) (a : Addr) : HO := .ext fun hp => ∃ (ob : Obj) (ws : Array Value), hp.get? a = some ob ∧ Zc cls (some dx) ob ∧ ob.data = .fields ws
theorem Same.sqT {K : PySem.W.Frag} {H H' : Hp} {a : Addr} {xs : List V} (e : Same H H') (h : SqT K H a xs) : SqT K H' a xs := by
  rcases h with (h | ⟨o, h⟩) | h
  · exact .inl (.inl (e _ _ h))
  · exact .inl (.inr ⟨o, e _ _ h⟩)
  · exact .inr h
mutual
/-- v stands for d: F the frozen part of the heap, m the addresses of the own objects -/
inductive Den (K : PySem.W.Frag) (F : Hp) (m : List Addr) : V → D → Prop
  | non : Den K F m .non .non
  | bl (b : Bool) : Den K F m (.bl b) (.bl b)
  | int (i : Int) : Den K F m (.int i) (.int i)
  | str (x : Str) : Den K F m (.str x) (.str x)
  | lst {a : Addr} {vs : List V} {ds : List D} (q : F a = some (.lst vs)) (r : DenL K F m vs ds) : Den K F m (.ref a) (.lst ds)
  | scr {a : Addr} {vs : List V} {ds : List D} (q : SqL K F a vs) (r : DenL K F m vs ds) : Den K F m (.ref a) (.scr ds)
  | tup {a : Addr} {vs : List V} {ds : List D} (q : SqT K F a vs) (r : DenL K F m vs ds) : Den K F m (.ref a) (.tup ds)
  | dct {a : Addr} {kvs : List (Key × V)} {ks : List (Key × D)} (q : F a = some (.dK kvs)) (r : DenK K F m kvs ks) : Den K F m (.ref a) (.dct ks)
  | obj {a dx : Addr} {C : String} {fv : List (Str × V)} {fs : List (String × D)} (q : F a = some (.ins (He.ga K (Str.ofString C)) dx fv)) (t : ObT K C fs) (r : DenF K F m fv fs) : Den K F m (.ref a) (.obj C fs)
  | ref {a : Addr} {i : Nat} (q : m[i]? = some a) : Den K F m (.ref a) (.ref i)
  | exc {a : Addr} {C : String} (q : Rd F a (HexO (.ref (He.ga K (Str.ofString C))) a)) : Den K F m (.ref a) (.exc C)
  | excf {a dx : Addr} {C f : String} {v : V} {d : D} (q : Rd F a (HexP (.ref (He.ga K (Str.ofString C))) dx a)) (q2 : F dx = some (.xd [(Str.ofString f, v)])) (r : Den K F m v d) : Den K F m (.ref a) (.excf C f d)
  | fn (x : String) : Den K F m (.ref (He.ga K (Str.ofString x))) (.fn x)
  | dcl {a : Addr} {o : Obj} {kvs : List (Key × V)} {ks : List (Key × D)} (q : F a = some (.frz o (.dK kvs))) (r : DenK K F m kvs ks) : Den K F m (.ref a) (.dcl ks)
inductive DenL (K : PySem.W.Frag) (F : Hp) (m : List Addr) : List V → List D → Prop
  | nil : DenL K F m [] []
  | cons {v : V} {d : D} {vs : List V} {ds : List D} (h : Den K F m v d) (t : DenL K F m vs ds) : DenL K F m (v :: vs) (d :: ds)
inductive DenK (K : PySem.W.Frag) (F : Hp) (m : List Addr) : List (Key × V) → List (Key × D) → Prop
  | nil : DenK K F m [] []
  | cons {k : Key} {v : V} {d : D} {vs : List (Key × V)} {ds : List (Key × D)} (h : Den K F m v d) (t : DenK K F m vs ds) : DenK K F m ((k, v) :: vs) ((k, d) :: ds)
inductive DenF (K : PySem.W.Frag) (F : Hp) (m : List Addr) : List (Str × V) → List (String × D) → Prop
  | nil : DenF K F m [] []
  | cons {f : String} {v : V} {d : D} {vs : List (Str × V)} {ds : List (String × D)} (h : Den K F m v d) (t : DenF K F m vs ds) : DenF K F m ((Str.ofString f, v) :: vs) ((f, d) :: ds)
end
section
variable {K : PySem.W.Frag} {F F' : Hp} {m m' : List Addr}
theorem pre_get {i : Nat} {a : Addr} (p : m <+: m') (e : m[i]? = some a) : m'[i]? = some a := by
  obtain ⟨t, rfl⟩ := p
  rw [List.getElem?_append_left (List.getElem?_eq_some_iff.mp e).1]
  exact e
/-- the frozen part grows, the own objects' list grows -/
structure Ext (F : Hp) (m : List Addr) (F' : Hp) (m' : List Addr) : Prop where
  s : Same F F'
  p : m <+: m'
theorem Ext.refl : Ext F m F m := ⟨Same.refl _, List.prefix_rfl⟩
theorem Ext.trans {F2 : Hp} {m2 : List Addr} (a : Ext F m F' m') (b : Ext F' m' F2 m2) : Ext F m F2 m2 := ⟨a.s.trans b.s, a.p.trans b.p⟩
theorem rd_same {G G' : Hp} {a : Addr} {u : HO} (x : Same G G') (q : Rd G a u) : Rd G' a u := q.imp (x _ _) fun ⟨o, z⟩ => ⟨o, x _ _ z⟩
theorem Den.mono {v : V} {d : D} (x : Ext F m F' m') (h : Den K F m v d) : Den K F' m' v d :=
  Den.rec (motive_1 := fun v d _ => Den K F' m' v d) (motive_2 := fun v d _ => DenL K F' m' v d) (motive_3 := fun v d _ => DenK K F' m' v d) (motive_4 := fun v d _ => DenF K F' m' v d)
    .non .bl .int .str (fun q _ r => .lst (x.s _ _ q) r) (fun q _ r => .scr (x.s.seq q) r) (fun q _ r => .tup (Same.sqT x.s q) r) (fun q _ r => .dct (x.s _ _ q) r) (fun q t _ r => .obj (x.s _ _ q) t r) (fun q => .ref (pre_get x.p q)) (fun q => .exc (rd_same x.s q)) (fun q q2 _ r => .excf (rd_same x.s q) (x.s _ _ q2) r) .fn (fun q _ r => .dcl (x.s _ _ q) r)
    .nil (fun _ _ a b => .cons a b) .nil (fun _ _ a b => .cons a b) .nil (fun _ _ a b => .cons a b) h
theorem DenL.mono (x : Ext F m F' m') : ∀ {vs : List V} {ds : List D}, DenL K F m vs ds → DenL K F' m' vs ds
  | _, _, .nil => .nil
  | _, _, .cons h t => .cons (h.mono x) (DenL.mono x t)
theorem DenK.mono (x : Ext F m F' m') : ∀ {vs : List (Key × V)} {ds : List (Key × D)}, DenK K F m vs ds → DenK K F' m' vs ds
  | _, _, .nil => .nil
  | _, _, .cons h t => .cons (h.mono x) (DenK.mono x t)
theorem DenF.mono (x : Ext F m F' m') : ∀ {vs : List (Str × V)} {ds : List (String × D)}, DenF K F m vs ds → DenF K F' m' vs ds
  | _, _, .nil => .nil
  | _, _, .cons h t => .cons (h.mono x) (DenF.mono x t)
theorem DenL.length : ∀ {vs : List V} {ds : List D}, DenL K F m vs ds → vs.length = ds.length
  | _, _, .nil => rfl
  | _, _, .cons _ t => by rw [List.length_cons, List.length_cons, DenL.length t]
theorem DenL.get : ∀ {vs : List V} {ds : List D} {i : Nat} {d : D}, DenL K F m vs ds → ds[i]? = some d → ∃ v, vs[i]? = some v ∧ Den K F m v d
  | _, _, _, _, .nil, e => by simp at e
  | _, _, 0, _, .cons h _, e => by
    simp at e
    subst e
    exact ⟨_, by simp, h⟩
  | _, _, i + 1, d, .cons _ t, e => by
    obtain ⟨v, e1, r⟩ := DenL.get (i := i) (d := d) t (by simpa using e)
    exact ⟨v, by simpa using e1, r⟩
theorem DenL.getV : ∀ {vs : List V} {ds : List D} {i : Nat} {v : V}, DenL K F m vs ds → vs[i]? = some v → ∃ d, ds[i]? = some d ∧ Den K F m v d
  | _, _, _, _, .nil, e => by simp at e
  | _, _, 0, _, .cons h _, e => by
    simp at e
    subst e
    exact ⟨_, by simp, h⟩
  | _, _, i + 1, v, .cons _ t, e => by
    obtain ⟨d, e1, r⟩ := DenL.getV (i := i) (v := v) t (by simpa using e)
    exact ⟨d, by simpa using e1, r⟩
theorem DenL.append : ∀ {vs ws : List V} {ds es : List D}, DenL K F m vs ds → DenL K F m ws es → DenL K F m (vs ++ ws) (ds ++ es)
  | _, _, _, _, .nil, s => s
  | _, _, _, _, .cons h t, s => .cons h (DenL.append t s)
theorem DenL.take : ∀ {vs : List V} {ds : List D} (n : Nat), DenL K F m vs ds → DenL K F m (vs.take n) (ds.take n)
  | _, _, 0, _ => .nil
  | _, _, _ + 1, .nil => .nil
  | _, _, n + 1, .cons h t => .cons h (DenL.take n t)
theorem DenL.drop : ∀ {vs : List V} {ds : List D} (n : Nat), DenL K F m vs ds → DenL K F m (vs.drop n) (ds.drop n)
  | _, _, 0, r => r
  | _, _, _ + 1, .nil => .nil
  | _, _, n + 1, .cons _ t => DenL.drop n t
theorem DenL.set {v : V} {d : D} (r : Den K F m v d) : ∀ {vs : List V} {ds : List D} (i : Nat), DenL K F m vs ds → DenL K F m (vs.set i v) (ds.set i d)
  | _, _, _, .nil => .nil
  | _, _, 0, .cons _ t => .cons r t
  | _, _, i + 1, .cons h t => .cons h (DenL.set r i t)
theorem DenL.rep {vs : List V} {ds : List D} (h : DenL K F m vs ds) : ∀ k : Nat, DenL K F m (List.replicate k vs).flatten (List.replicate k ds).flatten
  | 0 => .nil
  | k + 1 => by
    rw [List.replicate_succ, List.replicate_succ, List.flatten_cons, List.flatten_cons]
    exact h.append (h.rep k)
theorem DenL.ints : ∀ (ns : List Int), DenL K F m (ns.map V.int) (ns.map D.int)
  | [] => .nil
  | n :: ns => .cons (.int n) (DenL.ints ns)
/-- what stands at an own object's address -/
def OOk (K : PySem.W.Frag) (F : Hp) (m : List Addr) (H : Hp) (a : Addr) : OO → Prop
  | .lst xs => ∃ vs, H a = some (.lst vs) ∧ DenL K F m vs xs ∧ F a = none
  | .ins C fs => ∃ dx fv, H a = some (.ins (He.ga K (Str.ofString C)) dx fv) ∧ ObT K C fs ∧ DenF K F m fv fs ∧ F a = none
  | .dct kvs => ∃ ks, H a = some (.dK ks) ∧ DenK K F m ks kvs ∧ F a = none
  | .dead => True
  | .nd ψ ks d => ∃ kvs v, H a = some (ψ a kvs v) ∧ DenK K F m kvs ks ∧ Den K F m v d ∧ F a = none
abbrev Pins := List (Addr × HO)
/-- the own heap h stands in H; P: hidden objects, which stay -/
structure Sim (K : PySem.W.Frag) (P : Pins) (F : Hp) (m : List Addr) (h : OH) (H : Hp) : Prop where
  sub : Same F H
  len : m.length = h.length
  nd : m.Nodup
  live : ∀ a ∈ m, ∃ o, H a = some o
  at_ : ∀ (i : Nat) (a : Addr) (o : OO), m[i]? = some a → h[i]? = some o → OOk K F m H a o
  pin : ∀ p ∈ P, H p.1 = some p.2 ∧ F p.1 = none ∧ p.1 ∉ m
  pnd : (P.map (·.1)).Nodup
theorem OOk.mono {H H' : Hp} {a : Addr} {o : OO} (x : Ext F m F' m') (e : H' a = H a) (f : F a = none → F' a = none) (h : OOk K F m H a o) : OOk K F' m' H' a o := by
  cases o with
  | lst xs =>
    obtain ⟨vs, h1, h2, h3⟩ := h
    exact ⟨vs, e.trans h1, h2.mono x, f h3⟩
  | ins C fs =>
    obtain ⟨dx, fv, h1, h2, h3, h4⟩ := h
    exact ⟨dx, fv, e.trans h1, h2, h3.mono x, f h4⟩
  | dct kvs =>
    obtain ⟨ks, h1, h2, h3⟩ := h
    exact ⟨ks, e.trans h1, h2.mono x, f h3⟩
  | dead => trivial
  | nd ψ ks d =>
    obtain ⟨kvs, v, h1, h2, h3, h4⟩ := h
    exact ⟨kvs, v, e.trans h1, h2.mono x, h3.mono x, f h4⟩
end
section
variable {K : PySem.W.Frag} {P : Pins} {F : Hp} {m : List Addr} {h : OH} {H : Hp}
theorem nodup_at {i j : Nat} {a : Addr} (hn : m.Nodup) (e1 : m[i]? = some a) (e2 : m[j]? = some a) : i = j := by
  obtain ⟨h1, q1⟩ := List.getElem?_eq_some_iff.mp e1
  obtain ⟨h2, q2⟩ := List.getElem?_eq_some_iff.mp e2
  exact (List.getElem_inj hn).mp (q1.trans q2.symm)
theorem Sim.notMem (S : Sim K P F m h H) {p : Addr} (hp : H p = none) : p ∉ m := fun z => by
  obtain ⟨o, e⟩ := S.live p z
  rw [hp] at e
  cases e
theorem Sim.free (S : Sim K P F m h H) {p : Addr} (hp : H p = none) : F p = none := S.sub.free hp
theorem Sim.notPin (S : Sim K P F m h H) {p : Addr} (hp : H p = none) : ∀ q ∈ P, q.1 ≠ p := fun q hq z => by
  have e := (S.pin q hq).1
  rw [z, hp] at e
  cases e
theorem same_new {p : Addr} {o : HO} (hp : H p = none) : Same H (upd H p o) := fun b u e => by
  rw [upd_ne (ne_of_none e hp)]
  exact e
/-- what is laid and stays out of sight -/
theorem Sim.other (S : Sim K P F m h H) {p : Addr} {o : HO} (hp : H p = none) : Sim K P F m h (upd H p o) where
  sub := S.sub.trans (same_new hp)
  len := S.len
  nd := S.nd
  live := fun a ha => let ⟨u, e⟩ := S.live a ha; ⟨u, same_new hp _ _ e⟩
  at_ := fun i a u e1 e2 => (S.at_ i a u e1 e2).mono .refl (upd_ne fun z => S.notMem hp (z ▸ List.mem_of_getElem? e1)) id
  pin := fun q hq => ⟨same_new hp _ _ (S.pin q hq).1, (S.pin q hq).2⟩
  pnd := S.pnd
/-- a new frozen object -/
theorem Sim.frozen (S : Sim K P F m h H) {p : Addr} {o : HO} (hp : H p = none) : Sim K P (upd F p o) m h (upd H p o) := by
  have x : Ext F m (upd F p o) m := ⟨same_new (S.free hp), List.prefix_rfl⟩
  refine ⟨fun b u e => ?_, S.len, S.nd, (S.other hp).live, fun i a u e1 e2 => ?_, fun q hq => ?_, S.pnd⟩
  · by_cases hb : b = p
    · subst hb
      rw [upd_same] at e ⊢
      exact e
    · rw [upd_ne hb] at e ⊢
      exact S.sub b u e
  · have ne : a ≠ p := fun z => S.notMem hp (z ▸ List.mem_of_getElem? e1)
    exact (S.at_ i a u e1 e2).mono x (upd_ne ne) fun z => (upd_ne ne).trans z
  · have ne : q.1 ≠ p := S.notPin hp q hq
    exact ⟨same_new hp _ _ (S.pin q hq).1, (upd_ne ne).trans (S.pin q hq).2.1, (S.pin q hq).2.2⟩
theorem Sim.extF (S : Sim K P F m h H) {p : Addr} {o : HO} (hp : H p = none) : Ext F m (upd F p o) m := ⟨same_new (S.free hp), List.prefix_rfl⟩
theorem ext_new {a : Addr} : Ext F m F (m ++ [a]) := ⟨Same.refl _, List.prefix_append _ _⟩
/-- a new own object -/
theorem Sim.alloc (S : Sim K P F m h H) {p : Addr} {ho : HO} {o : OO} (hp : H p = none) (ok : OOk K F (m ++ [p]) (upd H p ho) p o) : Sim K P F (m ++ [p]) (h ++ [o]) (upd H p ho) where
  sub := (S.other hp).sub
  len := by simp [S.len]
  nd := List.nodup_append.mpr ⟨S.nd, by simp, fun a ha b hb => by
    rw [List.mem_singleton] at hb
    subst hb
    exact fun z => S.notMem hp (z ▸ ha)⟩
  live := fun a ha => by
    rcases List.mem_append.mp ha with ha | ha
    · exact (S.other hp).live a ha
    · rw [List.mem_singleton] at ha
      subst ha
      exact ⟨_, upd_same⟩
  at_ := fun i a u e1 e2 => by
    by_cases hi : i < m.length
    · rw [List.getElem?_append_left hi] at e1
      rw [List.getElem?_append_left (by rw [← S.len]; exact hi)] at e2
      exact (S.at_ i a u e1 e2).mono ext_new (upd_ne fun z => S.notMem hp (z ▸ List.mem_of_getElem? e1)) id
    · have hi2 : i = m.length := by
        have := (List.getElem?_eq_some_iff.mp e1).1
        simp at this
        omega
      subst hi2
      rw [S.len] at e2
      simp at e1 e2
      subst e1 e2
      exact ok
  pin := fun q hq => by
    obtain ⟨h1, h2, h3⟩ := (S.other (o := ho) hp).pin q hq
    refine ⟨h1, h2, fun z => ?_⟩
    rcases List.mem_append.mp z with z | z
    · exact h3 z
    · rw [List.mem_singleton] at z
      exact S.notPin hp q hq z
  pnd := S.pnd
/-- an own object is written -/
theorem Sim.write (S : Sim K P F m h H) {i : Nat} {a : Addr} {ho : HO} {o o' : OO} (e : m[i]? = some a) (e2 : h[i]? = some o') (nf : F a = none) (ok : OOk K F m (upd H a ho) a o) : Sim K P F m (h.set i o) (upd H a ho) where
  sub := fun b u q => by
    have ne : b ≠ a := fun z => by
      rw [z, nf] at q
      cases q
    rw [upd_ne ne]
    exact S.sub b u q
  len := by simp [S.len]
  nd := S.nd
  live := fun b hb => by
    by_cases hba : b = a
    · subst hba
      exact ⟨_, upd_same⟩
    · obtain ⟨u, q⟩ := S.live b hb
      exact ⟨u, (upd_ne hba).trans q⟩
  at_ := fun j b u q1 q2 => by
    by_cases hji : j = i
    · subst hji
      rw [e] at q1
      cases q1
      rw [List.getElem?_set_self (List.getElem?_eq_some_iff.mp e2).1] at q2
      cases q2
      exact ok
    · rw [List.getElem?_set_ne (Ne.symm hji)] at q2
      exact (S.at_ j b u q1 q2).mono .refl (upd_ne fun z => hji (nodup_at S.nd (z ▸ q1) e)) id
  pin := fun q hq => by
    obtain ⟨h1, h2, h3⟩ := S.pin q hq
    exact ⟨(upd_ne fun z => h3 (by rw [z]; exact List.mem_of_getElem? e)).trans h1, h2, h3⟩
  pnd := S.pnd
/-- an own object is frozen -/
theorem Sim.freeze (S : Sim K P F m h H) {i : Nat} {a : Addr} {ho : HO} (e : m[i]? = some a) (nf : F a = none) (he : H a = some ho) : Sim K P (upd F a ho) m (h.set i .dead) H := by
  have x : Ext F m (upd F a ho) m := ⟨same_new nf, List.prefix_rfl⟩
  refine ⟨fun b u q => ?_, by simp [S.len], S.nd, S.live, fun j b u q1 q2 => ?_, fun q hq => ?_, S.pnd⟩
  · by_cases hb : b = a
    · subst hb
      rw [upd_same] at q
      cases q
      exact he
    · rw [upd_ne hb] at q
      exact S.sub b u q
  · by_cases hji : j = i
    · subst hji
      rw [List.getElem?_set] at q2
      simp at q2
      obtain ⟨_, q2⟩ := q2
      subst q2
      trivial
    · rw [List.getElem?_set_ne (Ne.symm hji)] at q2
      have ne : b ≠ a := fun z => hji (nodup_at S.nd (z ▸ q1) e)
      exact (S.at_ j b u q1 q2).mono x rfl fun z => (upd_ne ne).trans z
  · obtain ⟨h1, h2, h3⟩ := S.pin q hq
    exact ⟨h1, (upd_ne fun z => h3 (by rw [z]; exact List.mem_of_getElem? e)).trans h2, h3⟩
theorem ext_frz {a : Addr} {ho : HO} (nf : F a = none) : Ext F m (upd F a ho) m := ⟨same_new nf, List.prefix_rfl⟩
/-- a new hidden object -/
theorem Sim.hid (S : Sim K P F m h H) {p : Addr} {o : HO} (hp : H p = none) : Sim K ((p, o) :: P) F m h (upd H p o) := by
  have S2 := S.other (o := o) hp
  refine ⟨S2.sub, S2.len, S2.nd, S2.live, S2.at_, fun q hq => ?_, ?_⟩
  · rcases List.mem_cons.mp hq with rfl | hq
    · exact ⟨upd_same, S.free hp, S.notMem hp⟩
    · exact S2.pin q hq
  · rw [List.map_cons, List.nodup_cons]
    refine ⟨fun z => ?_, S.pnd⟩
    obtain ⟨q, hq, e⟩ := List.mem_map.mp z
    exact S.notPin hp q hq e
/-- a hidden object is written -/
theorem Sim.hidSet {p : Addr} {o o' : HO} (S : Sim K ((p, o) :: P) F m h H) : Sim K ((p, o') :: P) F m h (upd H p o') := by
  obtain ⟨h1, h2, h3⟩ := S.pin (p, o) List.mem_cons_self
  have nm : ∀ a, a ∈ m → a ≠ p := fun a ha z => h3 (z ▸ ha)
  have pn := S.pnd
  rw [List.map_cons, List.nodup_cons] at pn
  refine ⟨fun b u q => ?_, S.len, S.nd, fun a ha => ?_, fun i a u e1 e2 => ?_, fun q hq => ?_, by rw [List.map_cons, List.nodup_cons]; exact pn⟩
  · have ne : b ≠ p := fun z => by
      rw [z, h2] at q
      cases q
    rw [upd_ne ne]
    exact S.sub b u q
  · obtain ⟨u, q⟩ := S.live a ha
    exact ⟨u, (upd_ne (nm a ha)).trans q⟩
  · exact (S.at_ i a u e1 e2).mono .refl (upd_ne (nm a (List.mem_of_getElem? e1))) id
  · rcases List.mem_cons.mp hq with rfl | hq
    · exact ⟨upd_same, h2, h3⟩
    · obtain ⟨q1, q2, q3⟩ := S.pin q (List.mem_cons_of_mem _ hq)
      have ne : q.1 ≠ p := fun z => pn.1 (List.mem_map.mpr ⟨q, hq, z⟩)
      exact ⟨(upd_ne ne).trans q1, q2, q3⟩
/-- a hidden object is frozen -/
theorem Sim.hidFrz {p : Addr} {o : HO} (S : Sim K ((p, o) :: P) F m h H) : Sim K P (upd F p o) m h H := by
  obtain ⟨h1, h2, h3⟩ := S.pin (p, o) List.mem_cons_self
  have x : Ext F m (upd F p o) m := ext_frz h2
  have pn := S.pnd
  rw [List.map_cons, List.nodup_cons] at pn
  refine ⟨fun b u q => ?_, S.len, S.nd, S.live, fun i a u e1 e2 => ?_, fun q hq => ?_, pn.2⟩
  · by_cases hb : b = p
    · subst hb
      rw [upd_same] at q
      cases q
      exact h1
    · rw [upd_ne hb] at q
      exact S.sub b u q
  · have ne : a ≠ p := fun z => h3 (z ▸ List.mem_of_getElem? e1)
    exact (S.at_ i a u e1 e2).mono x rfl fun z => (upd_ne ne).trans z
  · obtain ⟨q1, q2, q3⟩ := S.pin q (List.mem_cons_of_mem _ hq)
    have ne : q.1 ≠ p := fun z => pn.1 (List.mem_map.mpr ⟨q, hq, z⟩)
    exact ⟨q1, (upd_ne ne).trans q2, q3⟩
/-- a hidden list becomes an own object -/
theorem Sim.hidOwn {p : Addr} {vs : List V} {xs : List D} (S : Sim K ((p, .lst vs) :: P) F m h H) (r : DenL K F m vs xs) : Sim K P F (m ++ [p]) (h ++ [.lst xs]) H := by
  obtain ⟨h1, h2, h3⟩ := S.pin (p, .lst vs) List.mem_cons_self
  have pn := S.pnd
  rw [List.map_cons, List.nodup_cons] at pn
  refine ⟨S.sub, by simp [S.len], ?_, fun a ha => ?_, fun i a u e1 e2 => ?_, fun q hq => ?_, pn.2⟩
  · refine List.nodup_append.mpr ⟨S.nd, by simp, fun a ha b hb => ?_⟩
    rw [List.mem_singleton] at hb
    subst hb
    exact fun z => h3 (z ▸ ha)
  · rcases List.mem_append.mp ha with ha | ha
    · exact S.live a ha
    · rw [List.mem_singleton] at ha
      subst ha
      exact ⟨_, h1⟩
  · by_cases hi : i < m.length
    · rw [List.getElem?_append_left hi] at e1
      rw [List.getElem?_append_left (by rw [← S.len]; exact hi)] at e2
      exact (S.at_ i a u e1 e2).mono ext_new rfl id
    · have hi2 : i = m.length := by
        have := (List.getElem?_eq_some_iff.mp e1).1
        simp at this
        omega
      subst hi2
      rw [S.len] at e2
      simp at e1 e2
      subst e1 e2
      exact ⟨vs, h1, r.mono ext_new, h2⟩
  · obtain ⟨q1, q2, q3⟩ := S.pin q (List.mem_cons_of_mem _ hq)
    refine ⟨q1, q2, fun z => ?_⟩
    rcases List.mem_append.mp z with z | z
    · exact q3 z
    · rw [List.mem_singleton] at z
      exact pn.1 (List.mem_map.mpr ⟨q, hq, z⟩)
/-- the whole own heap hidden, for a call that sees nothing of it -/
def hidP (F : Hp) (m : List Addr) (H : Hp) : Pins := m.filterMap fun a => if (F a).isNone then (H a).map fun o => (a, o) else none
theorem mem_hidP {q : Addr × HO} : q ∈ hidP F m H ↔ q.1 ∈ m ∧ F q.1 = none ∧ H q.1 = some q.2 := by
  unfold hidP
  rw [List.mem_filterMap]
  constructor
  · rintro ⟨a, ha, e⟩
    split at e
    · rename_i hf
      obtain ⟨o, ho, e2⟩ := Option.map_eq_some_iff.mp e
      subst e2
      exact ⟨ha, by simpa using hf, ho⟩
    · cases e
  · rintro ⟨h1, h2, h3⟩
    exact ⟨q.1, h1, by simp [h2, h3]⟩
theorem hidP_nodup : ∀ {m : List Addr}, m.Nodup → ((hidP F m H).map (·.1)).Nodup
  | [], _ => by simp [hidP]
  | a :: m, hn => by
    rw [List.nodup_cons] at hn
    have ih := hidP_nodup hn.2
    have key : hidP F (a :: m) H = (if (F a).isNone then (H a).map fun o => (a, o) else none).toList ++ hidP F m H := by
      unfold hidP
      rw [List.filterMap_cons]
      split <;> rename_i e <;> rw [e] <;> rfl
    rw [key]
    split
    · cases e : H a with
      | none => simpa using ih
      | some o =>
        simp only [Option.map_some, Option.toList_some, List.singleton_append, List.map_cons, List.nodup_cons]
        refine ⟨fun z => ?_, ih⟩
        obtain ⟨q, hq, e2⟩ := List.mem_map.mp z
        exact hn.1 (e2 ▸ (mem_hidP.mp hq).1)
    · simpa using ih
theorem Sim.hide (S : Sim K P F m h H) : Sim K (hidP F m H ++ P) F [] [] H where
  sub := S.sub
  len := rfl
  nd := List.nodup_nil
  live := fun _ z => by simp at z
  at_ := fun _ _ _ z => by simp at z
  pin := fun q hq => by
    rcases List.mem_append.mp hq with hq | hq
    · obtain ⟨_, h2, h3⟩ := mem_hidP.mp hq
      exact ⟨h3, h2, by simp⟩
    · exact ⟨(S.pin q hq).1, (S.pin q hq).2.1, by simp⟩
  pnd := by
    rw [List.map_append]
    refine List.nodup_append.mpr ⟨hidP_nodup S.nd, S.pnd, fun a ha b hb z => ?_⟩
    obtain ⟨q, hq, e⟩ := List.mem_map.mp ha
    obtain ⟨r, hr, e2⟩ := List.mem_map.mp hb
    exact (S.pin r hr).2.2 (by rw [e2, ← z, ← e]; exact (mem_hidP.mp hq).1)
theorem Sim.unhide {F' : Hp} {m' : List Addr} {h' : OH} {H' : Hp} (S : Sim K P F m h H) (s : Same F F') (S' : Sim K (hidP F m H ++ P) F' m' h' H') : Sim K P F' m h H' where
  sub := S'.sub
  len := S.len
  nd := S.nd
  live := fun a ha => by
    cases e : F a with
    | some o => exact ⟨o, S'.sub a o (s a o e)⟩
    | none =>
      obtain ⟨o, q⟩ := S.live a ha
      exact ⟨o, (S'.pin (a, o) (List.mem_append_left _ (mem_hidP.mpr ⟨ha, e, q⟩))).1⟩
  at_ := fun i a o e1 e2 => by
    have ha := List.mem_of_getElem? e1
    have key : ∀ u, H a = some u → F a = none → H' a = some u ∧ F' a = none := fun u q z =>
      let t := S'.pin (a, u) (List.mem_append_left _ (mem_hidP.mpr ⟨ha, z, q⟩)); ⟨t.1, t.2.1⟩
    have x : Ext F m F' m := ⟨s, List.prefix_rfl⟩
    have ok := S.at_ i a o e1 e2
    cases o with
    | lst xs =>
      obtain ⟨vs, h1, h2, h3⟩ := ok
      obtain ⟨k1, k2⟩ := key _ h1 h3
      exact ⟨vs, k1, h2.mono x, k2⟩
    | ins C fs =>
      obtain ⟨dx, fv, h1, h2, h3, h4⟩ := ok
      obtain ⟨k1, k2⟩ := key _ h1 h4
      exact ⟨dx, fv, k1, h2, h3.mono x, k2⟩
    | dct kvs =>
      obtain ⟨ks, h1, h2, h3⟩ := ok
      obtain ⟨k1, k2⟩ := key _ h1 h3
      exact ⟨ks, k1, h2.mono x, k2⟩
    | dead => trivial
    | nd ψ ks d =>
      obtain ⟨kvs, v, h1, h2, h3, h4⟩ := ok
      obtain ⟨k1, k2⟩ := key _ h1 h4
      exact ⟨kvs, v, k1, h2.mono x, h3.mono x, k2⟩
  pin := fun q hq => by
    obtain ⟨h1, h2, _⟩ := S'.pin q (List.mem_append_right _ hq)
    exact ⟨h1, h2, (S.pin q hq).2.2⟩
  pnd := S.pnd
end
/-! ### values without own objects -/
mutual
def D.pure : D → Bool
  | .non | .bl _ | .int _ | .str _ => true
  | .lst xs | .tup xs | .scr xs => D.pureL xs
  | .dct kvs => D.pureK kvs
  | .obj _ fs => D.pureF fs
  | .ref _ => false
  | .exc _ => true
  | .excf _ _ d => d.pure
  | .fn _ => true
  | .dcl kvs => D.pureK kvs
def D.pureL : List D → Bool
  | [] => true
  | x :: xs => x.pure && D.pureL xs
def D.pureK : List (Key × D) → Bool
  | [] => true
  | x :: xs => x.2.pure && D.pureK xs
def D.pureF : List (String × D) → Bool
  | [] => true
  | x :: xs => x.2.pure && D.pureF xs
end
theorem and2 {a b : Bool} (h : (a && b) = true) : a = true ∧ b = true := Bool.and_eq_true_iff.mp h
theorem Den.pureM {K : PySem.W.Frag} {F : Hp} {m m' : List Addr} {v : V} {d : D} (h : Den K F m v d) : d.pure = true → Den K F m' v d :=
  Den.rec (motive_1 := fun v d _ => d.pure = true → Den K F m' v d) (motive_2 := fun v d _ => D.pureL d = true → DenL K F m' v d) (motive_3 := fun v d _ => D.pureK d = true → DenK K F m' v d) (motive_4 := fun v d _ => D.pureF d = true → DenF K F m' v d)
    (fun _ => .non) (fun b _ => .bl b) (fun i _ => .int i) (fun x _ => .str x)
    (fun q _ r e => .lst q (r (by simpa [D.pure] using e))) (fun q _ r e => .scr q (r (by simpa [D.pure] using e))) (fun q _ r e => .tup q (r (by simpa [D.pure] using e))) (fun q _ r e => .dct q (r (by simpa [D.pure] using e))) (fun q t _ r e => .obj q t (r (by simpa [D.pure] using e)))
    (fun _ e => by simp [D.pure] at e) (fun q _ => .exc q) (fun q q2 _ r e => .excf q q2 (r (by simpa [D.pure] using e))) (fun x _ => .fn x) (fun q _ r e => .dcl q (r (by simpa [D.pure] using e)))
    (fun _ => .nil) (fun _ _ a b e => by
      have e' := and2 (by simpa only [D.pureL] using e)
      exact .cons (a e'.1) (b e'.2))
    (fun _ => .nil) (fun _ _ a b e => by
      have e' := and2 (by simpa only [D.pureK] using e)
      exact .cons (a e'.1) (b e'.2))
    (fun _ => .nil) (fun _ _ a b e => by
      have e' := and2 (by simpa only [D.pureF] using e)
      exact .cons (a e'.1) (b e'.2)) h
theorem DenL.pureM {K : PySem.W.Frag} {F : Hp} {m m' : List Addr} : ∀ {vs : List V} {ds : List D}, DenL K F m vs ds → D.pureL ds = true → DenL K F m' vs ds
  | _, _, .nil, _ => .nil
  | _, _, .cons h t, e => by
    have e' := and2 (by simpa only [D.pureL] using e)
    exact .cons (h.pureM e'.1) (DenL.pureM t e'.2)
end HR
set_option Elab.async false
set_option linter.all false
set_option maxRecDepth 100000
set_option maxHeartbeats 2000000
/-! LayB: the judgements over plain functions; names, constants, operators, displays. -/
namespace HR
open PySem L2
/-- an exception's own dict -/
def PayD (K : PySem.W.Frag) (F : Hp) (m : List Addr) : Pay → Option Addr → Prop
  | none, od => od = none
  | some q, od => ∃ a v, od = some a ∧ F a = some (.xd [(Str.ofString q.1, v)]) ∧ Den K F m v q.2
/-- the slots -/
structure EnvR (K : PySem.W.Frag) (F : Hp) (m : List Addr) (σ : St) (e : Env') : Prop where
  len : σ.length = e.length
  at_ : ∀ (i : Nat) (d : D), e[i]? = some (some d) → ∃ v, σ[i]? = some (some v) ∧ Den K F m v d
abbrev Rel (β α : Type) := Hp → List Addr → β → α → Prop
def FinG {α β : Type} (K : PySem.W.Frag) (P : Pins) (W : WX) (σ : St) (rel : Rel β α) (Q : β → Hp → Prop) (F : Hp) (m : List Addr) : Res α → Prop
  | .ok d h' => ∀ v F' m' H', Ext F m F' m' → Sim K P F' m' h' H' → rel F' m' v d → Q v H'
  | .exc C p h' => ∀ od F' m' H', Ext F m F' m' → Sim K P F' m' h' H' → PayD K F' m' p od → W (.ref (He.ga K (Str.ofString C))) od σ H'
  | .bad => False
/-- the reading of a plain function -/
def rdG {α β : Type} (K : PySem.W.Frag) (W : WX) (rel : Rel β α) (f : Env' → OH → Res α) (σ : St) (H : Hp) (Q : β → Hp → Prop) : Prop :=
  ∃ P F m e h, Sim K P F m h H ∧ EnvR K F m σ e ∧ FinG K P W σ rel Q F m (f e h)
abbrev relB : Rel Bool Bool := fun _ _ b c => b = c
abbrev DE (X : Cx) (W : WX) (e : Expr) (f : SE) : Prop := PE X e (rdG X.K W (Den X.K) f)
abbrev DT (X : Cx) (W : WX) (e : Expr) (f : ST) : Prop := PT X e (rdG X.K W relB f)
abbrev DW (X : Cx) (W : WX) (e : Expr) (f : ST) : Prop := PW X e (rdG X.K W relB f)
abbrev DA (X : Cx) (W : WX) (es : List Expr) (f : SA) : Prop := PA X es (rdG X.K W (DenL X.K) f)
section
variable {K : PySem.W.Frag} {P : Pins} {W : WX} {σ : St} {F F' : Hp} {m m' : List Addr} {h : OH} {H : Hp} {e : Env'}
theorem EnvR.mono (x : Ext F m F' m') (E : EnvR K F m σ e) : EnvR K F' m' σ e :=
  ⟨E.len, fun i d q => let ⟨v, a, b⟩ := E.at_ i d q; ⟨v, a, b.mono x⟩⟩
theorem FinG.weak {α β : Type} {rel : Rel β α} {Q : β → Hp → Prop} (x : Ext F m F' m') : ∀ {r : Res α}, FinG K P W σ rel Q F m r → FinG K P W σ rel Q F' m' r
  | .ok _ _, q => fun v F2 m2 H2 y S d => q v F2 m2 H2 (x.trans y) S d
  | .exc _ _ _, q => fun od F2 m2 H2 y S d => q od F2 m2 H2 (x.trans y) S d
  | .bad, q => q
theorem FinG.ok {α β : Type} {rel : Rel β α} {Q : β → Hp → Prop} {a : α} {v : β} (q : FinG K P W σ rel Q F m (.ok a h)) (S : Sim K P F m h H) (r : rel F m v a) : Q v H := q v F m H .refl S r
theorem FinG.okX {α β : Type} {rel : Rel β α} {Q : β → Hp → Prop} {a : α} {v : β} (q : FinG K P W σ rel Q F m (.ok a h)) (x : Ext F m F' m') (S : Sim K P F' m' h H) (r : rel F' m' v a) : Q v H := q v F' m' H x S r
/-- one step -/
theorem rd_seq {α β γ δ : Type} {rel1 : Rel β α} {rel2 : Rel δ γ} {f : Env' → OH → Res α} {g : α → OH → Res γ} {Q : δ → Hp → Prop} {R : β → Hp → Prop} (S : Sim K P F m h H) (E : EnvR K F m σ e)
    (fin : FinG K P W σ rel2 Q F m ((f e h).bind g))
    (k : ∀ F' m' h' H' v a, Ext F m F' m' → Sim K P F' m' h' H' → EnvR K F' m' σ e → rel1 F' m' v a → FinG K P W σ rel2 Q F' m' (g a h') → R v H') : rdG K W rel1 f σ H R := by
  refine ⟨P, F, m, e, h, S, E, ?_⟩
  cases q : f e h with
  | ok a h1 =>
    rw [q] at fin
    exact fun v F1 m1 H1 x S1 r => k F1 m1 h1 H1 v a x S1 (E.mono x) r (FinG.weak x fin)
  | exc C p h1 =>
    rw [q] at fin
    exact fin
  | bad =>
    rw [q] at fin
    exact fin.elim
end
section
variable {X : Cx} {W : WX}
theorem PE.of {e : Expr} {t t' : TE} (h : PE X e t) (w : ∀ σ H Q, t' σ H Q → t σ H Q) : PE X e t' := ⟨fun pins s σ H Q I q => h.run pins s σ H Q I (w σ H Q q)⟩
theorem PT.of {e : Expr} {t t' : TT} (h : PT X e t) (w : ∀ σ H Q, t' σ H Q → t σ H Q) : PT X e t' := ⟨fun pins s σ H Q I q => h.run pins s σ H Q I (w σ H Q q)⟩
theorem PA.of {es : List Expr} {t t' : TA} (h : PA X es t) (w : ∀ σ H Q, t' σ H Q → t σ H Q) : PA X es t' := ⟨fun pos pins s σ H Q I q => h.run pos pins s σ H Q I (w σ H Q q)⟩
/-! ### names, constants -/
def sVar (i : Nat) : SE := fun e h => match e[i]? with
  | some (some d) => .ok d h
  | _ => .bad
def sC (d : D) : SE := fun _ h => .ok d h
theorem de_of_var {x : Expr} {i : Nat} (hx : PE X x (tVar i)) : DE X W x (sVar i) := PE.of hx fun σ H Q => by
  rintro ⟨P, F, m, e, h, S, E, fin⟩
  unfold sVar at fin
  cases q : e[i]? with
  | none => rw [q] at fin; exact fin.elim
  | some o =>
    cases o with
    | none => rw [q] at fin; exact fin.elim
    | some d =>
      rw [q] at fin
      obtain ⟨v, e1, r⟩ := E.at_ i d q
      exact ⟨v, e1, fin.ok S r⟩
theorem de_var (i : Nat) {x : Str} {pos : Pos} (hN : X.N[i]? = some x := by rfl) (hv : Vis X.env.scope x := by first | exact Or.inl rfl | exact Or.inr (Or.inl rfl) | exact Or.inr (Or.inr rfl)) (hd : (x == ("__debug__" : Str)) = false := by decide)
    (hcd : (x == ("__classdict__" : Str)) = false := by decide) : DE X W (.Name x pos) (sVar i) := de_of_var (pe_var hN hv hd hcd)
theorem de_of_const {x : Expr} {v : V} {d : D} (hx : PE X x (tC v)) (r : ∀ F m, Den X.K F m v d) : DE X W x (sC d) := PE.of hx fun σ H Q => by
  rintro ⟨P, F, m, e, h, S, E, fin⟩
  exact fin.ok S (r F m)
theorem de_int {i : Int} {j : Nat} {pos : Pos} : DE X W (.Constant (.int i) j pos) (sC (.int i)) := de_of_const pe_int fun _ _ => .int i
theorem de_bl {b : Bool} {j : Nat} {pos : Pos} : DE X W (.Constant (.bool b) j pos) (sC (.bl b)) := de_of_const pe_bl fun _ _ => .bl b
theorem de_non {j : Nat} {pos : Pos} : DE X W (.Constant .none j pos) (sC .non) := de_of_const pe_non fun _ _ => .non
theorem de_str {x : Str} {j : Nat} {pos : Pos} : DE X W (.Constant (.str x) j pos) (sC (.str x)) := de_of_const pe_str fun _ _ => .str x
theorem de_globI {x : Str} {i : Int} {pos : Pos} (hg : Gl X x) (hm : ∃ t, X.mg x = some (.int i t)) (hd : (x == ("__debug__" : Str)) = false := by decide) : DE X W (.Name x pos) (sC (.int i)) := by
  obtain ⟨t, e⟩ := hm
  exact de_of_const (pe_glob (v := .int i) hg e ⟨t, rfl⟩ hd) fun _ _ => .int i
theorem de_globS {x z : Str} {pos : Pos} (hg : Gl X x) (hm : ∃ t, X.mg x = some (.str z t)) (hd : (x == ("__debug__" : Str)) = false := by decide) : DE X W (.Name x pos) (sC (.str z)) := by
  obtain ⟨t, e⟩ := hm
  exact de_of_const (pe_glob (v := .str z) hg e ⟨t, rfl⟩ hd) fun _ _ => .str z
/-! ### two operands, one operand -/
def sBin (g : D → D → OH → Res D) (a b : SE) : SE := fun e h => (a e h).bind fun x h1 => (b e h1).bind fun y h2 => g x y h2
def sUn (g : D → OH → Res D) (a : SE) : SE := fun e h => (a e h).bind g
def OpH (K : PySem.W.Frag) (W : WX) (g : D → D → OH → Res D) (r : R2) : Prop :=
  ∀ (P : Pins) (F : Hp) (m : List Addr) (h : OH) (H : Hp) (σ : St) (Q : VK) (x y : V) (dx dy : D), Sim K P F m h H → Den K F m x dx → Den K F m y dy → FinG K P W σ (Den K) Q F m (g dx dy h) → r x y H Q
theorem rd_op {g : D → D → OH → Res D} {r : R2} (hg : OpH X.K W g r) {fa fb : SE} {σ : St} {H : Hp} {Q : VK} (q : rdG X.K W (Den X.K) (sBin g fa fb) σ H Q) : tOp r (rdG X.K W (Den X.K) fa) (rdG X.K W (Den X.K) fb) σ H Q := by
  obtain ⟨P, F, m, e, h, S, E, fin⟩ := q
  refine rd_seq S E fin fun F1 m1 h1 H1 x dx x1 S1 E1 r1 fin1 => ?_
  refine rd_seq S1 E1 fin1 fun F2 m2 h2 H2 y dy x2 S2 E2 r2 fin2 => ?_
  exact hg P F2 m2 h2 H2 σ Q x y dx dy S2 (r1.mono x2) r2 fin2
theorem de_op {a b : Expr} {op : Operator} {pos : Pos} {g : D → D → OH → Res D} {r : R2} {fa fb : SE} (ho : OpR X (binaryOp op) r) (hg : OpH X.K W g r) (ha : DE X W a fa) (hb : DE X W b fb) : DE X W (.BinOp a op b pos) (sBin g fa fb) :=
  PE.of (pe_op ho ha hb) fun _ _ _ => rd_op hg
theorem de_cmp {a b : Expr} {op : CmpOp} {pos : Pos} {g : D → D → OH → Res D} {r : R2} {fa fb : SE} (ho : OpR X (compareOp op) r) (hg : OpH X.K W g r) (hm : behindInMarks op b = false) (ha : DE X W a fa) (hb : DE X W b fb) : DE X W (.Compare a [op] [b] pos) (sBin g fa fb) :=
  PE.of (pe_cmpR ho ha hb hm) fun _ _ _ => rd_op hg
theorem de_un {a : Expr} {op : UnaryOp} {pos : Pos} {g : D → OH → Res D} {r : V → Hp → VK → Prop} {fa : SE} (ho : UnR X (unaryOp op) r)
    (hg : ∀ (P : Pins) (F : Hp) (m : List Addr) (h : OH) (H : Hp) (σ : St) (Q : VK) (x : V) (dx : D), Sim X.K P F m h H → Den X.K F m x dx → FinG X.K P W σ (Den X.K) Q F m (g dx h) → r x H Q) (ha : DE X W a fa) : DE X W (.UnaryOp op a pos) (sUn g fa) :=
  PE.of (pe_un ho ha) fun σ H Q => by
    rintro ⟨P, F, m, e, h, S, E, fin⟩
    exact rd_seq S E fin fun F1 m1 h1 H1 x dx x1 S1 E1 r1 fin1 => hg P F1 m1 h1 H1 σ Q x dx S1 r1 fin1
/-! ### what is read as a sequence -/
/-- lists that may be read by every rule -/
def lstAt (h : OH) : D → Option (List D)
  | .lst xs => some xs
  | .ref i => (match h[i]? with
    | some (.lst xs) => some xs
    | _ => none)
  | _ => none
def tupAt : D → Option (List D)
  | .tup xs => some xs
  | _ => none
def seqAt (h : OH) : D → Option (List D)
  | .lst xs => some xs
  | .tup xs => some xs
  | .scr xs => some xs
  | .ref i => (match h[i]? with
    | some (.lst xs) => some xs
    | _ => none)
  | _ => none
section
variable {K : PySem.W.Frag} {P : Pins} {F : Hp} {m : List Addr} {h : OH} {H : Hp} {v : V} {d : D} {xs : List D}
theorem Sim.own (S : Sim K P F m h H) {i : Nat} {a : Addr} (e : m[i]? = some a) : ∃ o, h[i]? = some o ∧ OOk K F m H a o := by
  have hi : i < h.length := by rw [← S.len]; exact (List.getElem?_eq_some_iff.mp e).1
  exact ⟨h[i], List.getElem?_eq_getElem hi, S.at_ i a _ e (List.getElem?_eq_getElem hi)⟩
theorem lstAt_ok (S : Sim K P F m h H) (r : Den K F m v d) (q : lstAt h d = some xs) : ∃ a vs, v = .ref a ∧ H a = some (.lst vs) ∧ DenL K F m vs xs := by
  cases r with
  | lst e t => cases q; exact ⟨_, _, rfl, S.sub _ _ e, t⟩
  | ref e =>
    obtain ⟨o, h1, h2⟩ := S.own e
    dsimp only [lstAt] at q
    rw [h1] at q
    cases o with
    | lst ys =>
      cases q
      obtain ⟨vs, k1, k2, _⟩ := h2
      exact ⟨_, vs, rfl, k1, k2⟩
    | _ => cases q
  | _ => cases q
theorem tupAt_ok (S : Sim K P F m h H) (r : Den K F m v d) (q : tupAt d = some xs) : ∃ a vs, v = .ref a ∧ SqT K H a vs ∧ DenL K F m vs xs := by
  cases r with
  | tup e t => cases q; exact ⟨_, _, rfl, Same.sqT S.sub e, t⟩
  | _ => cases q
theorem seqAt_ok (S : Sim K P F m h H) (r : Den K F m v d) (q : seqAt h d = some xs) : ∃ a vs, v = .ref a ∧ (SqL K H a vs ∨ SqT K H a vs) ∧ DenL K F m vs xs := by
  cases r with
  | lst e t => cases q; exact ⟨_, _, rfl, .inl (.inl (.inl (S.sub _ _ e))), t⟩
  | scr e t => cases q; exact ⟨_, _, rfl, .inl (S.sub.seq e), t⟩
  | tup e t => cases q; exact ⟨_, _, rfl, .inr (Same.sqT S.sub e), t⟩
  | ref e =>
    obtain ⟨o, h1, h2⟩ := S.own e
    dsimp only [seqAt] at q
    rw [h1] at q
    cases o with
    | lst ys =>
      cases q
      obtain ⟨vs, k1, k2, _⟩ := h2
      exact ⟨_, vs, rfl, .inl (.inl (.inl k1)), k2⟩
    | _ => cases q
  | _ => cases q
/-- lists alone -/
def lsqAt (h : OH) : D → Option (List D)
  | .tup _ => none
  | d => seqAt h d
theorem lsqAt_ok (S : Sim K P F m h H) (r : Den K F m v d) (q : lsqAt h d = some xs) : ∃ a vs, v = .ref a ∧ SqL K H a vs ∧ DenL K F m vs xs := by
  cases r with
  | lst e t => cases q; exact ⟨_, _, rfl, .inl (.inl (S.sub _ _ e)), t⟩
  | scr e t => cases q; exact ⟨_, _, rfl, S.sub.seq e, t⟩
  | ref e =>
    obtain ⟨a, vs, e1, e2, e3⟩ := lstAt_ok S (.ref e) (show lstAt h _ = some xs from q)
    exact ⟨a, vs, e1, .inl (.inl e2), e3⟩
  | _ => cases q
theorem FinG.bad_elim {α β : Type} {rel : Rel β α} {W : WX} {σ : St} {Q : β → Hp → Prop} {p : Prop} (q : FinG K P W σ rel Q F m (.bad : Res α)) : p := False.elim q
theorem den_int {i : Int} (r : Den K F m v (.int i)) : v = .int i := by cases r; rfl
theorem den_str {x : Str} (r : Den K F m v (.str x)) : v = .str x := by cases r; rfl
theorem den_bl {b : Bool} (r : Den K F m v (.bl b)) : v = .bl b := by cases r; rfl
end
/-- a new list -/
theorem FinG.newL {K : PySem.W.Frag} {P : Pins} {F : Hp} {m : List Addr} {h : OH} {H : Hp} {σ : St} {Q : VK} {vs : List V} {xs : List D} {p : Addr} (fin : FinG K P W σ (Den K) Q F m (.ok (.lst xs) h)) (S : Sim K P F m h H) (r : DenL K F m vs xs) (hp : H p = none) : Q (.ref p) (upd H p (.lst vs)) :=
  fin.okX (S.extF hp) (S.frozen hp) (.lst upd_same (r.mono (S.extF hp)))
theorem FinG.newT {K : PySem.W.Frag} {P : Pins} {F : Hp} {m : List Addr} {h : OH} {H : Hp} {σ : St} {Q : VK} {vs : List V} {xs : List D} {p : Addr} (fin : FinG K P W σ (Den K) Q F m (.ok (.tup xs) h)) (S : Sim K P F m h H) (r : DenL K F m vs xs) (hp : H p = none) : Q (.ref p) (upd H p (.tup vs)) :=
  fin.okX (S.extF hp) (S.frozen hp) (.tup (.inl (.inl upd_same)) (r.mono (S.extF hp)))
/-! ### arithmetic -/
def opI2 (f : Int → Int → D) (c : Int → Int → Bool) : D → D → OH → Res D
  | .int i, .int j, h => if c i j then .ok (f i j) h else .bad
  | _, _, _ => .bad
theorem opI2_h {f : Int → Int → D} {g : Int → Int → V} {c : Int → Int → Bool} {C : Int → Int → Prop} (hc : ∀ i j, c i j = true → C i j) (hf : ∀ (F : Hp) (m : List Addr) i j, Den X.K F m (g i j) (f i j)) : OpH X.K W (opI2 f c) (rI C g) := by
  intro P F m h H σ Q x y dx dy S r1 r2 fin
  cases r1 with
  | int i =>
    cases r2 with
    | int j =>
      dsimp only [opI2] at fin
      by_cases hh : c i j = true
      · rw [if_pos hh] at fin
        exact ⟨i, j, rfl, rfl, hc i j hh, fin.ok S (hf F m i j)⟩
      · rw [if_neg hh] at fin
        exact fin.bad_elim
    | _ => exact fin.bad_elim
  | _ => exact fin.bad_elim
theorem opI2_h0 {f : Int → Int → D} {g : Int → Int → V} (hf : ∀ (F : Hp) (m : List Addr) i j, Den X.K F m (g i j) (f i j)) : OpH X.K W (opI2 f fun _ _ => true) (rI0 g) := by
  intro P F m h H σ Q x y dx dy S r1 r2 fin
  obtain ⟨i, j, e1, e2, _, q⟩ := opI2_h (C := fun _ _ => True) (fun _ _ _ => trivial) hf P F m h H σ Q x y dx dy S r1 r2 fin
  exact ⟨i, j, e1, e2, q⟩
abbrev big : Nat := 1000000
/-- a + b -/
def opAdd : D → D → OH → Res D
  | .int i, .int j, h => .ok (.int (i + j)) h
  | .str x, .str y, h => if x.length + y.length ≤ big then .ok (.str (x ++ y)) h else .bad
  | .tup xs, .tup ys, h => if xs ≠ [] ∧ xs.length + ys.length ≤ big then .ok (.tup (xs ++ ys)) h else .bad
  | a, b, h => (match lstAt h a, lstAt h b with
    | some xs, some ys => if xs.length + ys.length ≤ big then .ok (.lst (xs ++ ys)) h else .bad
    | _, _ => .bad)
theorem big_line {n : Nat} (h : n ≤ big) : n ≤ sizeLine := Nat.le_trans h (by decide)
theorem big_lt {n : Nat} (h : n < big) : n < sizeLine := Nat.lt_of_lt_of_le h (by decide)
abbrev rAddU (K : PySem.W.Frag) : R2 := fun x y H Q => rI0 (fun i j => .int (i + j)) x y H Q ∨ ((∃ i j, x = .str i ∧ y = .str j ∧ i.length + j.length ≤ sizeLine ∧ Q (.str (i ++ j)) H) ∨ (rCat x y H Q ∨ rCatT K x y H Q))
theorem opAdd_h : OpH X.K W opAdd (rAddU X.K) := by
  intro P F m h H σ Q x y dx dy S r1 r2 fin
  have lists : ∀ {a b : D}, Den X.K F m x a → Den X.K F m y b → FinG X.K P W σ (Den X.K) Q F m (match lstAt h a, lstAt h b with
    | some xs, some ys => if xs.length + ys.length ≤ big then .ok (.lst (xs ++ ys)) h else .bad
    | _, _ => .bad) → rAddU X.K x y H Q := by
    intro a b q1 q2 fin
    cases e1 : lstAt h a with
    | none => rw [e1] at fin; exact fin.bad_elim
    | some xs =>
      cases e2 : lstAt h b with
      | none => rw [e1, e2] at fin; exact fin.bad_elim
      | some ys =>
        rw [e1, e2] at fin
        dsimp only at fin
        obtain ⟨l, vs, rfl, hl, rl⟩ := lstAt_ok S q1 e1
        obtain ⟨l2, ws, rfl, hl2, rl2⟩ := lstAt_ok S q2 e2
        by_cases hz : xs.length + ys.length ≤ big
        · rw [if_pos hz] at fin
          exact .inr (.inr (.inl ⟨l, l2, vs, ws, rfl, rfl, hl, hl2, by rw [rl.length, rl2.length]; exact big_line hz, fun p hp => fin.newL S (rl.append rl2) hp⟩))
        · rw [if_neg hz] at fin
          exact fin.bad_elim
  cases dx with
  | int i =>
    cases dy with
    | int j =>
      cases den_int r1
      cases den_int r2
      exact .inl ⟨i, j, rfl, rfl, fin.ok S (.int _)⟩
    | _ => exact lists r1 r2 fin
  | str a =>
    cases dy with
    | str b =>
      cases den_str r1
      cases den_str r2
      dsimp only [opAdd] at fin
      by_cases hz : a.length + b.length ≤ big
      · rw [if_pos hz] at fin
        exact .inr (.inl ⟨a, b, rfl, rfl, big_line hz, fin.ok S (.str _)⟩)
      · rw [if_neg hz] at fin
        exact fin.bad_elim
    | _ => exact lists r1 r2 fin
  | tup xs =>
    cases dy with
    | tup ys =>
      dsimp only [opAdd] at fin
      by_cases hz : xs ≠ [] ∧ xs.length + ys.length ≤ big
      · rw [if_pos hz] at fin
        obtain ⟨l, vs, rfl, hl, rl⟩ := tupAt_ok S r1 (rfl : tupAt (.tup xs) = some xs)
        obtain ⟨l2, ws, rfl, hl2, rl2⟩ := tupAt_ok S r2 (rfl : tupAt (.tup ys) = some ys)
        refine .inr (.inr (.inr ⟨l, l2, vs, ws, rfl, rfl, hl, hl2, fun z => hz.1 ?_, by rw [rl.length, rl2.length]; exact big_line hz.2, ?_⟩))
        · subst z
          cases rl
          rfl
        · refine ⟨fun z => ?_, fun _ p hp => fin.newT S (rl.append rl2) hp⟩
          subst z
          cases rl2
          rw [List.append_nil] at fin
          exact fin.ok S r1
      · rw [if_neg hz] at fin
        exact fin.bad_elim
    | _ => exact lists r1 r2 fin
  | _ => exact lists r1 r2 fin
theorem or_add : OpR X (binaryOp .Add) (rAddU X.K) := op_add.or (op_add_str.or (op_cat.or op_catT))
theorem de_add {a b : Expr} {pos : Pos} {fa fb : SE} (ha : DE X W a fa) (hb : DE X W b fb) : DE X W (.BinOp a .Add b pos) (sBin opAdd fa fb) := de_op or_add opAdd_h ha hb
abbrev opSub := opI2 (fun i j => .int (i - j)) fun _ _ => true
theorem de_sub {a b : Expr} {pos : Pos} {fa fb : SE} (ha : DE X W a fa) (hb : DE X W b fb) : DE X W (.BinOp a .Sub b pos) (sBin opSub fa fb) := de_op op_sub (opI2_h0 fun _ _ _ _ => .int _) ha hb
/-- a product: one side below 2^64, or both not too large -/
def mulOk (i j : Int) : Bool := decide (i.natAbs < 2 ^ 64) || decide (j.natAbs < 2 ^ 64) || decide (i.natAbs.log2 + j.natAbs.log2 < 1000000)
def opMul : D → D → OH → Res D
  | .int i, .int j, h => if mulOk i j then .ok (.int (i * j)) h else .bad
  | a, .int k, h => (match lstAt h a with
    | some xs => if -(2 ^ 63) ≤ k ∧ k < 2 ^ 63 ∧ xs.length * k.toNat ≤ big then .ok (.lst (List.replicate k.toNat xs).flatten) h else .bad
    | none => .bad)
  | _, _, _ => .bad
theorem mulOk_c {i j : Int} (h : mulOk i j = true) : CMul i j ∨ CMulW i j := by
  unfold mulOk at h
  simp only [Bool.or_eq_true, decide_eq_true_eq] at h
  rcases h with (h | h) | h
  · exact .inl (.inl (by constructor <;> omega))
  · exact .inl (.inr (by constructor <;> omega))
  · exact .inr h
abbrev rMulU : R2 := fun x y H Q => rI CMul (fun i j => .int (i * j)) x y H Q ∨ (rI CMulW (fun i j => .int (i * j)) x y H Q ∨ rRep x y H Q)
theorem opMul_h : OpH X.K W opMul rMulU := by
  intro P F m h H σ Q x y dx dy S r1 r2 fin
  have lists : ∀ {a : D} {k : Int}, Den X.K F m x a → y = .int k → FinG X.K P W σ (Den X.K) Q F m (match lstAt h a with
    | some xs => if -(2 ^ 63) ≤ k ∧ k < 2 ^ 63 ∧ xs.length * k.toNat ≤ big then .ok (.lst (List.replicate k.toNat xs).flatten) h else .bad
    | none => .bad) → rMulU x y H Q := by
    intro a k q1 ey fin
    cases e1 : lstAt h a with
    | none => rw [e1] at fin; exact fin.bad_elim
    | some xs =>
      rw [e1] at fin
      dsimp only at fin
      obtain ⟨l, vs, rfl, hl, rl⟩ := lstAt_ok S q1 e1
      by_cases hz : -(2 ^ 63) ≤ k ∧ k < 2 ^ 63 ∧ xs.length * k.toNat ≤ big
      · rw [if_pos hz] at fin
        exact .inr (.inr ⟨l, k, vs, rfl, ey, hl, hz.1, hz.2.1, by rw [rl.length]; exact big_line hz.2.2, fun p hp => fin.newL S (rl.rep _) hp⟩)
      · rw [if_neg hz] at fin
        exact fin.bad_elim
  cases dy with
  | int j =>
    cases den_int r2
    cases dx with
    | int i =>
      cases den_int r1
      dsimp only [opMul] at fin
      by_cases hm : mulOk i j = true
      · rw [if_pos hm] at fin
        rcases mulOk_c hm with c | c
        · exact .inl ⟨i, j, rfl, rfl, c, fin.ok S (.int _)⟩
        · exact .inr (.inl ⟨i, j, rfl, rfl, c, fin.ok S (.int _)⟩)
      · rw [if_neg hm] at fin
        exact fin.bad_elim
    | _ => exact lists r1 rfl fin
  | _ => cases dx <;> exact fin.bad_elim
theorem de_mul {a b : Expr} {pos : Pos} {fa fb : SE} (ha : DE X W a fa) (hb : DE X W b fb) : DE X W (.BinOp a .Mult b pos) (sBin opMul fa fb) := de_op (op_mul.or (op_mulW.or op_rep)) opMul_h ha hb
def divOk (_ j : Int) : Bool := decide (0 < j) && decide (j.natAbs.log2 < 9000)
abbrev opDiv := opI2 (fun i j => .int (i / j)) divOk
abbrev opMod := opI2 (fun i j => .int (i % j)) fun _ j => decide (0 < j)
theorem de_div {a b : Expr} {pos : Pos} {fa fb : SE} (ha : DE X W a fa) (hb : DE X W b fb) : DE X W (.BinOp a .FloorDiv b pos) (sBin opDiv fa fb) :=
  de_op op_fdivW (opI2_h (fun i j h => by
    unfold divOk at h
    simp only [Bool.and_eq_true, decide_eq_true_eq] at h
    exact h) fun _ _ _ _ => .int _) ha hb
theorem de_mod {a b : Expr} {pos : Pos} {fa fb : SE} (ha : DE X W a fa) (hb : DE X W b fb) : DE X W (.BinOp a .Mod b pos) (sBin opMod fa fb) := de_op op_mod (opI2_h (fun i j h => of_decide_eq_true h) fun _ _ _ _ => .int _) ha hb
abbrev opPow := opI2 (fun i j => .int (i ^ j.toNat)) fun i j => decide (0 ≤ j) && decide (j ≤ 1000000) && decide (i.natAbs < 2 ^ 64)
theorem de_pow {a b : Expr} {pos : Pos} {fa fb : SE} (ha : DE X W a fa) (hb : DE X W b fb) : DE X W (.BinOp a .Pow b pos) (sBin opPow fa fb) :=
  de_op op_pow (opI2_h (fun i j h => by
    simp only [Bool.and_eq_true, decide_eq_true_eq] at h
    exact ⟨h.1.1, h.1.2, h.2⟩) fun _ _ _ _ => .int _) ha hb
def opNeg : D → OH → Res D
  | .int i, h => .ok (.int (-i)) h
  | _, _ => .bad
theorem de_neg {a : Expr} {pos : Pos} {fa : SE} (ha : DE X W a fa) : DE X W (.UnaryOp .USub a pos) (sUn opNeg fa) := de_un un_neg (fun P F m h H σ Q x dx S r fin => by
  cases r with
  | int i => exact ⟨i, rfl, fin.ok S (.int _)⟩
  | _ => exact fin.bad_elim) ha
/-! ### order -/
abbrev opLt := opI2 (fun i j => .bl (decide (i < j))) fun _ _ => true
abbrev opLe := opI2 (fun i j => .bl (decide (i ≤ j))) fun _ _ => true
abbrev opGt := opI2 (fun i j => .bl (decide (j < i))) fun _ _ => true
abbrev opGe := opI2 (fun i j => .bl (decide (j ≤ i))) fun _ _ => true
theorem de_le {a b : Expr} {pos : Pos} {fa fb : SE} (ha : DE X W a fa) (hb : DE X W b fb) : DE X W (.Compare a [.LtE] [b] pos) (sBin opLe fa fb) := de_cmp op_le (opI2_h0 fun _ _ _ _ => .bl _) (nomark _) ha hb
theorem de_gt {a b : Expr} {pos : Pos} {fa fb : SE} (ha : DE X W a fa) (hb : DE X W b fb) : DE X W (.Compare a [.Gt] [b] pos) (sBin opGt fa fb) := de_cmp op_gt (opI2_h0 fun _ _ _ _ => .bl _) (nomark _) ha hb
theorem de_ge {a b : Expr} {pos : Pos} {fa fb : SE} (ha : DE X W a fa) (hb : DE X W b fb) : DE X W (.Compare a [.GtE] [b] pos) (sBin opGe fa fb) := de_cmp op_ge (opI2_h0 fun _ _ _ _ => .bl _) (nomark _) ha hb
/-- a op b op' c -/
def sChain (g g' : D → D → OH → Res D) (a b c : SE) : SE := fun e h => (a e h).bind fun x h1 => (b e h1).bind fun y h2 => (g x y h2).bind fun z h3 => match z with
  | .bl true => (c e h3).bind fun u h4 => g' y u h4
  | .bl false => .ok (.bl false) h3
  | _ => .bad
/-! ### is None, is a bool -/
def opIs (neg : Bool) : D → D → OH → Res D
  | a, .non, h => .ok (.bl (match a with
    | .non => !neg
    | _ => neg)) h
  | _, _, _ => .bad
theorem den_is {K : PySem.W.Frag} {F : Hp} {m : List Addr} {v : V} {d : D} (r : Den K F m v d) : decide (v = .non) = (match d with
    | .non => true
    | _ => false) := by
  cases r <;> simp
theorem opIs_h : OpH X.K W (opIs false) (fun x y H Q => y = .non ∧ Q (.bl (decide (x = .non))) H) := by
  intro P F m h H σ Q x y dx dy S r1 r2 fin
  cases r2 with
  | non =>
    refine ⟨rfl, ?_⟩
    rw [den_is r1]
    cases dx <;> exact FinG.ok fin S (.bl _)
  | _ => cases dx <;> exact fin.bad_elim
theorem de_is {a b : Expr} {pos : Pos} {fa fb : SE} (ha : DE X W a fa) (hb : DE X W b fb) : DE X W (.Compare a [.Is] [b] pos) (sBin (opIs false) fa fb) := de_cmp op_isN opIs_h (nomark _) ha hb
/-! ### arguments, displays -/
def sNil : SA := fun _ h => .ok [] h
def sCons (a : SE) (r : SA) : SA := fun e h => (a e h).bind fun x h1 => (r e h1).bind fun xs h2 => .ok (x :: xs) h2
theorem da_nil : DA X W [] sNil := PA.of pa_nil fun σ H Q => by
  rintro ⟨P, F, m, e, h, S, E, fin⟩
  exact fin.ok S .nil
theorem da_cons {a : Expr} {es : List Expr} {fa : SE} {fr : SA} (ha : DE X W a fa) (hr : DA X W es fr) (hs : starEach (a :: es) X.env = (false, eval a X.env) :: starEach es X.env := by rfl) : DA X W (a :: es) (sCons fa fr) :=
  PA.of (pa_cons ha hr hs) fun σ H Q => by
    rintro ⟨P, F, m, e, h, S, E, fin⟩
    refine rd_seq S E fin fun F1 m1 h1 H1 x dx x1 S1 E1 r1 fin1 => ?_
    refine rd_seq S1 E1 fin1 fun F2 m2 h2 H2 y dy x2 S2 E2 r2 fin2 => ?_
    exact fin2.ok S2 (.cons (r1.mono x2) r2)
def sTup (a : SA) : SE := fun e h => (a e h).bind fun xs h1 => if xs.length ≤ big then .ok (.tup xs) h1 else .bad
def sLst (a : SA) : SE := fun e h => (a e h).bind fun xs h1 => if xs.length ≤ big then .ok (.lst xs) h1 else .bad
/-- .. as an own object -/
def sLstO (a : SA) : SE := fun e h => (a e h).bind fun xs h1 => if xs.length ≤ big then .ok (.ref h1.length) (h1 ++ [.lst xs]) else .bad
theorem de_tup {es : List Expr} {j : Nat} {pos : Pos} {fa : SA} (ha : DA X W es fa) : DE X W (.Tuple es j pos) (sTup fa) := PE.of (pe_tup ha) fun σ H Q => by
  rintro ⟨P, F, m, e, h, S, E, fin⟩
  refine rd_seq S E fin fun F1 m1 h1 H1 x dx x1 S1 E1 r1 fin1 => ?_
  by_cases hz : dx.length ≤ big
  · rw [if_pos hz] at fin1
    exact ⟨by rw [r1.length]; exact big_line hz, fun p hp => fin1.newT S1 r1 hp⟩
  · rw [if_neg hz] at fin1
    exact fin1.bad_elim
theorem de_lst {es : List Expr} {pos : Pos} {fa : SA} (ha : DA X W es fa) : DE X W (.List es pos) (sLst fa) := PE.of (pe_lst ha) fun σ H Q => by
  rintro ⟨P, F, m, e, h, S, E, fin⟩
  refine rd_seq S E fin fun F1 m1 h1 H1 x dx x1 S1 E1 r1 fin1 => ?_
  by_cases hz : dx.length ≤ big
  · rw [if_pos hz] at fin1
    exact ⟨by rw [r1.length]; exact big_line hz, fun p hp => fin1.newL S1 r1 hp⟩
  · rw [if_neg hz] at fin1
    exact fin1.bad_elim
/-- a new own list -/
theorem FinG.ownL {K : PySem.W.Frag} {P : Pins} {F : Hp} {m : List Addr} {h : OH} {H : Hp} {σ : St} {Q : VK} {vs : List V} {xs : List D} {p : Addr} (fin : FinG K P W σ (Den K) Q F m (.ok (.ref h.length) (h ++ [.lst xs]))) (S : Sim K P F m h H) (r : DenL K F m vs xs) (hp : H p = none) : Q (.ref p) (upd H p (.lst vs)) :=
  fin.okX ext_new (S.alloc hp ⟨vs, upd_same, r.mono ext_new, S.free hp⟩) (.ref (by rw [← S.len]; simp))
theorem de_lstO {es : List Expr} {pos : Pos} {fa : SA} (ha : DA X W es fa) : DE X W (.List es pos) (sLstO fa) := PE.of (pe_lst ha) fun σ H Q => by
  rintro ⟨P, F, m, e, h, S, E, fin⟩
  refine rd_seq S E fin fun F1 m1 h1 H1 x dx x1 S1 E1 r1 fin1 => ?_
  by_cases hz : dx.length ≤ big
  · rw [if_pos hz] at fin1
    exact ⟨by rw [r1.length]; exact big_line hz, fun p hp => fin1.ownL S1 r1 hp⟩
  · rw [if_neg hz] at fin1
    exact fin1.bad_elim
end
end HR
set_option Elab.async false
set_option linter.all false
set_option maxRecDepth 100000
set_option maxHeartbeats 2000000
/-! LayC: tests, equality, subscripts, slices, calls of built-ins, attributes, methods of lists. -/
namespace HR
open PySem L2
/-! ### data as a whole -/
mutual
def pyG (get : Nat → Option (List PyData)) : D → Option PyData
  | .non => some .none
  | .bl b => some (.bool b)
  | .int i => some (.int i)
  | .str x => some (.str x)
  | .lst xs => (pyGL get xs).map .list
  | .scr xs => (pyGL get xs).map .list
  | .tup xs => (pyGL get xs).map .tuple
  | .ref i => (get i).map .list
  | .dct _ => none
  | .obj _ _ => none
  | .exc _ => none
  | .excf _ _ _ => none
  | .fn _ => none
  | .dcl _ => none
def pyGL (get : Nat → Option (List PyData)) : List D → Option (List PyData)
  | [] => some []
  | x :: xs => match pyG get x, pyGL get xs with
    | some d, some ds => some (d :: ds)
    | _, _ => none
end
def pyGet (h : OH) : Nat → Nat → Option (List PyData)
  | 0, _ => none
  | n + 1, i => match h[i]? with
    | some (.lst xs) => pyGL (pyGet h n) xs
    | _ => none
/-- what a value is to == and repr -/
def pyAt (h : OH) (d : D) : Option PyData := pyG (pyGet h 4) d
section
variable {K : PySem.W.Frag} {P : Pins} {F : Hp} {m : List Addr} {h : OH} {H : Hp}
theorem dp_of (S : Sim K P F m h H) {get : Nat → Option (List PyData)} (hg : ∀ i a ds, m[i]? = some a → get i = some ds → ∃ vs, H a = some (.lst vs) ∧ DpAll K H vs ds) {v : V} {d : D} (r : Den K F m v d) : ∀ p, pyG get d = some p → Dp K H v p :=
  Den.rec (motive_1 := fun v d _ => ∀ p, pyG get d = some p → Dp K H v p) (motive_2 := fun vs ds _ => ∀ ps, pyGL get ds = some ps → DpAll K H vs ps) (motive_3 := fun _ _ _ => True) (motive_4 := fun _ _ _ => True)
    (fun p e => by simp only [pyG, Option.some.injEq] at e; subst e; exact .non) (fun b p e => by simp only [pyG, Option.some.injEq] at e; subst e; exact .bl b)
    (fun i p e => by simp only [pyG, Option.some.injEq] at e; subst e; exact .int i) (fun x p e => by simp only [pyG, Option.some.injEq] at e; subst e; exact .str x)
    (fun q _ ih p e => by
      simp only [pyG, Option.map_eq_some_iff] at e
      obtain ⟨ps, e1, e2⟩ := e
      subst e2
      exact .lst (.inl (.inl (S.sub _ _ q))) (ih ps e1))
    (fun q _ ih p e => by
      simp only [pyG, Option.map_eq_some_iff] at e
      obtain ⟨ps, e1, e2⟩ := e
      subst e2
      exact .lst (S.sub.seq q) (ih ps e1))
    (fun q _ ih p e => by
      simp only [pyG, Option.map_eq_some_iff] at e
      obtain ⟨ps, e1, e2⟩ := e
      subst e2
      exact .tup (Same.sqT S.sub q) (ih ps e1))
    (fun _ _ _ p e => by simp only [pyG] at e; cases e) (fun _ _ _ _ p e => by simp only [pyG] at e; cases e)
    (fun {a i} q p e => by
      simp only [pyG, Option.map_eq_some_iff] at e
      obtain ⟨ps, e1, e2⟩ := e
      subst e2
      obtain ⟨vs, k1, k2⟩ := hg i a ps q e1
      exact .lst (.inl (.inl k1)) k2)
    (fun _ p e => by simp only [pyG] at e; cases e) (fun _ _ _ _ p e => by simp only [pyG] at e; cases e) (fun _ p e => by simp only [pyG] at e; cases e) (fun _ _ _ p e => by simp only [pyG] at e; cases e)
    (fun ps e => by simp only [pyGL, Option.some.injEq] at e; subst e; exact .nil)
    (fun {v d vs ds} _ _ ih1 ih2 ps e => by
      simp only [pyGL] at e
      cases e1 : pyG get d with
      | none => rw [e1] at e; simp at e
      | some p =>
        cases e2 : pyGL get ds with
        | none => rw [e1, e2] at e; simp at e
        | some qs =>
          rw [e1, e2] at e
          simp only [Option.some.injEq] at e
          subst e
          exact .cons (ih1 p e1) (ih2 qs e2))
    trivial (fun _ _ _ _ => trivial) trivial (fun _ _ _ _ => trivial) r
theorem dpL_of (S : Sim K P F m h H) {get : Nat → Option (List PyData)} (hg : ∀ i a ds, m[i]? = some a → get i = some ds → ∃ vs, H a = some (.lst vs) ∧ DpAll K H vs ds) : ∀ {vs : List V} {ds : List D}, DenL K F m vs ds → ∀ ps, pyGL get ds = some ps → DpAll K H vs ps
  | _, _, .nil, ps, e => by simp only [pyGL, Option.some.injEq] at e; subst e; exact .nil
  | _, d :: ds, .cons a b, ps, e => by
    simp only [pyGL] at e
    cases e1 : pyG get d with
    | none => rw [e1] at e; simp at e
    | some p =>
      cases e2 : pyGL get ds with
      | none => rw [e1, e2] at e; simp at e
      | some qs =>
        rw [e1, e2] at e
        simp only [Option.some.injEq] at e
        subst e
        exact .cons (dp_of S hg a p e1) (dpL_of S hg b qs e2)
theorem pyGet_ok (S : Sim K P F m h H) : ∀ n i a ds, m[i]? = some a → pyGet h n i = some ds → ∃ vs, H a = some (.lst vs) ∧ DpAll K H vs ds
  | 0, _, _, _, _, e => by simp [pyGet] at e
  | n + 1, i, a, ds, e1, e => by
    obtain ⟨o, h1, h2⟩ := S.own e1
    simp only [pyGet, h1] at e
    cases o with
    | lst xs =>
      obtain ⟨vs, k1, k2, _⟩ := h2
      exact ⟨vs, k1, dpL_of S (fun j b es q1 q2 => pyGet_ok S n j b es q1 q2) k2 ds e⟩
    | _ => cases e
theorem pyAt_ok (S : Sim K P F m h H) {v : V} {d : D} {p : PyData} (r : Den K F m v d) (e : pyAt h d = some p) : Dp K H v p := dp_of S (fun i a ds q1 q2 => pyGet_ok S 4 i a ds q1 q2) r p e
end
@[simp] theorem pyAt_int {h : OH} {i : Int} : pyAt h (.int i) = some (.int i) := by simp [pyAt, pyG]
@[simp] theorem pyAt_bl {h : OH} {b : Bool} : pyAt h (.bl b) = some (.bool b) := by simp [pyAt, pyG]
@[simp] theorem pyAt_str {h : OH} {x : Str} : pyAt h (.str x) = some (.str x) := by simp [pyAt, pyG]
@[simp] theorem pyAt_non {h : OH} : pyAt h .non = some .none := by simp [pyAt, pyG]
section
variable {X : Cx} {W : WX}
def opEq (neg : Bool) : D → D → OH → Res D := fun a b h => match pyAt h a, pyAt h b with
  | some p, some q => if SeqAt.shaped p && SeqAt.shaped q then .ok (.bl (if neg then !PyData.eqv p q else PyData.eqv p q)) h else .bad
  | _, _ => .bad
theorem opEq_h (neg : Bool) : OpH X.K W (opEq neg) (if neg then rNeD X.K else rEqD X.K) := by
  intro P F m h H σ Q x y dx dy S r1 r2 fin
  dsimp only [opEq] at fin
  cases e1 : pyAt h dx with
  | none => rw [e1] at fin; exact fin.bad_elim
  | some p =>
    cases e2 : pyAt h dy with
    | none => rw [e1, e2] at fin; exact fin.bad_elim
    | some q =>
      rw [e1, e2] at fin
      dsimp only at fin
      by_cases hs : (SeqAt.shaped p && SeqAt.shaped q) = true
      · rw [if_pos hs] at fin
        obtain ⟨s1, s2⟩ := and2 hs
        cases neg with
        | true => exact ⟨p, q, pyAt_ok S r1 e1, pyAt_ok S r2 e2, s1, s2, fin.ok S (.bl _)⟩
        | false => exact ⟨p, q, pyAt_ok S r1 e1, pyAt_ok S r2 e2, s1, s2, fin.ok S (.bl _)⟩
      · rw [if_neg hs] at fin
        exact fin.bad_elim
theorem de_eq {a b : Expr} {pos : Pos} {fa fb : SE} (hu : X.A.units + 64 < cLine) (ha : DE X W a fa) (hb : DE X W b fb) : DE X W (.Compare a [.Eq] [b] pos) (sBin (opEq false) fa fb) := de_cmp (op_eqD hu) (opEq_h false) (nomark _) ha hb
/-! ### in -/
end
/-! ### tests -/
def sTest (f : SE) : ST := fun e h => (f e h).bind fun d h1 => match d with
  | .bl b => .ok b h1
  | _ => .bad
def sAnd (a b : ST) : ST := fun e h => (a e h).bind fun c h1 => if c then b e h1 else .ok false h1
def sOr (a b : ST) : ST := fun e h => (a e h).bind fun c h1 => if c then .ok true h1 else b e h1
def sNot (a : ST) : ST := fun e h => (a e h).bind fun c h1 => .ok (!c) h1
/-- a test as a value -/
def sVal (a : ST) : SE := fun e h => (a e h).bind fun c h1 => .ok (.bl c) h1
def sIf (c : ST) (a b : SE) : SE := fun e h => (c e h).bind fun t h1 => if t then a e h1 else b e h1
section
variable {X : Cx} {W : WX}
theorem rd_test {f : SE} {σ : St} {H : Hp} {Q : Bool → Hp → Prop} (q : rdG X.K W relB (sTest f) σ H Q) : tTest (rdG X.K W (Den X.K) f) σ H Q := by
  obtain ⟨P, F, m, e, h, S, E, fin⟩ := q
  refine rd_seq S E fin fun F1 m1 h1 H1 x dx x1 S1 E1 r1 fin1 => ?_
  cases r1 with
  | bl b => exact ⟨b, rfl, fin1.ok S1 rfl⟩
  | _ => exact fin1.bad_elim
/-- a call, a name, an attribute, an item as a test -/
theorem dt_val {a : Expr} {f : SE} (ha : DE X W a f) (he : ∀ whole, isTrue a X.env whole = (do let v ← whole; standAt a.pos; holding [v] (truthy v)) := by intro _; rfl) : DT X W a (sTest f) := PT.of (pt_val ha he) fun _ _ _ => rd_test
theorem dt_cmp {a b : Expr} {op : CmpOp} {pos : Pos} {g : D → D → OH → Res D} {r : R2} {fa fb : SE} (ho : OpR X (compareOp op) r) (hg : OpH X.K W g r) (hm : behindInMarks op b = false) (ha : DE X W a fa) (hb : DE X W b fb) : DT X W (.Compare a [op] [b] pos) (sTest (sBin g fa fb)) :=
  PT.of (pt_cmpR ho ha hb hm) fun σ H Q q => by
    obtain ⟨P, F, m, e, h, S, E, fin⟩ := q
    have key : rdG X.K W (Den X.K) (sBin g fa fb) σ H (fun x H' => ∃ k, x = .bl k ∧ Q k H') := rd_test ⟨P, F, m, e, h, S, E, fin⟩
    exact rd_op hg key
theorem dt_eq {a b : Expr} {pos : Pos} {fa fb : SE} (hu : X.A.units + 64 < cLine) (ha : DE X W a fa) (hb : DE X W b fb) : DT X W (.Compare a [.Eq] [b] pos) (sTest (sBin (opEq false) fa fb)) := dt_cmp (op_eqD hu) (opEq_h false) (nomark _) ha hb
theorem dt_ne {a b : Expr} {pos : Pos} {fa fb : SE} (hu : X.A.units + 64 < cLine) (ha : DE X W a fa) (hb : DE X W b fb) : DT X W (.Compare a [.NotEq] [b] pos) (sTest (sBin (opEq true) fa fb)) := dt_cmp (op_neD hu) (opEq_h true) (nomark _) ha hb
theorem dt_lt {a b : Expr} {pos : Pos} {fa fb : SE} (ha : DE X W a fa) (hb : DE X W b fb) : DT X W (.Compare a [.Lt] [b] pos) (sTest (sBin opLt fa fb)) := dt_cmp op_lt (opI2_h0 fun _ _ _ _ => .bl _) (nomark _) ha hb
theorem dt_le {a b : Expr} {pos : Pos} {fa fb : SE} (ha : DE X W a fa) (hb : DE X W b fb) : DT X W (.Compare a [.LtE] [b] pos) (sTest (sBin opLe fa fb)) := dt_cmp op_le (opI2_h0 fun _ _ _ _ => .bl _) (nomark _) ha hb
theorem dt_gt {a b : Expr} {pos : Pos} {fa fb : SE} (ha : DE X W a fa) (hb : DE X W b fb) : DT X W (.Compare a [.Gt] [b] pos) (sTest (sBin opGt fa fb)) := dt_cmp op_gt (opI2_h0 fun _ _ _ _ => .bl _) (nomark _) ha hb
theorem dt_ge {a b : Expr} {pos : Pos} {fa fb : SE} (ha : DE X W a fa) (hb : DE X W b fb) : DT X W (.Compare a [.GtE] [b] pos) (sTest (sBin opGe fa fb)) := dt_cmp op_ge (opI2_h0 fun _ _ _ _ => .bl _) (nomark _) ha hb
theorem dt_is {a b : Expr} {pos : Pos} {fa fb : SE} (ha : DE X W a fa) (hb : DE X W b fb) : DT X W (.Compare a [.Is] [b] pos) (sTest (sBin (opIs false) fa fb)) := dt_cmp op_isN opIs_h (nomark _) ha hb
theorem DW.dt {a : Expr} {f : ST} (h : DW X W a f) : DT X W a f := PW.pt h
theorem PW.of {e : Expr} {t t' : TT} (h : PW X e t) (w : ∀ σ H Q, t' σ H Q → t σ H Q) : PW X e t' := ⟨fun wh pins s σ H Q I q => h.run wh pins s σ H Q I (w σ H Q q)⟩
theorem dw_and1 {a : Expr} {f : ST} {pos : Pos} (ha : DT X W a f) : DW X W (.BoolOp .And [a] pos) f := pw_and1 ha
theorem dw_or1 {a : Expr} {f : ST} {pos : Pos} (ha : DT X W a f) : DW X W (.BoolOp .Or [a] pos) f := pw_or1 ha
theorem dw_and {a b : Expr} {rest : List Expr} {f g : ST} {pos : Pos} (ha : DT X W a f) (hb : DW X W (.BoolOp .And (b :: rest) pos) g) : DW X W (.BoolOp .And (a :: b :: rest) pos) (sAnd f g) := PW.of (pw_and ha hb) fun σ H Q => by
  rintro ⟨P, F, m, e, h, S, E, fin⟩
  refine rd_seq S E fin fun F1 m1 h1 H1 x dx x1 S1 E1 r1 fin1 => ?_
  have r1 : x = dx := r1
  subst r1
  cases x with
  | true => exact ⟨P, F1, m1, e, h1, S1, E1, fin1⟩
  | false => exact fin1.ok S1 rfl
theorem dw_or {a b : Expr} {rest : List Expr} {f g : ST} {pos : Pos} (ha : DT X W a f) (hb : DW X W (.BoolOp .Or (b :: rest) pos) g) : DW X W (.BoolOp .Or (a :: b :: rest) pos) (sOr f g) := PW.of (pw_or ha hb) fun σ H Q => by
  rintro ⟨P, F, m, e, h, S, E, fin⟩
  refine rd_seq S E fin fun F1 m1 h1 H1 x dx x1 S1 E1 r1 fin1 => ?_
  have r1 : x = dx := r1
  subst r1
  cases x with
  | true => exact fin1.ok S1 rfl
  | false => exact ⟨P, F1, m1, e, h1, S1, E1, fin1⟩
theorem dt_not {a : Expr} {f : ST} {pos : Pos} (ha : DT X W a f) : DT X W (.UnaryOp .Not a pos) (sNot f) := PT.of (pt_not ha) fun σ H Q => by
  rintro ⟨P, F, m, e, h, S, E, fin⟩
  refine rd_seq S E fin fun F1 m1 h1 H1 x dx x1 S1 E1 r1 fin1 => ?_
  have r1 : x = dx := r1
  subst r1
  exact fin1.ok S1 rfl
/-- and, or, not as values -/
theorem de_one {a : Expr} {op : BoolOp} {f : SE} {pos : Pos} (ha : DE X W a f) : DE X W (.BoolOp op [a] pos) f := pe_one ha
def sAndV (a b : SE) : SE := fun e h => (a e h).bind fun d h1 => match d with
  | .bl true => b e h1
  | .bl false => .ok (.bl false) h1
  | _ => .bad
def sOrV (a b : SE) : SE := fun e h => (a e h).bind fun d h1 => match d with
  | .bl true => .ok (.bl true) h1
  | .bl false => b e h1
  | _ => .bad
def sNotV (a : SE) : SE := fun e h => (a e h).bind fun d h1 => match d with
  | .bl b => .ok (.bl (!b)) h1
  | _ => .bad
theorem de_and {a b : Expr} {rest : List Expr} {f g : SE} {pos : Pos} (ha : DE X W a f) (hb : DE X W (.BoolOp .And (b :: rest) pos) g) : DE X W (.BoolOp .And (a :: b :: rest) pos) (sAndV f g) := PE.of (pe_and ha hb) fun σ H Q => by
  rintro ⟨P, F, m, e, h, S, E, fin⟩
  refine rd_seq S E fin fun F1 m1 h1 H1 x dx x1 S1 E1 r1 fin1 => ?_
  cases r1 with
  | bl b =>
    cases b with
    | true => exact ⟨true, rfl, P, F1, m1, e, h1, S1, E1, fin1⟩
    | false => exact ⟨false, rfl, fin1.ok S1 (.bl _)⟩
  | _ => exact fin1.bad_elim
theorem de_or {a b : Expr} {rest : List Expr} {f g : SE} {pos : Pos} (ha : DE X W a f) (hb : DE X W (.BoolOp .Or (b :: rest) pos) g) : DE X W (.BoolOp .Or (a :: b :: rest) pos) (sOrV f g) := PE.of (pe_or ha hb) fun σ H Q => by
  rintro ⟨P, F, m, e, h, S, E, fin⟩
  refine rd_seq S E fin fun F1 m1 h1 H1 x dx x1 S1 E1 r1 fin1 => ?_
  cases r1 with
  | bl b =>
    cases b with
    | true => exact ⟨true, rfl, fin1.ok S1 (.bl _)⟩
    | false => exact ⟨false, rfl, P, F1, m1, e, h1, S1, E1, fin1⟩
  | _ => exact fin1.bad_elim
theorem de_if {c a b : Expr} {fc : ST} {fa fb : SE} {pos : Pos} (hc : DT X W c fc) (ha : DE X W a fa) (hb : DE X W b fb) : DE X W (.IfExp c a b pos) (sIf fc fa fb) := PE.of (pe_ifExp hc ha hb) fun σ H Q => by
  rintro ⟨P, F, m, e, h, S, E, fin⟩
  refine rd_seq S E fin fun F1 m1 h1 H1 x dx x1 S1 E1 r1 fin1 => ?_
  have r1 : x = dx := r1
  subst r1
  cases x with
  | true => exact ⟨P, F1, m1, e, h1, S1, E1, fin1⟩
  | false => exact ⟨P, F1, m1, e, h1, S1, E1, fin1⟩
theorem rd_chain {g g' : D → D → OH → Res D} {r r' : R2} (hg : OpH X.K W g r) (hg' : OpH X.K W g' r') {fa fb fc : SE} {σ : St} {H : Hp} {Q : VK} (q : rdG X.K W (Den X.K) (sChain g g' fa fb fc) σ H Q) :
    tChain r r' (rdG X.K W (Den X.K) fa) (rdG X.K W (Den X.K) fb) (rdG X.K W (Den X.K) fc) σ H Q := by
  obtain ⟨P, F, m, e, h, S, E, fin⟩ := q
  refine rd_seq S E fin fun F1 m1 h1 H1 x dx x1 S1 E1 r1 fin1 => ?_
  refine rd_seq S1 E1 fin1 fun F2 m2 h2 H2 y dy x2 S2 E2 r2 fin2 => ?_
  refine hg P F2 m2 h2 H2 σ _ x y dx dy S2 (r1.mono x2) r2 ?_
  cases q : g dx dy h2 with
  | bad => rw [q] at fin2; exact fin2
  | exc C p h3 => rw [q] at fin2; exact fin2
  | ok z h3 =>
    rw [q] at fin2
    intro v F3 m3 H3 x3 S3 r3
    cases r3 with
    | bl b =>
      refine ⟨b, rfl, ?_⟩
      cases b with
      | true =>
        rw [if_pos rfl]
        refine rd_seq S3 ((E2.mono x3)) (FinG.weak x3 fin2) fun F4 m4 h4 H4 u du x4 S4 E4 r4 fin4 => ?_
        exact hg' P F4 m4 h4 H4 σ Q y u dy du S4 (r2.mono (x3.trans x4)) r4 fin4
      | false =>
        rw [if_neg Bool.false_ne_true]
        exact FinG.okX fin2 x3 S3 (.bl _)
    | _ => exact FinG.bad_elim fin2
theorem de_chain {a b c : Expr} {op op' : CmpOp} {pos : Pos} {g g' : D → D → OH → Res D} {r r' : R2} {fa fb fc : SE} (ho : OpR X (compareOp op) r) (ho' : OpR X (compareOp op') r') (hg : OpH X.K W g r) (hg' : OpH X.K W g' r') (ha : DE X W a fa) (hb : DE X W b fb) (hc : DE X W c fc)
    (hm : lastMarks [op, op'] [b, c] = false := by with_unfolding_all rfl) : DE X W (.Compare a [op, op'] [b, c] pos) (sChain g g' fa fb fc) := PE.of (pe_chain ho ho' ha hb hc hm) fun _ _ _ => rd_chain hg hg'
theorem de_lele {a b c : Expr} {pos : Pos} {fa fb fc : SE} (ha : DE X W a fa) (hb : DE X W b fb) (hc : DE X W c fc) (hm : lastMarks [.LtE, .LtE] [b, c] = false := by with_unfolding_all rfl) : DE X W (.Compare a [.LtE, .LtE] [b, c] pos) (sChain opLe opLe fa fb fc) :=
  de_chain op_le op_le (opI2_h0 fun _ _ _ _ => .bl _) (opI2_h0 fun _ _ _ _ => .bl _) ha hb hc hm
/-! ### subscripts, slices -/
def opIx : D → D → OH → Res D := fun a b h => match b with
  | .int i => (match a with
    | .str z => if z.length ≤ big then (match atI z.cps.toList i with
      | some c => .ok (.str ⟨#[c]⟩) h
      | none => .bad) else .bad
    | a => match seqAt h a with
      | some xs => (match atI xs i with
        | some d => .ok d h
        | none => .bad)
      | none => .bad)
  | _ => .bad
theorem atI_den {K : PySem.W.Frag} {F : Hp} {m : List Addr} {vs : List V} {ds : List D} {i : Int} {d : D} (r : DenL K F m vs ds) (e : atI ds i = some d) : ∃ v, atI vs i = some v ∧ Den K F m v d := by
  unfold atI at e ⊢
  rw [r.length]
  cases q : ixN ds.length i with
  | none => rw [q] at e; simp at e
  | some j =>
    rw [q] at e
    simp only [Option.bind_some] at e ⊢
    exact r.get e
theorem opIx_h : OpH X.K W opIx (rIx X.K) := by
  intro P F m h H σ Q x y dx dy S r1 r2 fin
  cases r2 with
  | int i =>
    have seqs : ∀ {a : D}, Den X.K F m x a → FinG X.K P W σ (Den X.K) Q F m (match seqAt h a with
      | some xs => (match atI xs i with
        | some d => .ok d h
        | none => .bad)
      | none => .bad) → rIx X.K x (.int i) H Q := by
      intro a q fin
      cases e : seqAt h a with
      | none => rw [e] at fin; exact fin.bad_elim
      | some xs =>
        rw [e] at fin
        dsimp only at fin
        obtain ⟨l, vs, rfl, hl, rl⟩ := seqAt_ok S q e
        cases e2 : atI xs i with
        | none => rw [e2] at fin; exact fin.bad_elim
        | some d =>
          rw [e2] at fin
          obtain ⟨v, e3, r3⟩ := atI_den rl e2
          rcases hl with hl | hl
          · exact .inl ⟨l, vs, i, v, rfl, rfl, hl, e3, fin.ok S r3⟩
          · exact .inr (.inl ⟨l, vs, i, v, rfl, rfl, hl, e3, fin.ok S r3⟩)
    cases dx with
    | str z =>
      cases den_str r1
      dsimp only [opIx] at fin
      by_cases hz : z.length ≤ big
      · rw [if_pos hz] at fin
        cases e : atI z.cps.toList i with
        | none => rw [e] at fin; exact fin.bad_elim
        | some c =>
          rw [e] at fin
          exact .inr (.inr ⟨z, i, c, rfl, rfl, big_line hz, e, fin.ok S (.str _)⟩)
      · rw [if_neg hz] at fin
        exact fin.bad_elim
    | _ => exact seqs r1 fin
  | _ => exact fin.bad_elim
theorem de_ix {a b : Expr} {pos : Pos} {fa fb : SE} (ha : DE X W a fa) (hb : DE X W b fb) (hs : PlainIx b := by exact fun _ _ => rfl) : DE X W (.Subscript a b pos) (sBin opIx fa fb) := PE.of (pe_ix ix_seq ha hb hs) fun _ _ _ => rd_op opIx_h
abbrev SO := Env' → OH → Res (Option Int)
abbrev relO : Rel (Option Int) (Option Int) := fun _ _ b c => b = c
abbrev DO (X : Cx) (W : WX) (e : Option Expr) (f : SO) : Prop := PO X e (rdG X.K W relO f)
def sNoPart : SO := fun _ h => .ok none h
def sPart (f : SE) : SO := fun e h => (f e h).bind fun d h1 => match d with
  | .int i => .ok (some i) h1
  | _ => .bad
theorem PO.of {e : Option Expr} {t t' : TO} (h : PO X e t) (w : ∀ σ H Q, t' σ H Q → t σ H Q) : PO X e t' := by
  obtain ⟨h⟩ := h
  constructor
  intros
  first
    | (apply h <;> first | assumption | (apply w; assumption))
theorem do_none : DO X W none sNoPart := PO.of po_none fun σ H Q => by
  rintro ⟨P, F, m, e, h, S, E, fin⟩
  exact fin.ok S rfl
theorem do_some {a : Expr} {f : SE} (ha : DE X W a f) : DO X W (some a) (sPart f) := PO.of (po_some ha) fun σ H Q => by
  rintro ⟨P, F, m, e, h, S, E, fin⟩
  refine rd_seq S E fin fun F1 m1 h1 H1 x dx x1 S1 E1 r1 fin1 => ?_
  cases r1 with
  | int i => exact ⟨i, rfl, fin1.ok S1 rfl⟩
  | _ => exact fin1.bad_elim
def cutD (xs : List D) (lo hi : Option Int) : List D := (xs.drop (HT.sIx xs.length 0 lo)).take (HT.sIx xs.length xs.length hi - HT.sIx xs.length 0 lo)
theorem cut_den {K : PySem.W.Frag} {F : Hp} {m : List Addr} {vs : List V} {ds : List D} (r : DenL K F m vs ds) (lo hi : Option Int) : DenL K F m (cutV vs lo hi) (cutD ds lo hi) := by
  unfold cutV cutD
  rw [r.length]
  exact (r.drop _).take _
def opCut (own : Bool) (a : D) (lo hi : Option Int) (h : OH) : Res D := match lsqAt h a with
  | some xs => if own then .ok (.ref h.length) (h ++ [.lst (cutD xs lo hi)]) else .ok (.lst (cutD xs lo hi)) h
  | none => (match a with
    | .tup xs => if ¬ (HT.sIx xs.length 0 lo = 0 ∧ HT.sIx xs.length xs.length hi = xs.length) then .ok (.tup (cutD xs lo hi)) h else .bad
    | _ => .bad)
def sCut (own : Bool) (a : SE) (lo hi : SO) : SE := fun e h => (a e h).bind fun x h1 => (lo e h1).bind fun l h2 => (hi e h2).bind fun u h3 => opCut own x l u h3
theorem de_cut {a : Expr} {lo hi : Option Expr} {p2 pos : Pos} {fa : SE} {fl fu : SO} (own : Bool) (ha : DE X W a fa) (hl : DO X W lo fl) (hh : DO X W hi fu) : DE X W (.Subscript a (.Slice lo hi none p2) pos) (sCut own fa fl fu) :=
  PE.of (pe_slice (sl_list.or sl_tup) ha hl hh) fun σ H Q => by
    rintro ⟨P, F, m, e, h, S, E, fin⟩
    refine rd_seq S E fin fun F1 m1 h1 H1 x dx x1 S1 E1 r1 fin1 => ?_
    refine rd_seq S1 E1 fin1 fun F2 m2 h2 H2 l dl x2 S2 E2 r2 fin2 => ?_
    refine rd_seq S2 E2 fin2 fun F3 m3 h3 H3 u du x3 S3 E3 r3 fin3 => ?_
    have r2 : l = dl := r2
    have r3 : u = du := r3
    subst r2 r3
    have r4 := r1.mono (x2.trans x3)
    unfold opCut at fin3
    cases q : lsqAt h3 dx with
    | some xs =>
      rw [q] at fin3
      obtain ⟨c, vs, rfl, hc, rc⟩ := lsqAt_ok S3 r4 q
      refine .inl ⟨c, vs, rfl, hc, fun p hp => ?_⟩
      cases own with
      | true => exact FinG.ownL fin3 S3 (cut_den rc l u) hp
      | false => exact FinG.newL fin3 S3 (cut_den rc l u) hp
    | none =>
      rw [q] at fin3
      cases r4 with
      | tup ct tt =>
        dsimp only at fin3
        rename_i c vs ds
        by_cases hz : HT.sIx ds.length 0 l = 0 ∧ HT.sIx ds.length ds.length u = ds.length
        · rw [if_neg fun z => z hz] at fin3
          exact fin3.bad_elim
        · rw [if_pos hz] at fin3
          refine .inr ⟨c, vs, rfl, Same.sqT S3.sub ct, ?_, fun p hp => fin3.newT S3 (cut_den tt l u) hp⟩
          rw [tt.length]
          exact hz
      | _ => exact fin3.bad_elim
/-! ### calls of built-ins -/
def sCall (g : List D → OH → Res D) (a : SA) : SE := fun e h => (a e h).bind g
def ClH (K : PySem.W.Frag) (W : WX) (g : List D → OH → Res D) (r : List V → Hp → VK → Prop) : Prop :=
  ∀ (P : Pins) (F : Hp) (m : List Addr) (h : OH) (H : Hp) (σ : St) (Q : VK) (vs : List V) (ds : List D), Sim K P F m h H → DenL K F m vs ds → FinG K P W σ (Den K) Q F m (g ds h) → r vs H Q
theorem rd_call {g : List D → OH → Res D} {r : List V → Hp → VK → Prop} (hg : ClH X.K W g r) {fa : SA} {σ : St} {H : Hp} {Q : VK} (q : rdG X.K W (Den X.K) (sCall g fa) σ H Q) : tCB r (rdG X.K W (DenL X.K) fa) σ H Q := by
  obtain ⟨P, F, m, e, h, S, E, fin⟩ := q
  exact rd_seq S E fin fun F1 m1 h1 H1 x dx x1 S1 E1 r1 fin1 => hg P F1 m1 h1 H1 σ Q x dx S1 r1 fin1
theorem de_blt {id : String} {g : List D → OH → Res D} {r : List V → Hp → VK → Prop} {x : Str} {p pos : Pos} {a : Expr} {es : List Expr} {fa : SA} (hc : CallR X (.builtin id) r) (hg : ClH X.K W g r) (hx : Gl X x) (hm : X.mg x = none) (hv : bootBuiltins x = some (.builtin id)) (ha : DA X W (a :: es) fa)
    (hn : x ≠ "__name__" := by decide) (hdb : (x == ("__debug__" : Str)) = false := by decide) (he : starEach (a :: es) X.env = (false, eval a X.env) :: starEach es X.env := by rfl) (hpl : (backTo pos (starEach es X.env)).any (·.1) = false := by rfl) : DE X W (.Call (.Name x p) (a :: es) [] pos) (sCall g fa) :=
  PE.of (pe_callB hc hx hm hv ha hn hdb he hpl) fun _ _ _ => rd_call hg
theorem de_bty {T : String} {g : List D → OH → Res D} {r : List V → Hp → VK → Prop} {x : Str} {p pos : Pos} {a : Expr} {es : List Expr} {fa : SA} (hc : CallR X (.type T) r) (hg : ClH X.K W g r) (hx : Gl X x) (hm : X.mg x = none) (hv : bootBuiltins x = some (.type T)) (ha : DA X W (a :: es) fa)
    (hn : x ≠ "__name__" := by decide) (hdb : (x == ("__debug__" : Str)) = false := by decide) (he : starEach (a :: es) X.env = (false, eval a X.env) :: starEach es X.env := by rfl) (hpl : (backTo pos (starEach es X.env)).any (·.1) = false := by rfl) : DE X W (.Call (.Name x p) (a :: es) [] pos) (sCall g fa) :=
  PE.of (pe_callTy hc hx hm hv ha hn hdb he hpl) fun _ _ _ => rd_call hg
theorem denL1 {K : PySem.W.Frag} {F : Hp} {m : List Addr} {vs : List V} {d : D} (r : DenL K F m vs [d]) : ∃ v, vs = [v] ∧ Den K F m v d := by
  cases r with
  | cons a b =>
    cases b
    exact ⟨_, rfl, a⟩
theorem denL2 {K : PySem.W.Frag} {F : Hp} {m : List Addr} {vs : List V} {d d2 : D} (r : DenL K F m vs [d, d2]) : ∃ v v2, vs = [v, v2] ∧ Den K F m v d ∧ Den K F m v2 d2 := by
  cases r with
  | cons a b =>
    obtain ⟨v2, rfl, r2⟩ := denL1 b
    exact ⟨_, v2, rfl, a, r2⟩
def b1 (f : D → OH → Res D) : List D → OH → Res D
  | [d], h => f d h
  | _, _ => .bad
def b2 (f : D → D → OH → Res D) : List D → OH → Res D
  | [d, d2], h => f d d2 h
  | _, _ => .bad
theorem b1_inv {f : D → OH → Res D} {P : Pins} {F : Hp} {m : List Addr} {h : OH} {σ : St} {Q : VK} {vs : List V} {ds : List D} (r : DenL X.K F m vs ds) (fin : FinG X.K P W σ (Den X.K) Q F m (b1 f ds h)) : ∃ v d, vs = [v] ∧ Den X.K F m v d ∧ FinG X.K P W σ (Den X.K) Q F m (f d h) := by
  unfold b1 at fin
  split at fin
  · obtain ⟨v, rfl, r1⟩ := denL1 r
    exact ⟨v, _, rfl, r1, fin⟩
  · exact fin.bad_elim
theorem b2_inv {f : D → D → OH → Res D} {P : Pins} {F : Hp} {m : List Addr} {h : OH} {σ : St} {Q : VK} {vs : List V} {ds : List D} (r : DenL X.K F m vs ds) (fin : FinG X.K P W σ (Den X.K) Q F m (b2 f ds h)) : ∃ v v2 d d2, vs = [v, v2] ∧ Den X.K F m v d ∧ Den X.K F m v2 d2 ∧ FinG X.K P W σ (Den X.K) Q F m (f d d2 h) := by
  unfold b2 at fin
  split at fin
  · obtain ⟨v, v2, rfl, r1, r2⟩ := denL2 r
    exact ⟨v, v2, _, _, rfl, r1, r2, fin⟩
  · exact fin.bad_elim
def opLen : D → OH → Res D
  | .str z, h => if z.length ≤ big then .ok (.int z.length) h else .bad
  | d, h => (match seqAt h d with
    | some xs => .ok (.int xs.length) h
    | none => .bad)
abbrev bLen := b1 opLen
theorem bLen_h : ClH X.K W bLen (fun xs H Q => ∃ x n, xs = [x] ∧ LenV X.K x H n ∧ Q (.int n) H) := by
  intro P F m h H σ Q vs ds S r fin
  obtain ⟨v, d, rfl, r1, fin⟩ := b1_inv r fin
  have seqs : FinG X.K P W σ (Den X.K) Q F m (match seqAt h d with
    | some xs => .ok (.int xs.length) h
    | none => .bad) → ∃ x n, [v] = [x] ∧ LenV X.K x H n ∧ Q (.int n) H := by
    intro fin
    cases e : seqAt h d with
    | none => rw [e] at fin; exact fin.bad_elim
    | some xs =>
      rw [e] at fin
      obtain ⟨a, ws, rfl, ha, rl⟩ := seqAt_ok S r1 e
      refine ⟨_, xs.length, rfl, ?_, fin.ok S (.int _)⟩
      rcases ha with ha | ha
      · exact .inl ⟨ws, ha, rl.length.symm⟩
      · exact .inr ⟨ws, ha, rl.length.symm⟩
  cases d with
  | str z =>
    cases den_str r1
    dsimp only [opLen] at fin
    by_cases hz : z.length ≤ big
    · rw [if_pos hz] at fin
      exact ⟨.str z, z.length, rfl, ⟨big_line hz, rfl⟩, fin.ok S (.int _)⟩
    · rw [if_neg hz] at fin
      exact fin.bad_elim
  | _ => exact seqs fin
theorem de_len {p pos : Pos} {a : Expr} {fa : SE} (hx : Gl X "len") (hm : X.mg "len" = none) (ha : DE X W a fa) (he : starEach [a] X.env = (false, eval a X.env) :: starEach [] X.env := by rfl) : DE X W (.Call (.Name "len" p) [a] [] pos) (sCall bLen (sCons fa sNil)) :=
  de_blt call_len bLen_h hx hm PySem.boot_len (da_cons ha da_nil he) (he := he)
def opAbs : D → OH → Res D
  | .int i, h => .ok (.int (if i < 0 then -i else i)) h
  | _, _ => .bad
abbrev bAbs := b1 opAbs
theorem bAbs_h : ClH X.K W bAbs (fun xs H Q => ∃ i, xs = [.int i] ∧ Q (.int (if i < 0 then -i else i)) H) := by
  intro P F m h H σ Q vs ds S r fin
  obtain ⟨v, d, rfl, r1, fin⟩ := b1_inv r fin
  cases r1 with
  | int i => exact ⟨i, rfl, fin.ok S (.int _)⟩
  | _ => exact fin.bad_elim
theorem de_abs {p pos : Pos} {a : Expr} {fa : SE} (hx : Gl X "abs") (hm : X.mg "abs" = none) (ha : DE X W a fa) (he : starEach [a] X.env = (false, eval a X.env) :: starEach [] X.env := by rfl) : DE X W (.Call (.Name "abs" p) [a] [] pos) (sCall bAbs (sCons fa sNil)) :=
  de_blt call_abs bAbs_h hx hm (by decide +kernel) (da_cons ha da_nil he) (he := he)
theorem bI2_inv {f : Int → Int → Int} {P : Pins} {F : Hp} {m : List Addr} {h : OH} {H : Hp} {σ : St} {Q : VK} {vs : List V} {ds : List D} (S : Sim X.K P F m h H) (r : DenL X.K F m vs ds) (fin : FinG X.K P W σ (Den X.K) Q F m (b2 (opI2 (fun i j => .int (f i j)) fun _ _ => true) ds h)) : ∃ i j, vs = [.int i, .int j] ∧ Q (.int (f i j)) H := by
  obtain ⟨v, v2, d, d2, rfl, r1, r2, fin⟩ := b2_inv r fin
  obtain ⟨i, j, rfl, rfl, q⟩ := opI2_h0 (X := X) (W := W) (g := fun i j => V.int (f i j)) (fun _ _ _ _ => .int _) P F m h H σ Q v v2 d d2 S r1 r2 fin
  exact ⟨i, j, rfl, q⟩
abbrev bMax := b2 (opI2 (fun i j => .int (if j > i then j else i)) fun _ _ => true)
abbrev bMin := b2 (opI2 (fun i j => .int (if j < i then j else i)) fun _ _ => true)
theorem de_max2 {p pos : Pos} {a b : Expr} {fa fb : SE} (hc : X.calm = true) (hx : Gl X "max") (hm : X.mg "max" = none) (ha : DE X W a fa) (hb : DE X W b fb) (he : starEach [a, b] X.env = (false, eval a X.env) :: starEach [b] X.env := by rfl) (he2 : starEach [b] X.env = (false, eval b X.env) :: starEach [] X.env := by rfl)
    (hpl : (backTo pos (starEach [b] X.env)).any (·.1) = false := by rfl) : DE X W (.Call (.Name "max" p) [a, b] [] pos) (sCall bMax (sCons fa (sCons fb sNil))) :=
  de_blt (call_max2 hc) (fun P F m h H σ Q vs ds S r fin => bI2_inv S r fin) hx hm (by decide +kernel) (da_cons ha (da_cons hb da_nil he2) he) (he := he) (hpl := hpl)
theorem de_min2 {p pos : Pos} {a b : Expr} {fa fb : SE} (hc : X.calm = true) (hx : Gl X "min") (hm : X.mg "min" = none) (ha : DE X W a fa) (hb : DE X W b fb) (he : starEach [a, b] X.env = (false, eval a X.env) :: starEach [b] X.env := by rfl) (he2 : starEach [b] X.env = (false, eval b X.env) :: starEach [] X.env := by rfl)
    (hpl : (backTo pos (starEach [b] X.env)).any (·.1) = false := by rfl) : DE X W (.Call (.Name "min" p) [a, b] [] pos) (sCall bMin (sCons fa (sCons fb sNil))) :=
  de_blt (call_min2 hc) (fun P F m h H σ Q vs ds S r fin => bI2_inv S r fin) hx hm (by decide +kernel) (da_cons ha (da_cons hb da_nil he2) he) (he := he) (hpl := hpl)
def opDivmod : D → D → OH → Res D
  | .int i, .int j, h => if divOk i j then .ok (.tup [.int (i / j), .int (i % j)]) h else .bad
  | _, _, _ => .bad
abbrev bDivmod := b2 opDivmod
theorem bDivmod_h : ClH X.K W bDivmod (fun xs H Q => ∃ i j, xs = [.int i, .int j] ∧ CDivP i j ∧ ∀ p, H p = none → Q (.ref p) (upd H p (.tup [.int (i / j), .int (i % j)]))) := by
  intro P F m h H σ Q vs ds S r fin
  obtain ⟨v, v2, d, d2, rfl, r1, r2, fin⟩ := b2_inv r fin
  unfold opDivmod at fin
  split at fin
  · rename_i i j
    cases den_int r1
    cases den_int r2
    by_cases hd : divOk i j = true
    · rw [if_pos hd] at fin
      unfold divOk at hd
      simp only [Bool.and_eq_true, decide_eq_true_eq] at hd
      exact ⟨i, j, rfl, ⟨hd.1, PyProof.noPylong_of_log2 hd.2⟩, fun p hp => fin.newT S (.cons (.int _) (.cons (.int _) .nil)) hp⟩
    · rw [if_neg hd] at fin
      exact fin.bad_elim
  · exact fin.bad_elim
theorem de_divmod {p pos : Pos} {a b : Expr} {fa fb : SE} (hx : Gl X "divmod") (hm : X.mg "divmod" = none) (ha : DE X W a fa) (hb : DE X W b fb) (he : starEach [a, b] X.env = (false, eval a X.env) :: starEach [b] X.env := by rfl) (he2 : starEach [b] X.env = (false, eval b X.env) :: starEach [] X.env := by rfl)
    (hpl : (backTo pos (starEach [b] X.env)).any (·.1) = false := by rfl) : DE X W (.Call (.Name "divmod" p) [a, b] [] pos) (sCall bDivmod (sCons fa (sCons fb sNil))) :=
  de_blt call_divmodW bDivmod_h hx hm (by decide +kernel) (da_cons ha (da_cons hb da_nil he2) he) (he := he) (hpl := hpl)
end
end HR
set_option Elab.async false
set_option linter.all false
set_option maxRecDepth 100000
set_option maxHeartbeats 2000000
/-! LayD: further built-ins, isinstance, attributes, methods of lists. -/
namespace HR
open PySem L2
section
variable {X : Cx} {W : WX}
/-! ### int, sum, all, any, list, tuple -/
def opInt : D → OH → Res D
  | .int i, h => .ok (.int i) h
  | .bl b, h => .ok (.int (if b then 1 else 0)) h
  | _, _ => .bad
theorem bInt_h : ClH X.K W (b1 opInt) (fun xs H Q => (∃ i, xs = [.int i] ∧ Q (.int i) H) ∨ ∃ k, xs = [.bl k] ∧ Q (.int (if k then 1 else 0)) H) := by
  intro P F m h H σ Q vs ds S r fin
  obtain ⟨v, d, rfl, r1, fin⟩ := b1_inv r fin
  cases r1 with
  | int i => exact .inl ⟨i, rfl, fin.ok S (.int _)⟩
  | bl b => exact .inr ⟨b, rfl, fin.ok S (.int _)⟩
  | _ => exact fin.bad_elim
theorem de_toint {p pos : Pos} {a : Expr} {fa : SE} (hx : Gl X "int") (hm : X.mg "int" = none) (ha : DE X W a fa) (he : starEach [a] X.env = (false, eval a X.env) :: starEach [] X.env := by rfl) : DE X W (.Call (.Name "int" p) [a] [] pos) (sCall (b1 opInt) (sCons fa sNil)) :=
  de_bty call_int1 bInt_h hx hm (by decide +kernel) (da_cons ha da_nil he) (he := he)
/-- the ints of a list, if it holds no more -/
def intsOf : List D → Option (List Int)
  | [] => some []
  | .int i :: r => (intsOf r).map (i :: ·)
  | _ => none
def bsOf : List D → Option (List Bool)
  | [] => some []
  | .bl b :: r => (bsOf r).map (b :: ·)
  | _ => none
theorem intsOf_ok {K : PySem.W.Frag} {F : Hp} {m : List Addr} : ∀ {vs : List V} {ds : List D} {ns : List Int}, DenL K F m vs ds → intsOf ds = some ns → vs = ns.map V.int
  | _, _, _, .nil, e => by simp only [intsOf, Option.some.injEq] at e; subst e; rfl
  | _, _, _, .cons (.int i) t, e => by
    simp only [intsOf, Option.map_eq_some_iff] at e
    obtain ⟨ns, e1, e2⟩ := e
    subst e2
    rw [intsOf_ok t e1]
    rfl
  | _, _, _, .cons (.non) _, e | _, _, _, .cons (.bl _) _, e | _, _, _, .cons (.str _) _, e | _, _, _, .cons (.lst _ _) _, e | _, _, _, .cons (.scr _ _) _, e | _, _, _, .cons (.tup _ _) _, e | _, _, _, .cons (.dct _ _) _, e | _, _, _, .cons (.obj _ _ _) _, e | _, _, _, .cons (.ref _) _, e | _, _, _, .cons (.exc _) _, e | _, _, _, .cons (.excf _ _ _) _, e | _, _, _, .cons (.fn _) _, e | _, _, _, .cons (.dcl _ _) _, e => by simp [intsOf] at e
theorem bsOf_ok {K : PySem.W.Frag} {F : Hp} {m : List Addr} : ∀ {vs : List V} {ds : List D} {ns : List Bool}, DenL K F m vs ds → bsOf ds = some ns → vs = ns.map V.bl
  | _, _, _, .nil, e => by simp only [bsOf, Option.some.injEq] at e; subst e; rfl
  | _, _, _, .cons (.bl b) t, e => by
    simp only [bsOf, Option.map_eq_some_iff] at e
    obtain ⟨ns, e1, e2⟩ := e
    subst e2
    rw [bsOf_ok t e1]
    rfl
  | _, _, _, .cons (.non) _, e | _, _, _, .cons (.int _) _, e | _, _, _, .cons (.str _) _, e | _, _, _, .cons (.lst _ _) _, e | _, _, _, .cons (.scr _ _) _, e | _, _, _, .cons (.tup _ _) _, e | _, _, _, .cons (.dct _ _) _, e | _, _, _, .cons (.obj _ _ _) _, e | _, _, _, .cons (.ref _) _, e | _, _, _, .cons (.exc _) _, e | _, _, _, .cons (.excf _ _ _) _, e | _, _, _, .cons (.fn _) _, e | _, _, _, .cons (.dcl _ _) _, e => by simp [bsOf] at e
@[simp] theorem intsOf_map (ns : List Int) : intsOf (ns.map D.int) = some ns := by
  induction ns with
  | nil => rfl
  | cons n r ih => simp [intsOf, ih]
@[simp] theorem bsOf_map (ns : List Bool) : bsOf (ns.map D.bl) = some ns := by
  induction ns with
  | nil => rfl
  | cons n r ih => simp [bsOf, ih]
def opSum : D → OH → Res D := fun d h => match (lsqAt h d).bind intsOf with
  | some ns => .ok (.int ns.sum) h
  | none => .bad
theorem lints_inv {P : Pins} {F : Hp} {m : List Addr} {h : OH} {H : Hp} {v : V} {d : D} {ns : List Int} (S : Sim X.K P F m h H) (r : Den X.K F m v d) (e : (lsqAt h d).bind intsOf = some ns) : ∃ a, v = .ref a ∧ SqL X.K H a (ns.map V.int) := by
  cases q : lsqAt h d with
  | none => rw [q] at e; simp at e
  | some xs =>
    rw [q] at e
    simp only [Option.bind_some] at e
    obtain ⟨a, vs, rfl, ha, rl⟩ := lsqAt_ok S r q
    rw [intsOf_ok rl e] at ha
    exact ⟨a, rfl, ha⟩
theorem lbls_inv {P : Pins} {F : Hp} {m : List Addr} {h : OH} {H : Hp} {v : V} {d : D} {ns : List Bool} (S : Sim X.K P F m h H) (r : Den X.K F m v d) (e : (lsqAt h d).bind bsOf = some ns) : ∃ a, v = .ref a ∧ SqL X.K H a (ns.map V.bl) := by
  cases q : lsqAt h d with
  | none => rw [q] at e; simp at e
  | some xs =>
    rw [q] at e
    simp only [Option.bind_some] at e
    obtain ⟨a, vs, rfl, ha, rl⟩ := lsqAt_ok S r q
    rw [bsOf_ok rl e] at ha
    exact ⟨a, rfl, ha⟩
theorem bSum_h : ClH X.K W (b1 opSum) (rSum X.K) := by
  intro P F m h H σ Q vs ds S r fin
  obtain ⟨v, d, rfl, r1, fin⟩ := b1_inv r fin
  unfold opSum at fin
  split at fin
  · rename_i ns e
    obtain ⟨a, rfl, ha⟩ := lints_inv S r1 e
    exact ⟨a, ns, rfl, ha, fin.ok S (.int _)⟩
  · exact fin.bad_elim
theorem de_sum {p pos : Pos} {a : Expr} {fa : SE} (hc : X.calm = true) (hx : Gl X "sum") (hm : X.mg "sum" = none) (ha : DE X W a fa) (he : starEach [a] X.env = (false, eval a X.env) :: starEach [] X.env := by rfl) : DE X W (.Call (.Name "sum" p) [a] [] pos) (sCall (b1 opSum) (sCons fa sNil)) :=
  de_blt (cr_sum hc) bSum_h hx hm (by decide +kernel) (da_cons ha da_nil he) (he := he)
def opAll : D → OH → Res D := fun d h => match (lsqAt h d).bind bsOf with
  | some ns => .ok (.bl (ns.all id)) h
  | none => .bad
def opAny : D → OH → Res D := fun d h => match (lsqAt h d).bind bsOf with
  | some ns => .ok (.bl (ns.any id)) h
  | none => .bad
theorem bAll_h : ClH X.K W (b1 opAll) (rAll X.K) := by
  intro P F m h H σ Q vs ds S r fin
  obtain ⟨v, d, rfl, r1, fin⟩ := b1_inv r fin
  unfold opAll at fin
  split at fin
  · rename_i ns e
    obtain ⟨a, rfl, ha⟩ := lbls_inv S r1 e
    exact ⟨a, ns, rfl, ha, fin.ok S (.bl _)⟩
  · exact fin.bad_elim
theorem de_all {p pos : Pos} {a : Expr} {fa : SE} (hc : X.calm = true) (hx : Gl X "all") (hm : X.mg "all" = none) (ha : DE X W a fa) (he : starEach [a] X.env = (false, eval a X.env) :: starEach [] X.env := by rfl) : DE X W (.Call (.Name "all" p) [a] [] pos) (sCall (b1 opAll) (sCons fa sNil)) :=
  de_blt (cr_all hc) bAll_h hx hm (by decide +kernel) (da_cons ha da_nil he) (he := he)
/-- list(x), a new list, frozen or own -/
def opList (own : Bool) : D → OH → Res D := fun d h => match seqAt h d with
  | some xs => if own then .ok (.ref h.length) (h ++ [.lst xs]) else .ok (.lst xs) h
  | none => .bad
def opTuple : D → OH → Res D := fun d h => match d with
  | .tup xs => .ok (.tup xs) h
  | d => (match lsqAt h d with
    | some xs => .ok (.tup xs) h
    | none => .bad)
theorem bTuple_h : ClH X.K W (b1 opTuple) (fun xs H Q => ∃ p ys, xs = [.ref p] ∧ ((SqL X.K H p ys ∧ ∀ l, H l = none → Q (.ref l) (upd H l (.tup ys))) ∨ (SqT X.K H p ys ∧ Q (.ref p) H))) := by
  intro P F m h H σ Q vs ds S r fin
  obtain ⟨v, d, rfl, r1, fin⟩ := b1_inv r fin
  have lists : FinG X.K P W σ (Den X.K) Q F m (match lsqAt h d with
    | some xs => .ok (.tup xs) h
    | none => .bad) → ∃ p ys, [v] = [.ref p] ∧ ((SqL X.K H p ys ∧ ∀ l, H l = none → Q (.ref l) (upd H l (.tup ys))) ∨ (SqT X.K H p ys ∧ Q (.ref p) H)) := by
    intro fin
    cases e : lsqAt h d with
    | none => rw [e] at fin; exact fin.bad_elim
    | some xs =>
      rw [e] at fin
      obtain ⟨a, ws, rfl, ha, rl⟩ := lsqAt_ok S r1 e
      exact ⟨a, ws, rfl, .inl ⟨ha, fun l hl => FinG.newT fin S rl hl⟩⟩
  cases d with
  | tup xs =>
    obtain ⟨a, ws, rfl, ha, rl⟩ := tupAt_ok S r1 (rfl : tupAt (.tup xs) = some xs)
    exact ⟨a, ws, rfl, .inr ⟨ha, FinG.ok fin S r1⟩⟩
  | _ => exact lists fin
theorem de_tuple {p pos : Pos} {a : Expr} {fa : SE} (hx : Gl X "tuple") (hm : X.mg "tuple" = none) (ha : DE X W a fa) (he : starEach [a] X.env = (false, eval a X.env) :: starEach [] X.env := by rfl) : DE X W (.Call (.Name "tuple" p) [a] [] pos) (sCall (b1 opTuple) (sCons fa sNil)) :=
  de_bty call_tuple_of bTuple_h hx hm (by decide +kernel) (da_cons ha da_nil he) (he := he)
/-! ### isinstance of built-in types -/
def tyAt (h : OH) : D → Option String
  | .non => some "NoneType"
  | .bl _ => some "bool"
  | .int _ => some "int"
  | .str _ => some "str"
  | .lst _ => some "list"
  | .scr _ => some "list"
  | .tup _ => some "tuple"
  | .dct _ => some "dict"
  | .obj _ _ => none
  | .exc _ => none
  | .excf _ _ _ => none
  | .fn _ => none
  | .dcl _ => none
  | .ref i => (match h[i]? with
    | some (.lst _) => some "list"
    | some (.dct _) => some "dict"
    | _ => none)
def isiB (a b : String) : Bool := a == b || (a == "bool" && b == "int")
theorem kit_tab : (["NoneType", "bool", "int", "str", "list", "tuple", "dict"].all fun a => ["bool", "int", "str", "list", "tuple", "dict"].all fun b => kitB a b == some (isiB a b)) = true := by decide +kernel
theorem kit_at {a b : String} (ha : a ∈ ["NoneType", "bool", "int", "str", "list", "tuple", "dict"]) (hb : b ∈ ["bool", "int", "str", "list", "tuple", "dict"]) : kitB a b = some (isiB a b) := by
  have h := List.all_eq_true.mp kit_tab a ha
  have h2 := List.all_eq_true.mp h b hb
  exact eq_of_beq h2
theorem tyAt_mem {h : OH} {d : D} {t : String} (e : tyAt h d = some t) : t ∈ ["NoneType", "bool", "int", "str", "list", "tuple", "dict"] := by
  unfold tyAt at e
  split at e
  all_goals (try (simp only [Option.some.injEq] at e; subst e; decide))
  · cases e
  · cases e
  · cases e
  · cases e
  · cases e
  · split at e
    all_goals (try (simp only [Option.some.injEq] at e; subst e; decide))
    cases e
theorem tyAt_ok {P : Pins} {F : Hp} {m : List Addr} {h : OH} {H : Hp} {v : V} {d : D} {t : String} (S : Sim X.K P F m h H) (r : Den X.K F m v d) (e : tyAt h d = some t) : TyX X.K H v (.type t) := by
  cases r with
  | non => cases e; exact .base .non
  | bl b => cases e; exact .base (.bl b)
  | int i => cases e; exact .base (.int i)
  | str x => cases e; exact .base (.str x)
  | lst q _ => cases e; exact .base (.lst (S.sub _ _ q))
  | scr q _ =>
    cases e
    rcases S.sub.seq q with (q | ⟨o, q⟩) | ⟨o, its, n, q, c, _⟩
    · exact .base (.lst q)
    · exact .base (.frz q)
    · exact .kList q c
  | tup q _ =>
    cases e
    rcases Same.sqT S.sub q with (q | ⟨o, q⟩) | ⟨o, its, n, q, c, _⟩
    · exact .base (.tup q)
    · exact .fTuple q
    · exact .kTuple q c
  | dct q _ => cases e; exact .base (.dK (S.sub _ _ q))
  | obj _ _ _ => cases e
  | exc _ => cases e
  | excf _ _ _ => cases e
  | fn _ => cases e
  | dcl _ _ => cases e
  | ref q =>
    obtain ⟨o, h1, h2⟩ := S.own q
    unfold tyAt at e
    simp only [h1] at e
    cases o with
    | lst xs =>
      cases e
      obtain ⟨vs, k1, _⟩ := h2
      exact .base (.lst k1)
    | dct kvs =>
      cases e
      obtain ⟨ks, k1, _⟩ := h2
      exact .base (.dK k1)
    | ins _ _ => cases e
    | dead => cases e
    | nd _ _ _ => cases e
/-- isinstance(e, T) -/
def sIsi (ts : List String) (f : SE) : SE := fun e h => (f e h).bind fun d h1 => match tyAt h1 d with
  | some t => .ok (.bl (ts.any fun T => isiB t T)) h1
  | none => .bad
theorem de_isi {T : String} {x : Str} {p p2 pos : Pos} {a : Expr} {fa : SE} (hT : T ∈ ["bool", "int", "str", "list", "tuple", "dict"]) (hx : Gl X "isinstance") (hm : X.mg "isinstance" = none) (hx2 : Gl X x) (hm2 : X.mg x = none) (hv2 : bootBuiltins x = some (.type T)) (ha : DE X W a fa) (hn : x ≠ "__name__" := by decide) (hd : (x == ("__debug__" : Str)) = false := by decide)
    (he : starEach [a, .Name x p2] X.env = (false, eval a X.env) :: starEach [.Name x p2] X.env := by rfl) (he2 : starEach [.Name x p2] X.env = (false, eval (.Name x p2) X.env) :: starEach [] X.env := by rfl)
    (hpl : (backTo pos (starEach [.Name x p2] X.env)).any (·.1) = false := by rfl) : DE X W (.Call (.Name "isinstance" p) [a, .Name x p2] [] pos) (sIsi [T] fa) :=
  PE.of (pe_callB call_isi hx hm (by decide +kernel) (pa_cons ha (pa_cons (pe_bltn (v := .ty T) hx2 hm2 hv2 rfl hn hd) pa_nil he2) he) (he := he) (hpl := hpl)) fun σ H Q => by
    rintro ⟨P, F, m, e, h, S, E, fin⟩
    refine rd_seq S E fin fun F1 m1 h1 H1 x dx x1 S1 E1 r1 fin1 => ?_
    cases q : tyAt h1 dx with
    | none => rw [q] at fin1; exact fin1.bad_elim
    | some t =>
      rw [q] at fin1
      exact ⟨x, .ty T, .type t, .type T, isiB t T, rfl, .ty T, tyAt_ok S1 r1 q, kit_ty (kit_at (tyAt_mem q) hT), fin1.ok S1 (by simp only [List.any_cons, List.any_nil, Bool.or_false]; exact .bl _)⟩
theorem kitAny_two {K : PySem.W.Frag} {t T1 T2 : String} (h1 : kitB t T1 = some (isiB t T1)) (h2 : kitB t T2 = some (isiB t T2)) : PySem.W.kitAny K (.type t) [.type T1, .type T2] = some (isiB t T1 || isiB t T2) := by
  refine kitAny_cons (kit_ty h1) (fun e => ?_) (fun e => by rw [e, Bool.true_or])
  rw [e, Bool.false_or]
  refine kitAny_cons (kit_ty h2) (fun e2 => ?_) (fun e2 => e2)
  rw [e2]
  exact kitAny_nil
/-- isinstance(e, (T1, T2)) -/
theorem de_isi2 {T1 T2 : String} {x y : Str} {p p2 p3 p4 pos : Pos} {j : Nat} {a : Expr} {fa : SE} (hT1 : T1 ∈ ["bool", "int", "str", "list", "tuple", "dict"]) (hT2 : T2 ∈ ["bool", "int", "str", "list", "tuple", "dict"]) (hx : Gl X "isinstance") (hm : X.mg "isinstance" = none)
    (hx2 : Gl X x) (hm2 : X.mg x = none) (hv2 : bootBuiltins x = some (.type T1)) (hx3 : Gl X y) (hm3 : X.mg y = none) (hv3 : bootBuiltins y = some (.type T2)) (ha : DE X W a fa) (hn : x ≠ "__name__" := by decide) (hd : (x == ("__debug__" : Str)) = false := by decide) (hn3 : y ≠ "__name__" := by decide) (hd3 : (y == ("__debug__" : Str)) = false := by decide)
    (he : starEach [a, .Tuple [.Name x p2, .Name y p3] j p4] X.env = (false, eval a X.env) :: starEach [.Tuple [.Name x p2, .Name y p3] j p4] X.env := by rfl) (he2 : starEach [.Tuple [.Name x p2, .Name y p3] j p4] X.env = (false, eval (.Tuple [.Name x p2, .Name y p3] j p4) X.env) :: starEach [] X.env := by rfl)
    (he3 : starEach [.Name x p2, .Name y p3] X.env = (false, eval (.Name x p2) X.env) :: starEach [.Name y p3] X.env := by rfl) (he4 : starEach [.Name y p3] X.env = (false, eval (.Name y p3) X.env) :: starEach [] X.env := by rfl)
    (hpl : (backTo pos (starEach [.Tuple [.Name x p2, .Name y p3] j p4] X.env)).any (·.1) = false := by rfl) : DE X W (.Call (.Name "isinstance" p) [a, .Tuple [.Name x p2, .Name y p3] j p4] [] pos) (sIsi [T1, T2] fa) :=
  PE.of (pe_callB call_isiT hx hm (by decide +kernel) (pa_cons ha (pa_cons (pe_tup (pa_cons (pe_bltn (v := .ty T1) hx2 hm2 hv2 rfl hn hd) (pa_cons (pe_bltn (v := .ty T2) hx3 hm3 hv3 rfl hn3 hd3) pa_nil he4) he3)) pa_nil he2) he) (he := he) (hpl := hpl)) fun σ H Q => by
    rintro ⟨P, F, m, e, h, S, E, fin⟩
    refine rd_seq S E fin fun F1 m1 h1 H1 x dx x1 S1 E1 r1 fin1 => ?_
    refine ⟨by show 2 ≤ sizeLine; decide, fun tp hp => ?_⟩
    cases q : tyAt h1 dx with
    | none => rw [q] at fin1; exact fin1.bad_elim
    | some t =>
      rw [q] at fin1
      have S2 := S1.other (o := .tup [.ty T1, .ty T2]) hp
      refine ⟨x, tp, [.ty T1, .ty T2], .type t, [.type T1, .type T2], isiB t T1 || isiB t T2, rfl, upd_same, .cons (.ty _) (.cons (.ty _) .nil), tyAt_ok S2 r1 q, kitAny_two (kit_at (tyAt_mem q) hT1) (kit_at (tyAt_mem q) hT2), fin1.ok S2 ?_⟩
      simp only [List.any_cons, List.any_nil, Bool.or_false]
      exact .bl _
/-! ### attributes -/
theorem ofString_inj {a b : String} (h : Str.ofString a = Str.ofString b) : a = b := by
  rw [Str.ofString_eq_toList, Str.ofString_eq_toList] at h
  have h2 : (a.toList.map Char.toNat) = (b.toList.map Char.toNat) := by simpa using h
  have h3 : a.toList = b.toList := by
    have inj : ∀ (l l' : List Char), l.map Char.toNat = l'.map Char.toNat → l = l' := by
      intro l
      induction l with
      | nil => intro l' e; cases l' with
        | nil => rfl
        | cons _ _ => simp at e
      | cons c l ih => intro l' e; cases l' with
        | nil => simp at e
        | cons c' l' =>
          simp only [List.map_cons, List.cons.injEq] at e
          rw [Char.toNat_inj.mp e.1, ih l' e.2]
    exact inj _ _ h2
  exact String.toList_inj.mp h3
theorem ofString_beq (a b : String) : (Str.ofString a == Str.ofString b) = (a == b) := by
  by_cases e : a = b
  · subst e; simp
  · have e2 : Str.ofString a ≠ Str.ofString b := fun z => e (ofString_inj z)
    rw [beq_eq_false_iff_ne.mpr e, beq_eq_false_iff_ne.mpr e2]
theorem DenF.look {K : PySem.W.Frag} {F : Hp} {m : List Addr} {f : String} {d : D} : ∀ {fv : List (Str × V)} {fs : List (String × D)}, DenF K F m fv fs → fs.lookup f = some d → ∃ v, fv.lookup (Str.ofString f) = some v ∧ Den K F m v d
  | _, _, .nil, e => by simp at e
  | _, _, .cons (f := g) h t, e => by
    rw [List.lookup_cons] at e ⊢
    rw [ofString_beq]
    cases q : (f == g) with
    | true =>
      rw [q] at e
      simp only [Option.some.injEq] at e
      subst e
      exact ⟨_, rfl, h⟩
    | false =>
      rw [q] at e
      exact DenF.look t e
theorem DenF.none {K : PySem.W.Frag} {F : Hp} {m : List Addr} {f : String} : ∀ {fv : List (Str × V)} {fs : List (String × D)}, DenF K F m fv fs → fs.lookup f = none → fv.lookup (Str.ofString f) = none
  | _, _, .nil, _ => rfl
  | _, _, .cons (f := g) h t, e => by
    rw [List.lookup_cons] at e ⊢
    rw [ofString_beq]
    cases q : (f == g) with
    | true => rw [q] at e; cases e
    | false => rw [q] at e; exact DenF.none t e
def putS (f : String) (d : D) : List (String × D) → List (String × D)
  | [] => [(f, d)]
  | (g, x) :: r => if g = f then (g, d) :: r else (g, x) :: putS f d r
/-- the fields of an instance -/
def insAt (h : OH) : D → Option (String × List (String × D))
  | .obj C fs => some (C, fs)
  | .ref i => (match h[i]? with
    | some (.ins C fs) => some (C, fs)
    | _ => none)
  | _ => none
theorem insAt_ok {K : PySem.W.Frag} {P : Pins} {F : Hp} {m : List Addr} {h : OH} {H : Hp} {v : V} {d : D} {C : String} {fs : List (String × D)} (S : Sim K P F m h H) (r : Den K F m v d) (q : insAt h d = some (C, fs)) : ∃ a dx fv, v = .ref a ∧ H a = some (.ins (He.ga K (Str.ofString C)) dx fv) ∧ ObT K C fs ∧ DenF K F m fv fs := by
  cases r with
  | obj e t r => cases q; exact ⟨_, _, _, rfl, S.sub _ _ e, t, r⟩
  | ref e =>
    obtain ⟨o, h1, h2⟩ := S.own e
    unfold insAt at q
    simp only [h1] at q
    cases o with
    | ins C' fs' =>
      cases q
      obtain ⟨dx, fv, k1, k2, k3, _⟩ := h2
      exact ⟨_, dx, fv, rfl, k1, k2, k3⟩
    | _ => cases q
  | _ => cases q
theorem mem_of_lookup {f : String} {d : D} : ∀ {fs : List (String × D)}, fs.lookup f = some d → ∃ q ∈ fs, q.1 = f
  | [], e => by simp at e
  | (g, x) :: r, e => by
    rw [List.lookup_cons] at e
    cases q : (f == g) with
    | true => exact ⟨(g, x), List.mem_cons_self, (eq_of_beq q).symm⟩
    | false =>
      rw [q] at e
      obtain ⟨p, hp, e2⟩ := mem_of_lookup e
      exact ⟨p, List.mem_cons_of_mem _ hp, e2⟩
def opFld (f : String) : D → OH → Res D := fun d h => match insAt h d with
  | some q => (match q.2.lookup f with
    | some x => .ok x h
    | none => .bad)
  | none => .bad
theorem de_fld {a : Expr} {f : String} {pos : Pos} {fa : SE} (ha : DE X W a fa) (hb : attributeBase a (Str.ofString f) X.env (eval a X.env) = eval a X.env := by rfl) : DE X W (.Attribute a (Str.ofString f) pos) (sUn (opFld f) fa) := PE.of (pe_fld ha hb) fun σ H Q => by
  rintro ⟨P, F, m, e, h, S, E, fin⟩
  refine rd_seq S E fin fun F1 m1 h1 H1 x dx x1 S1 E1 r1 fin1 => ?_
  unfold opFld at fin1
  cases q : insAt h1 dx with
  | none => rw [q] at fin1; exact fin1.bad_elim
  | some z =>
    obtain ⟨C, fs⟩ := z
    rw [q] at fin1
    dsimp only at fin1
    obtain ⟨b, dxx, fv, rfl, hb2, ob, rf⟩ := insAt_ok S1 r1 q
    cases q2 : fs.lookup f with
    | none => rw [q2] at fin1; exact fin1.bad_elim
    | some d =>
      rw [q2] at fin1
      obtain ⟨v, l, rv⟩ := rf.look q2
      obtain ⟨p, hp, e2⟩ := mem_of_lookup q2
      subst e2
      exact ⟨b, _, dxx, fv, v, rfl, hb2, ob.1, ob.2 p hp, l, fin1.ok S1 rv⟩
/-! ### methods of own lists -/
/-- the receiver must be an own list all along -/
def isOwn (h : OH) : D → Bool
  | .ref i => (match h[i]? with
    | some (.lst _) => true
    | _ => false)
  | _ => false
def sMtO (g : Nat → List D → List D → OH → Res D) (o : SE) (a : SA) : SE := fun e h => (o e h).bind fun x h1 => if isOwn h1 x then (a e h1).bind fun ys h2 => (match x with
    | .ref i => (match h2[i]? with
      | some (.lst xs) => g i xs ys h2
      | _ => .bad)
    | _ => .bad) else .bad
theorem rd_mt {g : Nat → List D → List D → OH → Res D} {r : V → List V → Hp → VK → Prop} {fo : SE} {fa : SA} {σ : St} {H : Hp} {Q : VK}
    (hg : ∀ (P : Pins) (F : Hp) (m : List Addr) (h : OH) (H : Hp) (i : Nat) (a : Addr) (vs ws : List V) (xs ys : List D), Sim X.K P F m h H → m[i]? = some a → h[i]? = some (.lst xs) → H a = some (.lst vs) → DenL X.K F m vs xs → F a = none → DenL X.K F m ws ys → FinG X.K P W σ (Den X.K) Q F m (g i xs ys h) → r (.ref a) ws H Q)
    (q : rdG X.K W (Den X.K) (sMtO g fo fa) σ H Q) : rdG X.K W (Den X.K) fo σ H (fun x H1 => tyV X.K "list" x H1 ∧ rdG X.K W (DenL X.K) fa σ H1 fun xs H2 => r x xs H2 Q) := by
  obtain ⟨P, F, m, e, h, S, E, fin⟩ := q
  refine rd_seq S E fin fun F1 m1 h1 H1 x dx x1 S1 E1 r1 fin1 => ?_
  by_cases ho : isOwn h1 dx = true
  · rw [if_pos ho] at fin1
    cases r1 with
    | @ref a i e1 =>
      have ty : tyV X.K "list" (.ref a) H1 := by
        obtain ⟨o, k1, k2⟩ := S1.own e1
        simp only [isOwn, k1] at ho
        cases o with
        | lst xs =>
          obtain ⟨vs, k3, _⟩ := k2
          exact .inl ⟨rfl, vs, .inl (.inl k3)⟩
        | _ => cases ho
      refine ⟨ty, ?_⟩
      refine rd_seq S1 E1 fin1 fun F2 m2 h2 H2 ws ys x2 S2 E2 r2 fin2 => ?_
      have e2 := pre_get x2.p e1
      obtain ⟨o, k1, k2⟩ := S2.own e2
      dsimp only at fin2
      rw [k1] at fin2
      cases o with
      | lst xs =>
        obtain ⟨vs, k3, k4, k5⟩ := k2
        exact hg P F2 m2 h2 H2 i a vs ws xs ys S2 e2 k1 k3 k4 k5 r2 fin2
      | _ => exact fin2.bad_elim
    | _ => simp [isOwn] at ho
  · rw [if_neg ho] at fin1
    exact fin1.bad_elim
def gAppend (i : Nat) (xs ys : List D) (h : OH) : Res D := match ys with
  | [y] => if xs.length < big then .ok .non (h.set i (.lst (xs ++ [y]))) else .bad
  | _ => .bad
theorem de_append {o a : Expr} {fo fa : SE} {apos cpos : Pos} (ho : DE X W o fo) (ha : DE X W a fa) (hbase : attributeBase o "append" X.env (eval o X.env) = eval o X.env := by rfl)
    (hfew : ((backTo cpos (starEach [a] X.env)).all (fun x => !x.1) && (backToKw cpos (keywordEach [] X.env)).all (fun x => x.1.isSome) && decide (([a] : List Expr).length + ([] : List Keyword).length + (if ([] : List Keyword).isEmpty then 0 else 1) < 30)) = true := by rfl)
    (hline : (apos.endLine == cpos.line) = true := by rfl) (hs : starEach [a] X.env = (false, eval a X.env) :: starEach [] X.env := by rfl) (hplain : (backTo cpos (starEach [] X.env)).any (·.1) = false := by rfl) : DE X W (.Call (.Attribute o "append" apos) [a] [] cpos) (sMtO gAppend fo (sCons fa sNil)) :=
  PE.of (pe_bm PySem.F.plainAttrs_list PySem.F.slot_list_append PySem.F.type_list_append mt_append ho (da_cons ha da_nil hs) hbase hfew hline hs hplain) fun σ H Q => rd_mt (r := rAppend) fun P F m h H i a vs ws xs ys S e1 e2 ha rl nf rw fin => by
    unfold gAppend at fin
    split at fin
    · rename_i y
      obtain ⟨w, rfl, ry⟩ := denL1 rw
      by_cases hz : xs.length < big
      · rw [if_pos hz] at fin
        refine ⟨a, vs, w, rfl, rfl, ha, by rw [rl.length]; exact big_lt hz, fin.ok (S.write e1 e2 nf ⟨_, upd_same, rl.append (.cons ry .nil), nf⟩) .non⟩
      · rw [if_neg hz] at fin
        exact fin.bad_elim
    · exact fin.bad_elim
end
end HR
set_option Elab.async false
set_option linter.all false
set_option maxRecDepth 100000
set_option maxHeartbeats 2000000
/-! LayE: statements, targets, loops, comprehensions. -/
namespace HR
open PySem L2
def FinS (K : PySem.W.Frag) (P : Pins) (W : WX) (Dn : Ends) (F : Hp) (m : List Addr) : SRes → Prop
  | .nx e h' => ∀ σ F' m' H', Ext F m F' m' → Sim K P F' m' h' H' → EnvR K F' m' σ e → Dn.nx σ H'
  | .bk e h' => ∀ σ F' m' H', Ext F m F' m' → Sim K P F' m' h' H' → EnvR K F' m' σ e → Dn.bk σ H'
  | .ct e h' => ∀ σ F' m' H', Ext F m F' m' → Sim K P F' m' h' H' → EnvR K F' m' σ e → Dn.ct σ H'
  | .rt d h' => ∀ v F' m' H', Ext F m F' m' → Sim K P F' m' h' H' → Den K F' m' v d → Dn.rt v H'
  | .exc C p e h' => ∀ od σ F' m' H', Ext F m F' m' → Sim K P F' m' h' H' → PayD K F' m' p od → EnvR K F' m' σ e → W (.ref (He.ga K (Str.ofString C))) od σ H'
  | .bad => False
def rdS (K : PySem.W.Frag) (W : WX) (f : SS) : TS := fun Dn σ H => ∃ P F m e h, Sim K P F m h H ∧ EnvR K F m σ e ∧ FinS K P W Dn F m (f e h)
abbrev DS (X : Cx) (W : WX) (st : Stmt) (f : SS) : Prop := PS X st (rdS X.K W f)
abbrev DSs (X : Cx) (W : WX) (sts : List Stmt) (f : SS) : Prop := PSs X sts (rdS X.K W f)
/-- behind an expression -/
def Res.toS {α : Type} (r : Res α) (e : Env') (g : α → OH → SRes) : SRes := match r with
  | .ok a h => g a h
  | .exc C p h => .exc C p e h
  | .bad => .bad
@[simp] theorem Res.toS_ok {α : Type} (a : α) (h : OH) (e : Env') (g : α → OH → SRes) : (Res.ok a h).toS e g = g a h := rfl
@[simp] theorem Res.toS_bad {α : Type} (e : Env') (g : α → OH → SRes) : (Res.bad : Res α).toS e g = .bad := rfl
@[simp] theorem Res.toS_exc {α : Type} (C : String) (p : Pay) (h : OH) (e : Env') (g : α → OH → SRes) : (Res.exc C p h : Res α).toS e g = .exc C p e h := rfl
section
variable {K : PySem.W.Frag} {P : Pins} {W : WX} {σ : St} {F F' : Hp} {m m' : List Addr} {h : OH} {H : Hp} {e : Env'} {Dn : Ends}
theorem FinS.weak (x : Ext F m F' m') : ∀ {r : SRes}, FinS K P W Dn F m r → FinS K P W Dn F' m' r
  | .nx _ _, q => fun σ F2 m2 H2 y => q σ F2 m2 H2 (x.trans y)
  | .bk _ _, q => fun σ F2 m2 H2 y => q σ F2 m2 H2 (x.trans y)
  | .ct _ _, q => fun σ F2 m2 H2 y => q σ F2 m2 H2 (x.trans y)
  | .rt _ _, q => fun v F2 m2 H2 y => q v F2 m2 H2 (x.trans y)
  | .exc _ _ _ _, q => fun od σ F2 m2 H2 y => q od σ F2 m2 H2 (x.trans y)
  | .bad, q => q
/-- an expression, then more -/
theorem st_seq {α β : Type} {rel : Rel β α} {f : Env' → OH → Res α} {g : α → OH → SRes} {R : β → Hp → Prop} (S : Sim K P F m h H) (E : EnvR K F m σ e) (fin : FinS K P W Dn F m ((f e h).toS e g))
    (k : ∀ F' m' h' H' v a, Ext F m F' m' → Sim K P F' m' h' H' → EnvR K F' m' σ e → rel F' m' v a → FinS K P W Dn F' m' (g a h') → R v H') : rdG K W rel f σ H R := by
  refine ⟨P, F, m, e, h, S, E, ?_⟩
  cases q : f e h with
  | ok a h1 =>
    rw [q] at fin
    exact fun v F1 m1 H1 x S1 r => k F1 m1 h1 H1 v a x S1 (E.mono x) r (FinS.weak x fin)
  | exc C p h1 =>
    rw [q] at fin
    exact fun od F1 m1 H1 x S1 pd => fin od σ F1 m1 H1 x S1 pd (E.mono x)
  | bad =>
    rw [q] at fin
    exact fin.elim
theorem EnvR.set (E : EnvR K F m σ e) (i : Nat) {v : V} {d : D} (r : Den K F m v d) : EnvR K F m (σ.set i (some v)) (e.set i (some d)) := by
  refine ⟨by simp [E.len], fun j c q => ?_⟩
  by_cases hj : i = j
  · subst hj
    rw [List.getElem?_set] at q
    simp only [if_true] at q
    by_cases hi : i < e.length
    · rw [if_pos hi] at q
      simp only [Option.some.injEq] at q
      subst q
      exact ⟨v, by rw [List.getElem?_set_self (by rw [E.len]; exact hi)], r⟩
    · rw [if_neg hi] at q
      cases q
  · rw [List.getElem?_set_ne hj] at q
    obtain ⟨w, a, b⟩ := E.at_ j c q
    exact ⟨w, by rw [List.getElem?_set_ne hj]; exact a, b⟩
theorem EnvR.clr (E : EnvR K F m σ e) (i : Nat) : EnvR K F m (σ.set i none) (e.set i none) := by
  refine ⟨by simp [E.len], fun j c q => ?_⟩
  by_cases hj : i = j
  · subst hj
    rw [List.getElem?_set] at q
    simp only [if_true] at q
    split at q <;> cases q
  · rw [List.getElem?_set_ne hj] at q
    obtain ⟨w, a, b⟩ := E.at_ j c q
    exact ⟨w, by rw [List.getElem?_set_ne hj]; exact a, b⟩
def wipeD (e : Env') : List Nat → Env'
  | [] => e
  | v :: vs => (wipeD e vs).set v none
theorem EnvR.wipe (E : EnvR K F m σ e) : ∀ vs : List Nat, EnvR K F m (L2.wipe σ vs) (wipeD e vs)
  | [] => E
  | v :: vs => (E.wipe vs).clr v
end
theorem wipe_set {σ : St} {i : Nat} {x : Option V} : ∀ {vs : List Nat}, i ∈ vs → L2.wipe (σ.set i x) vs = L2.wipe σ vs
  | [], h => by simp at h
  | v :: vs, h => by
    show (L2.wipe (σ.set i x) vs).set v none = (L2.wipe σ vs).set v none
    by_cases hi : i ∈ vs
    · rw [wipe_set hi]
    · have hv : i = v := by
        rcases List.mem_cons.mp h with h | h
        · exact h
        · exact absurd h hi
      subst hv
      have comm : ∀ (ws : List Nat), i ∉ ws → L2.wipe (σ.set i x) ws = (L2.wipe σ ws).set i x := by
        intro ws
        induction ws with
        | nil => intro _; rfl
        | cons w ws ih =>
          intro hw
          simp only [List.mem_cons, not_or] at hw
          show (L2.wipe (σ.set i x) ws).set w none = ((L2.wipe σ ws).set w none).set i x
          rw [ih hw.2, List.set_comm _ _ (fun z => hw.1 z)]
      rw [comm vs hi, List.set_set]
section
variable {X : Cx} {W : WX}
theorem PS.of {st : Stmt} {t t' : TS} (h : PS X st t) (w : ∀ Dn σ H, t' Dn σ H → t Dn σ H) : PS X st t' := ⟨fun pins s σ H Dn I q => h.run pins s σ H Dn I (w Dn σ H q)⟩
theorem PSs.of {st : List Stmt} {t t' : TS} (h : PSs X st t) (w : ∀ Dn σ H, t' Dn σ H → t Dn σ H) : PSs X st t' := ⟨fun pins s σ H Dn I q => h.run pins s σ H Dn I (w Dn σ H q)⟩
def sNext : SS := fun e h => .nx e h
def sSeq (f g : SS) : SS := fun e h => match f e h with
  | .nx e1 h1 => g e1 h1
  | r => r
def sBreak : SS := fun e h => .bk e h
def sCont : SS := fun e h => .ct e h
def sExpr (f : SE) : SS := fun e h => (f e h).toS e fun _ h1 => .nx e h1
def sRet (f : SE) : SS := fun e h => (f e h).toS e fun d h1 => .rt d h1
def sRetN : SS := fun _ h => .rt .non h
def sSet (i : Nat) (f : SE) : SS := fun e h => (f e h).toS e fun d h1 => .nx (e.set i (some d)) h1
def sIfS (c : ST) (a b : SS) : SS := fun e h => (c e h).toS e fun t h1 => if t then a e h1 else b e h1
theorem ds_nil : DSs X W [] sNext := PSs.of pss_nil fun Dn σ H => by
  rintro ⟨P, F, m, e, h, S, E, fin⟩
  exact fin σ F m H .refl S E
theorem ds_cons {st : Stmt} {rest : List Stmt} {f g : SS} (h1 : DS X W st f) (h2 : DSs X W rest g) : DSs X W (st :: rest) (sSeq f g) := PSs.of (pss_cons h1 h2) fun Dn σ H => by
  rintro ⟨P, F, m, e, h, S, E, fin⟩
  refine ⟨P, F, m, e, h, S, E, ?_⟩
  unfold sSeq at fin
  cases q : f e h with
  | nx e1 h1 =>
    rw [q] at fin
    exact fun σ' F1 m1 H1 x S1 E1 => ⟨P, F1, m1, e1, h1, S1, E1, FinS.weak x fin⟩
  | bk e1 h1 => rw [q] at fin; exact fin
  | ct e1 h1 => rw [q] at fin; exact fin
  | rt d h1 => rw [q] at fin; exact fin
  | exc C p e1 h1 => rw [q] at fin; exact fin
  | bad => rw [q] at fin; exact fin
theorem ds_one {st : Stmt} {f : SS} (h1 : DS X W st f) : DSs X W [st] f := PSs.of (pss_one h1) fun Dn σ H q => q
theorem ds_break {pos : Pos} : DS X W (.Break pos) sBreak := PS.of ps_break fun Dn σ H => by
  rintro ⟨P, F, m, e, h, S, E, fin⟩
  exact fin σ F m H .refl S E
theorem ds_expr {a : Expr} {f : SE} {pos : Pos} (ha : DE X W a f) (hs : swapsWith a none pos.line X.env = pure false := by rfl) : DS X W (.Expr a pos) (sExpr f) := PS.of (ps_expr ha hs) fun Dn σ H => by
  rintro ⟨P, F, m, e, h, S, E, fin⟩
  exact st_seq S E fin fun F1 m1 h1 H1 v d x S1 E1 r fin1 => fin1 σ F1 m1 H1 .refl S1 E1
theorem ds_ret {a : Expr} {f : SE} {pos : Pos} (ha : DE X W a f) : DS X W (.Return (some a) pos) (sRet f) := PS.of (ps_ret ha) fun Dn σ H => by
  rintro ⟨P, F, m, e, h, S, E, fin⟩
  exact st_seq S E fin fun F1 m1 h1 H1 v d x S1 E1 r fin1 => fin1 v F1 m1 H1 .refl S1 r
theorem ds_set (i : Nat) {x : Str} {a : Expr} {f : SE} {pos pos' : Pos} (hN : X.N.Nodup) (ha : DE X W a f) (hi : X.N[i]? = some x := by rfl) (hx : Loc X.env.scope x := by first | exact Or.inl rfl | exact Or.inr rfl) (hs : swapsWith a (some (.Name x pos')) pos.line X.env = pure false := by rfl)
    (hf : X.fn x = true ∨ X.env.scope.names.lookup x = some .local := by first | exact .inl rfl | exact .inr rfl | assumption) : DS X W (.Assign [.Name x pos'] a pos) (sSet i f) := PS.of (ps_set hN hi hx ha hs hf) fun Dn σ H => by
  rintro ⟨P, F, m, e, h, S, E, fin⟩
  exact st_seq S E fin fun F1 m1 h1 H1 v d x S1 E1 r fin1 => fin1 _ F1 m1 H1 .refl S1 (E1.set i r)
theorem ds_if {c : Expr} {a b : List Stmt} {fc : ST} {fa fb : SS} {pos : Pos} (hc : DT X W c fc) (ha : DSs X W a fa) (hb : DSs X W b fb) : DS X W (.If c a b pos) (sIfS fc fa fb) := PS.of (ps_if hc ha hb) fun Dn σ H => by
  rintro ⟨P, F, m, e, h, S, E, fin⟩
  refine st_seq S E fin fun F1 m1 h1 H1 v d x S1 E1 r fin1 => ?_
  have r : v = d := r
  subst r
  cases v with
  | true => exact ⟨P, F1, m1, e, h1, S1, E1, fin1⟩
  | false => exact ⟨P, F1, m1, e, h1, S1, E1, fin1⟩
/-! ### targets -/
abbrev TF := D → Env' → OH → Option Env'
def rdTG (K : PySem.W.Frag) (vs : List Nat) (g : TF) : TG := fun v σ H Q => ∃ P F m e h d, Sim K P F m h H ∧ EnvR K F m σ e ∧ Den K F m v d ∧ ∃ e', g d e h = some e' ∧ ∀ σ', EnvR K F m σ' e' → L2.wipe σ' vs = L2.wipe σ vs → Q σ' H
abbrev DG (X : Cx) (vs : List Nat) (tg : Expr) (g : TF) : Prop := PG X tg (rdTG X.K vs g)
abbrev TFs := List D → Env' → OH → Option Env'
def rdTGs (K : PySem.W.Frag) (vs : List Nat) (g : TFs) : TGs := fun ws σ H Q => ∃ P F m e h ds, Sim K P F m h H ∧ EnvR K F m σ e ∧ DenL K F m ws ds ∧ ∃ e', g ds e h = some e' ∧ ∀ σ', EnvR K F m σ' e' → L2.wipe σ' vs = L2.wipe σ vs → Q σ' H
abbrev DGs (X : Cx) (vs : List Nat) (ts : List Expr) (g : TFs) : Prop := PGs X ts (rdTGs X.K vs g)
theorem PG.of {tg : Expr} {t t' : TG} (h : PG X tg t) (w : ∀ v σ H Q, t' v σ H Q → t v σ H Q) : PG X tg t' := ⟨fun pins s σ H v u Q I r q => h.run pins s σ H v u Q I r (w v σ H Q q)⟩
theorem PGs.of {ts : List Expr} {t t' : TGs} (h : PGs X ts t) (w : ∀ v σ H Q, t' v σ H Q → t v σ H Q) : PGs X ts t' := ⟨fun pins s σ H v u Q I r q => h.run pins s σ H v u Q I r (w v σ H Q q)⟩
theorem pgOr {tg : Expr} {t t' : TG} (h : PG X tg t) (h' : PG X tg t') : PG X tg (fun v σ H Q => t v σ H Q ∨ t' v σ H Q) := ⟨fun pins s σ H v u Q I r q => q.elim (h.run pins s σ H v u Q I r) (h'.run pins s σ H v u Q I r)⟩
def gN (i : Nat) : TF := fun d e _ => some (e.set i (some d))
def gNl : TFs := fun ds e _ => match ds with
  | [] => some e
  | _ => none
def gCs (g : TF) (r : TFs) : TFs := fun ds e h => match ds with
  | d :: ds => (g d e h).bind fun e1 => r ds e1 h
  | [] => none
/-- a tuple or a list of n -/
def gT (n : Nat) (g : TFs) : TF := fun d e h => match seqAt h d with
  | some xs => if xs.length = n then g xs e h else none
  | none => none
theorem dg_name (i : Nat) {x : Str} {pos : Pos} {vs : List Nat} (hN : X.N.Nodup) (hi : X.N[i]? = some x := by rfl) (hx : Loc X.env.scope x := by first | exact Or.inl rfl | exact Or.inr rfl) (hv : i ∈ vs := by simp) (hf : X.fn x = true ∨ X.env.scope.names.lookup x = some .local := by first | exact .inl rfl | exact .inr rfl | assumption) : DG X vs (.Name x pos) (gN i) :=
  PG.of (pg_name hN hi hx hf) fun v σ H Q => by
    rintro ⟨P, F, m, e, h, d, S, E, r, e', q, k⟩
    cases q
    exact k _ (E.set i r) (wipe_set hv)
theorem dg_nil {vs : List Nat} : DGs X vs [] gNl := PGs.of pgs_nil fun v σ H Q => by
  rintro ⟨P, F, m, e, h, ds, S, E, r, e', q, k⟩
  cases r with
  | nil =>
    cases q
    exact ⟨rfl, k σ E rfl⟩
  | cons _ _ => cases q
theorem dg_cons {t : Expr} {ts : List Expr} {vs : List Nat} {g : TF} {gr : TFs} (h1 : DG X vs t g) (h2 : DGs X vs ts gr) (hs : (assignEach (t :: ts) X.env).map (·.2) = assign t X.env :: (assignEach ts X.env).map (·.2) := by rfl) : DGs X vs (t :: ts) (gCs g gr) := PGs.of (pgs_cons h1 h2 hs) fun v σ H Q => by
  rintro ⟨P, F, m, e, h, ds, S, E, r, e', q, k⟩
  cases r with
  | nil => cases q
  | @cons v d ws ds a b =>
    simp only [gCs, Option.bind_eq_some_iff] at q
    obtain ⟨e1, q1, q2⟩ := q
    exact ⟨v, ws, rfl, P, F, m, e, h, d, S, E, a, e1, q1, fun σ1 E1 w1 => ⟨P, F, m, e1, h, ds, S, E1, b, e', q2, fun σ2 E2 w2 => k σ2 E2 (w2.trans w1)⟩⟩
theorem dg_tup {ts : List Expr} {n j : Nat} {vs : List Nat} {pos : Pos} {gr : TFs} (hc : X.calm = true) (h : DGs X vs ts gr) (hn : ts.length = n := by rfl) (h1 : PG X (.Tuple ts j pos) (gTup X.K n (rdTGs X.K vs gr))) (h2 : PG X (.Tuple ts j pos) (gLst X.K n (rdTGs X.K vs gr))) : DG X vs (.Tuple ts j pos) (gT n gr) :=
  PG.of (pgOr h1 h2) fun v σ H Q => by
    rintro ⟨P, F, m, e, h, d, S, E, r, e', q, k⟩
    unfold gT at q
    cases q1 : seqAt h d with
    | none => rw [q1] at q; cases q
    | some xs =>
      rw [q1] at q
      dsimp only at q
      by_cases hz : xs.length = n
      · rw [if_pos hz] at q
        obtain ⟨a, ws, rfl, ha, rl⟩ := seqAt_ok S r q1
        have body : rdTGs X.K vs gr ws σ H Q := ⟨P, F, m, e, h, xs, S, E, rl, e', q, k⟩
        rcases ha with ha | ha
        · exact .inr ⟨a, ws, rfl, ha, by rw [rl.length]; exact hz, body⟩
        · exact .inl ⟨a, ws, rfl, ha, by rw [rl.length]; exact hz, body⟩
      · rw [if_neg hz] at q
        cases q
/-- target = e, a tuple of names -/
def sAsg (g : TF) (f : SE) : SS := fun e h => (f e h).toS e fun d h1 => match g d e h1 with
  | some e1 => .nx e1 h1
  | none => .bad
theorem ds_asg {tg a : Expr} {vs : List Nat} {g : TF} {f : SE} {pos : Pos} (ha : DE X W a f) (hg : DG X vs tg g) (hs : swapsWithSole [tg] a pos.line X.env = pure false := by rfl) (hw : swappedStores [tg] a X.env = pure none := by rfl) (h1 : (assignEach [tg] X.env).map (·.2) = [assign tg X.env] := by rfl) : DS X W (.Assign [tg] a pos) (sAsg g f) :=
  PS.of (ps_asg ha hg hs hw h1) fun Dn σ H => by
    rintro ⟨P, F, m, e, h, S, E, fin⟩
    refine st_seq S E fin fun F1 m1 h1 H1 v d x S1 E1 r fin1 => ?_
    cases q : g d e h1 with
    | none => rw [q] at fin1; exact fin1.elim
    | some e1 =>
      rw [q] at fin1
      exact ⟨P, F1, m1, e, h1, d, S1, E1, r, e1, q, fun σ' E' _ => fin1 σ' F1 m1 H1 .refl S1 E'⟩
/-- a, b = x, y -/
def sPar (i j : Nat) (f : SA) : SS := fun e h => (f e h).toS e fun ds h1 => match ds with
  | [x, y] => .nx ((e.set i (some x)).set j (some y)) h1
  | _ => .bad
theorem ds_par {i j : Nat} {x y : Str} {a b : Expr} {fa : SA} {px py pt : Pos} {kt k2 : Nat} {pt2 pos : Pos} (hc : X.calm = true) (hN : X.N.Nodup) (ha : DA X W [a, b] fa) (hi : X.N[i]? = some x := by rfl) (hj : X.N[j]? = some y := by rfl) (hij : i ≠ j := by decide)
    (hx : X.env.scope.names.lookup x = some .local := by rfl) (hy : X.env.scope.names.lookup y = some .local := by rfl)
    (hw : swappedStores [.Tuple [.Name x px, .Name y py] kt pt] (.Tuple [a, b] k2 pt2) X.env = pure (some [x, y]) := by rfl)
    (hs : swapsWithSole [.Tuple [.Name x px, .Name y py] kt pt] (.Tuple [a, b] k2 pt2) pos.line X.env = pure false := by rfl) : DS X W (.Assign [.Tuple [.Name x px, .Name y py] kt pt] (.Tuple [a, b] k2 pt2) pos) (sPar i j fa) :=
  PS.of (ps_par hc hN hi hj hij hx hy ha hw hs) fun Dn σ H => by
    rintro ⟨P, F, m, e, h, S, E, fin⟩
    refine st_seq S E fin fun F1 m1 h1 H1 v d x S1 E1 r fin1 => ?_
    match d, r, fin1 with
    | [c1, c2], r, fin1 =>
      obtain ⟨v1, v2, rfl, r1, r2⟩ := denL2 r
      exact ⟨v1, v2, rfl, fin1 _ F1 m1 H1 .refl S1 ((E1.set i r1).set j r2)⟩
    | [], _, fin1 => exact fin1.elim
    | [_], _, fin1 => exact fin1.elim
    | _ :: _ :: _ :: _, _, fin1 => exact fin1.elim
/-! ### x op= e -/
def sAug (i : Nat) (g : D → D → OH → Res D) (f : SE) : SS := fun e h => match e[i]? with
  | some (some x) => (f e h).toS e fun y h1 => (g x y h1).toS e fun z h2 => .nx (e.set i (some z)) h2
  | _ => .bad
theorem ds_augI (i : Nat) {x : Str} {a : Expr} {f : SE} {op : Operator} {k : Int → Int → Int} {pos pos' : Pos} (hN : X.N.Nodup) (ho : PIp X op (ipI k)) (ha : DE X W a f) (hi : X.N[i]? = some x := by rfl) (hx : Loc X.env.scope x := by first | exact Or.inl rfl | exact Or.inr rfl)
    (hf : X.fn x = true ∨ X.env.scope.names.lookup x = some .local := by first | exact .inl rfl | exact .inr rfl | assumption) : DS X W (.AugAssign (.Name x pos') op a pos) (sAug i (opI2 (fun i j => .int (k i j)) fun _ _ => true) f) := PS.of (ps_aug hN hi hx ha ho hf) fun Dn σ H => by
  rintro ⟨P, F, m, e, h, S, E, fin⟩
  unfold sAug at fin
  cases q : e[i]? with
  | none => rw [q] at fin; exact fin.elim
  | some o =>
    cases o with
    | none => rw [q] at fin; exact fin.elim
    | some d =>
      rw [q] at fin
      obtain ⟨v, e1, r⟩ := E.at_ i d q
      refine ⟨v, e1, st_seq S E fin fun F1 m1 h1 H1 w d2 x S1 E1 r2 fin1 => ?_⟩
      cases r with
      | int n =>
        cases r2 with
        | int n2 => exact ⟨n, n2, rfl, rfl, fin1 _ F1 m1 H1 .refl S1 (E1.set i (.int _))⟩
        | _ => exact fin1.elim
      | _ => exact fin1.elim
/-- o.f = e -/
def sFldS (C f : String) (o v : SE) : SS := fun e h => (v e h).toS e fun y h1 => (o e h1).toS e fun x h2 => match x with
  | .ref i => (match h2[i]? with
    | some (.ins C' fs) => if C' = C ∧ fs.length < 900 then .nx e (h2.set i (.ins C (putS f y fs))) else .bad
    | _ => .bad)
  | _ => .bad
theorem putF_den {K : PySem.W.Frag} {F : Hp} {m : List Addr} {f : String} {v : V} {d : D} (r : Den K F m v d) : ∀ {fv : List (Str × V)} {fs : List (String × D)}, DenF K F m fv fs → DenF K F m (putF (Str.ofString f) v fv) (putS f d fs)
  | _, _, .nil => .cons r .nil
  | _, _, .cons (f := g) (d := d0) h t => by
    unfold putF putS
    by_cases e : g = f
    · subst e
      rw [if_pos rfl]
      first
        | (rw [if_pos rfl]; exact .cons r t)
        | (simp only [beq_self_eq_true, if_true]; exact .cons r t)
    · have e2 : ¬ Str.ofString g = Str.ofString f := fun z => e (ofString_inj z)
      rw [if_neg e]
      first
        | (rw [if_neg e2]; exact .cons h (putF_den r t))
        | (rw [if_neg (fun z => e2 z.symm)]; exact .cons h (putF_den r t))
theorem putS_keys {f : String} {d : D} : ∀ {fs : List (String × D)} {q : String × D}, q ∈ putS f d fs → q.1 = f ∨ ∃ p ∈ fs, p.1 = q.1
  | [], q, h => by
    simp only [putS, List.mem_singleton] at h
    subst h
    exact .inl rfl
  | (g, x) :: r, q, h => by
    unfold putS at h
    by_cases e : g = f
    · rw [if_pos e] at h
      rcases List.mem_cons.mp h with h | h
      · subst h; exact .inl e
      · exact .inr ⟨q, List.mem_cons_of_mem _ h, rfl⟩
    · rw [if_neg e] at h
      rcases List.mem_cons.mp h with h | h
      · subst h; exact .inr ⟨(g, x), List.mem_cons_self, rfl⟩
      · rcases putS_keys h with h | ⟨p, hp, e2⟩
        · exact .inl h
        · exact .inr ⟨p, List.mem_cons_of_mem _ hp, e2⟩
theorem DenF.length {K : PySem.W.Frag} {F : Hp} {m : List Addr} : ∀ {fv : List (Str × V)} {fs : List (String × D)}, DenF K F m fv fs → fv.length = fs.length
  | _, _, .nil => rfl
  | _, _, .cons _ t => by rw [List.length_cons, List.length_cons, DenF.length t]
theorem ds_fld {o a : Expr} {C f : String} {fo fa : SE} {pos pos' : Pos} (hn : NoAttr X.K (He.ga X.K (Str.ofString C)) (Str.ofString f)) (ho : DE X W o fo) (ha : DE X W a fa) (hs : swapsWith a (some (.Attribute o (Str.ofString f) pos')) pos.line X.env = pure false := by rfl) :
    DS X W (.Assign [.Attribute o (Str.ofString f) pos'] a pos) (sFldS C f fo fa) := PS.of (ps_fld ho ha hs) fun Dn σ H => by
  rintro ⟨P, F, m, e, h, S, E, fin⟩
  refine st_seq S E fin fun F1 m1 h1 H1 y dy x1 S1 E1 ry fin1 => ?_
  refine st_seq S1 E1 fin1 fun F2 m2 h2 H2 x dx x2 S2 E2 rx fin2 => ?_
  cases rx with
  | @ref b i e1 =>
    obtain ⟨ob, k1, k2⟩ := S2.own e1
    dsimp only at fin2
    rw [k1] at fin2
    cases ob with
    | ins C' fs =>
      dsimp only at fin2
      by_cases hz : C' = C ∧ fs.length < 900
      · rw [if_pos hz] at fin2
        obtain ⟨rfl, hl⟩ := hz
        obtain ⟨dx2, fv, k3, k4, k5, k6⟩ := k2
        have rd := putF_den (f := f) (ry.mono x2) k5
        refine ⟨b, _, dx2, fv, rfl, k3, k4.1, hn, by rw [k5.length]; omega, fin2 σ F2 m2 _ .refl (S2.write e1 k1 k6 ⟨dx2, _, upd_same, ⟨k4.1, fun q hq => ?_⟩, rd, k6⟩) E2⟩
        rcases putS_keys hq with h | ⟨p, hp, e2⟩
        · rw [h]; exact hn
        · rw [← e2]; exact k4.2 p hp
      · rw [if_neg hz] at fin2
        exact fin2.elim
    | _ => exact fin2.elim
  | _ => exact fin2.elim
/-- x[i] = e, x an own list -/
def sIxS (o i v : SE) : SS := fun e h => (v e h).toS e fun y h1 => (o e h1).toS e fun x h2 => (i e h2).toS e fun k h3 => match x, k with
  | .ref n, .int j => (match h3[n]? with
    | some (.lst xs) => (match ixN xs.length j with
      | some q => .nx e (h3.set n (.lst (xs.set q y)))
      | none => .bad)
    | _ => .bad)
  | _, _ => .bad
theorem ds_ix {o i a : Expr} {fo fi fa : SE} {pos pos' : Pos} (ho : DE X W o fo) (hi : DE X W i fi) (ha : DE X W a fa)
    (hg : PG X (.Subscript o i pos') (gSub (rdG X.K W (Den X.K) fo) (rdG X.K W (Den X.K) fi) rSetL)) (hs : swapsWithSole [.Subscript o i pos'] a pos.line X.env = pure false := by rfl) (hw : swappedStores [.Subscript o i pos'] a X.env = pure none := by rfl) (h1 : (assignEach [.Subscript o i pos'] X.env).map (·.2) = [assign (.Subscript o i pos') X.env] := by rfl) :
    DS X W (.Assign [.Subscript o i pos'] a pos) (sIxS fo fi fa) := PS.of (ps_asg ha hg hs hw h1) fun Dn σ H => by
  rintro ⟨P, F, m, e, h, S, E, fin⟩
  refine st_seq S E fin fun F1 m1 h1 H1 y dy x1 S1 E1 ry fin1 => ?_
  refine st_seq S1 E1 fin1 fun F2 m2 h2 H2 x dx x2 S2 E2 rx fin2 => ?_
  refine st_seq S2 E2 fin2 fun F3 m3 h3 H3 z dz x3 S3 E3 rz fin3 => ?_
  cases rx with
  | @ref b n e1 =>
    cases rz with
    | int j =>
      have e2 := pre_get x3.p e1
      obtain ⟨ob, k1, k2⟩ := S3.own e2
      dsimp only at fin3
      rw [k1] at fin3
      cases ob with
      | lst xs =>
        dsimp only at fin3
        obtain ⟨vs, k3, k4, k5⟩ := k2
        cases q : ixN xs.length j with
        | none => rw [q] at fin3; exact fin3.elim
        | some t =>
          rw [q] at fin3
          exact ⟨b, vs, j, t, rfl, rfl, k3, by rw [k4.length]; exact q, fin3 σ F3 m3 _ .refl (S3.write e2 k1 k5 ⟨_, upd_same, k4.set (ry.mono (x2.trans x3)) t, k5⟩) E3⟩
      | _ => exact fin3.elim
    | _ => exact fin3.elim
  | _ => cases dz <;> exact fin3.elim
/-! ### while -/
def whileF (c : ST) (b : SS) : Nat → SS
  | 0 => fun _ _ => .bad
  | n + 1 => fun e h => (c e h).toS e fun t h1 => if t then (match b e h1 with
    | .nx e2 h2 => whileF c b n e2 h2
    | .ct e2 h2 => whileF c b n e2 h2
    | .bk e2 h2 => .nx e2 h2
    | r => r) else .nx e h1
theorem ds_while {c : Expr} {body : List Stmt} {fc : ST} {fb : SS} {pos : Pos} (hp : PassesOwn (model X.prog X.w) X.A X.env X.xe) (n : Env' → OH → Nat) (hc : DT X W c fc) (hb : DSs X W body fb) : DS X W (.While c body [] pos) (fun e h => whileF fc fb (n e h) e h) := PS.of (ps_while hp hc hb) fun Dn σ H => by
  rintro ⟨P0, F0, m0, e0, h0, S0, E0, fin0⟩
  refine ⟨fun k σ H => ∃ P F m e h, Sim X.K P F m h H ∧ EnvR X.K F m σ e ∧ FinS X.K P W Dn F m (whileF fc fb k e h), ⟨n e0 h0, P0, F0, m0, e0, h0, S0, E0, fin0⟩, ?_⟩
  rintro k σ H ⟨P, F, m, e, h, S, E, fin⟩
  cases k with
  | zero => exact fin.elim
  | succ k =>
    refine st_seq S E fin fun F1 m1 h1 H1 v d x S1 E1 r fin1 => ?_
    have r : v = d := r
    subst r
    cases v with
    | false => exact fin1 σ F1 m1 H1 .refl S1 E1
    | true =>
      refine ⟨fun σ H => ∃ P F m e h, Sim X.K P F m h H ∧ EnvR X.K F m σ e ∧ FinS X.K P W Dn F m (whileF fc fb k e h), fun σ' H' q => ⟨k, Nat.lt_succ_self k, q⟩, P, F1, m1, e, h1, S1, E1, ?_⟩
      simp only [if_true] at fin1
      cases q : fb e h1 with
      | nx e2 h2 => rw [q] at fin1; exact fun σ2 F2 m2 H2 x2 S2 E2 => ⟨P, F2, m2, e2, h2, S2, E2, FinS.weak x2 fin1⟩
      | ct e2 h2 => rw [q] at fin1; exact fun σ2 F2 m2 H2 x2 S2 E2 => ⟨P, F2, m2, e2, h2, S2, E2, FinS.weak x2 fin1⟩
      | bk e2 h2 => rw [q] at fin1; exact fin1
      | rt d h2 => rw [q] at fin1; exact fin1
      | exc C p e2 h2 => rw [q] at fin1; exact fin1
      | bad => rw [q] at fin1; exact fin1
end
end HR
set_option Elab.async false
set_option linter.all false
set_option maxRecDepth 100000
set_option maxHeartbeats 2000000
/-! LayF: what is walked, for, comprehensions, defs and their calls, the law's end. -/
namespace HR
open PySem L2
open PyProof.Rows (envOfC)
/-- the iterator J gives ds -/
def Walks (K : PySem.W.Frag) (F0 : Hp) (m0 : List Addr) (J : It) (ds : List D) : Prop :=
  ∀ (P : Pins) (F : Hp) (m : List Addr) (h : OH) (H : Hp) (i : Nat), Ext F0 m0 F m → Sim K P F m h H →
    (i < ds.length → J.go i H ∧ ∀ x H', J.yld i H x H' → ∃ F', Ext F m F' m ∧ Sim K P F' m h H' ∧ ∃ d, ds[i]? = some d ∧ Den K F' m x d) ∧ (ds.length ≤ i → J.stop i H)
abbrev relI (K : PySem.W.Frag) : Rel It (List D) := fun F m J ds => Walks K F m J ds
abbrev DI (X : Cx) (W : WX) (tg iter : Expr) (f : SA) : Prop := PI X tg iter (rdG X.K W (relI X.K) f)
theorem Walks.mono {K : PySem.W.Frag} {F F' : Hp} {m m' : List Addr} {J : It} {ds : List D} (x : Ext F m F' m') (w : Walks K F m J ds) : Walks K F' m' J ds := fun P F2 m2 h H i y S => w P F2 m2 h H i (x.trans y) S
theorem PI.of {X : Cx} {tg iter : Expr} {w w' : TI} (h : PI X tg iter w) (k : ∀ σ H R, w' σ H R → w σ H R) : PI X tg iter w' := ⟨fun pins s σ H R I q => h.run pins s σ H R I (k σ H R q)⟩
section
variable {X : Cx} {W : WX}
/-- what a for takes from a frozen list or tuple -/
def frzAt : D → Option (List D)
  | .lst xs => some xs
  | .scr xs => some xs
  | _ => none
theorem den_sq {K : PySem.W.Frag} {F : Hp} {m : List Addr} {v : V} {d : D} {xs : List D} (r : Den K F m v d) (q : frzAt d = some xs) : ∃ a vs, v = .ref a ∧ SqL K F a vs ∧ DenL K F m vs xs := by
  cases r with
  | lst e t => cases q; exact ⟨_, _, rfl, .inl (.inl e), t⟩
  | scr e t => cases q; exact ⟨_, _, rfl, e, t⟩
  | _ => cases q
theorem walks_list {K : PySem.W.Frag} {F : Hp} {m : List Addr} {a : Addr} {vs : List V} {xs : List D} (q : SqL K F a vs) (r : DenL K F m vs xs) : Walks K F m (Itl K a) xs := by
  intro P F2 m2 h H i x S
  have q2 : SqL K H a vs := S.sub.seq (x.s.seq q)
  refine ⟨fun hi => ?_, fun hi => ⟨vs, q2, by rw [r.length]; exact hi⟩⟩
  have hv : i < vs.length := by rw [r.length]; exact hi
  refine ⟨⟨vs, vs[i], q2, List.getElem?_eq_getElem hv⟩, fun y H' yl => ?_⟩
  obtain ⟨rfl, yl⟩ := yl
  obtain ⟨d, e1, r1⟩ := r.getV (yl vs q2)
  exact ⟨F2, .refl, S, d, e1, r1.mono x⟩
theorem walks_tup {K : PySem.W.Frag} {F : Hp} {m : List Addr} {a : Addr} {vs : List V} {xs : List D} (q : SqT K F a vs) (r : DenL K F m vs xs) : Walks K F m (Itt K a) xs := by
  intro P F2 m2 h H i x S
  have q2 : SqT K H a vs := Same.sqT S.sub (Same.sqT x.s q)
  refine ⟨fun hi => ?_, fun hi => ⟨vs, q2, by rw [r.length]; exact hi⟩⟩
  have hv : i < vs.length := by rw [r.length]; exact hi
  refine ⟨⟨vs, vs[i], q2, List.getElem?_eq_getElem hv⟩, fun y H' yl => ?_⟩
  obtain ⟨rfl, yl⟩ := yl
  obtain ⟨d, e1, r1⟩ := r.getV (yl vs q2)
  exact ⟨F2, .refl, S, d, e1, r1.mono x⟩
def rngD (lo : Int) (n : Nat) : List D := (List.range n).map fun (k : Nat) => D.int (lo + k)
theorem walks_rng {K : PySem.W.Frag} {F : Hp} {m : List Addr} (lo : Int) (n : Nat) : Walks K F m (Itr lo n) (rngD lo n) := by
  intro P F2 m2 h H i x S
  have hl : (rngD lo n).length = n := by simp [rngD]
  rw [hl]
  refine ⟨fun hi => ⟨hi, fun y H' yl => ?_⟩, fun hi => hi⟩
  obtain ⟨rfl, rfl⟩ := yl
  exact ⟨F2, .refl, S, .int (lo + i), by simp [rngD, hi], .int _⟩
/-- a list or a tuple -/
def sItS (f : SE) : SA := fun e h => (f e h).bind fun d h1 => match d with
  | .tup xs => .ok xs h1
  | d => (match frzAt d with
    | some xs => .ok xs h1
    | none => .bad)
theorem pi_or {tg iter : Expr} {w w' : TI} (a : PI X tg iter w) (b : PI X tg iter w') : PI X tg iter (fun σ H R => w σ H R ∨ w' σ H R) := ⟨fun pins s σ H R I q => q.elim (a.run pins s σ H R I) (b.run pins s σ H R I)⟩
/-- what both walk: decided by the value (the expression is read once by either rule) -/
theorem di_seq {tg a : Expr} {f : SE} (ha : DE X W a f) : DI X W tg a (sItS f) := PI.of (pi_or (pi_list ha) (pi_tup ha)) fun σ H R => by
  rintro ⟨P, F, m, e, h, S, E, fin⟩
  cases q : f e h with
  | bad => unfold sItS at fin; rw [q] at fin; exact fin.elim
  | exc C p h1 =>
    unfold sItS at fin
    rw [q] at fin
    exact .inl ⟨P, F, m, e, h, S, E, by rw [q]; exact fin⟩
  | ok d h1 =>
    unfold sItS at fin
    rw [q] at fin
    simp only [Res.bind_ok] at fin
    cases d with
    | tup xs =>
      refine .inr ⟨P, F, m, e, h, S, E, ?_⟩
      rw [q]
      intro v F1 m1 H1 x S1 r
      cases r with
      | @tup b vs ds q rl => exact ⟨b, rfl, ⟨vs, Same.sqT S1.sub q⟩, FinG.okX fin x S1 (walks_tup q rl)⟩
    | _ =>
      refine .inl ⟨P, F, m, e, h, S, E, ?_⟩
      rw [q]
      intro v F1 m1 H1 x S1 r
      first
        | exact False.elim fin
        | (obtain ⟨b, vs, rfl, hb, rl⟩ := den_sq r rfl
           exact ⟨b, rfl, ⟨vs, S1.sub.seq hb⟩, FinG.okX fin x S1 (walks_list hb rl)⟩)
def rngOk (i : Int) : Bool := decide (-(2 ^ 62) ≤ i) && decide (i < 2 ^ 62)
def sRng1 (a : SE) : SA := fun e h => (a e h).bind fun d h1 => match d with
  | .int j => if rngOk j then .ok (rngD 0 j.toNat) h1 else .bad
  | _ => .bad
def sRng2 (a b : SE) : SA := fun e h => (a e h).bind fun d h1 => (b e h1).bind fun d2 h2 => match d, d2 with
  | .int i, .int j => if rngOk i && rngOk j then .ok (rngD i (j - i).toNat) h2 else .bad
  | _, _ => .bad
theorem rngOk_ok {i : Int} (h : rngOk i = true) : -(2 ^ 62) ≤ i ∧ i < 2 ^ 62 := by
  unfold rngOk at h
  simpa using h
theorem di_rng1 {tg a : Expr} {f : SE} {p pos : Pos} (hg : Gl X "range") (hm : X.mg "range" = none) (ha : DE X W a f) (he : starEach [a] X.env = (false, eval a X.env) :: starEach [] X.env := by rfl) (hs : starEach [a] X.env = [(false, eval a X.env)] := by rfl) : DI X W tg (.Call (.Name "range" p) [a] [] pos) (sRng1 f) :=
  PI.of (pi_range1 hg hm (da_cons ha da_nil he) hs) fun σ H R => by
    rintro ⟨P, F, m, e, h, S, E, fin⟩
    refine ⟨P, F, m, e, h, S, E, ?_⟩
    unfold sRng1 at fin
    unfold sCons sNil
    cases q : f e h with
    | bad => rw [q] at fin; exact fin.elim
    | exc C p h1 => rw [q] at fin; exact fin
    | ok d h1 =>
      rw [q] at fin
      simp only [Res.bind_ok] at fin ⊢
      intro vs F1 m1 H1 x S1 r
      obtain ⟨v, rfl, r1⟩ := denL1 r
      cases d with
      | int j =>
        cases den_int r1
        dsimp only at fin
        by_cases hk : rngOk j = true
        · rw [if_pos hk] at fin
          have k := rngOk_ok hk
          exact ⟨j, rfl, k.1, k.2, FinG.okX fin x S1 (walks_rng 0 _)⟩
        · rw [if_neg hk] at fin
          exact fin.elim
      | _ => exact False.elim fin
theorem di_rng2 {tg a b : Expr} {f g : SE} {p pos : Pos} (hg : Gl X "range") (hm : X.mg "range" = none) (ha : DE X W a f) (hb : DE X W b g) (he : starEach [a, b] X.env = (false, eval a X.env) :: starEach [b] X.env := by rfl) (he2 : starEach [b] X.env = (false, eval b X.env) :: starEach [] X.env := by rfl)
    (hs : starEach [a, b] X.env = [(false, eval a X.env), (false, eval b X.env)] := by rfl) (hs2 : starEach [b] X.env = [(false, eval b X.env)] := by rfl) : DI X W tg (.Call (.Name "range" p) [a, b] [] pos) (sRng2 f g) :=
  PI.of (pi_range2 hg hm (da_cons ha (da_cons hb da_nil he2) he) hs hs2) fun σ H R => by
    rintro ⟨P, F, m, e, h, S, E, fin⟩
    refine ⟨P, F, m, e, h, S, E, ?_⟩
    unfold sRng2 at fin
    unfold sCons sNil
    cases q : f e h with
    | bad => rw [q] at fin; exact fin.elim
    | exc C p h1 => rw [q] at fin; exact fin
    | ok d h1 =>
      rw [q] at fin
      simp only [Res.bind_ok] at fin ⊢
      cases q2 : g e h1 with
      | bad => rw [q2] at fin; exact fin.elim
      | exc C p h2 => rw [q2] at fin; exact fin
      | ok d2 h2 =>
        rw [q2] at fin
        simp only [Res.bind_ok] at fin ⊢
        intro vs F1 m1 H1 x S1 r
        obtain ⟨v, v2, rfl, r1, r2⟩ := denL2 r
        cases d with
        | int i =>
          cases d2 with
          | int j =>
            cases den_int r1
            cases den_int r2
            dsimp only at fin
            by_cases hk : (rngOk i && rngOk j) = true
            · rw [if_pos hk] at fin
              obtain ⟨k1, k2⟩ := and2 hk
              have k1 := rngOk_ok k1
              have k2 := rngOk_ok k2
              exact ⟨i, j, rfl, ⟨k1.1, k1.2, k2.1, k2.2⟩, FinG.okX fin x S1 (walks_rng i _)⟩
            · rw [if_neg hk] at fin
              exact fin.elim
          | _ => exact False.elim fin
        | _ => cases d2 <;> exact False.elim fin
/-! ### for -/
def forL (g : TF) (b : SS) : List D → SS
  | [] => fun e h => .nx e h
  | d :: ds => fun e h => match g d e h with
    | none => .bad
    | some e1 => (match b e1 h with
      | .nx e2 h2 => forL g b ds e2 h2
      | .ct e2 h2 => forL g b ds e2 h2
      | .bk e2 h2 => .nx e2 h2
      | r => r)
def sFor (it : SA) (g : TF) (b : SS) : SS := fun e h => (it e h).toS e fun ds h1 => forL g b ds e h1
theorem ds_for {tg iter : Expr} {body : List Stmt} {pos : Pos} {it : SA} {vs : List Nat} {g : TF} {b : SS} (hp : PassesOwn (model X.prog X.w) X.A X.env X.xe) (hc : X.calm = true) (hi : DI X W tg iter it) (hg : DG X vs tg g) (hb : DSs X W body b) (hs : ∀ x, foldedSetIterable iter X.env x = pure x := by intro _; rfl) :
    DS X W (.For tg iter body [] pos) (sFor it g b) := PS.of (ps_for hp hc hi hg hb hs) fun Dn σ H => by
  rintro ⟨P0, F0, m0, e0, h0, S0, E0, fin0⟩
  refine st_seq S0 E0 fin0 fun F1 m1 h1 H1 J ds x1 S1 E1 wk fin1 => ?_
  let Wd : Nat → Nat → St → Hp → Prop := fun i n σ H => ∃ P F m e h, Sim X.K P F m h H ∧ EnvR X.K F m σ e ∧ Ext F1 m1 F m ∧ n = (ds.drop i).length ∧ FinS X.K P W Dn F m (forL g b (ds.drop i) e h)
  refine ⟨Wd, ⟨ds.length, P0, F1, m1, e0, h1, S1, E1, .refl, by simp, by simpa using fin1⟩, ?_⟩
  rintro i n σ H ⟨P, F, m, e, h, S, E, x, rfl, fin⟩
  obtain ⟨w1, w2⟩ := wk P F m h H i x S
  by_cases hi : i < ds.length
  · obtain ⟨go, yl⟩ := w1 hi
    have dr : ds.drop i = ds[i] :: ds.drop (i + 1) := List.drop_eq_getElem_cons hi
    rw [dr] at fin
    refine .inr ⟨go, fun σ' H' => Wd (i + 1) (ds.drop (i + 1)).length σ' H', fun σ' H' q => ⟨_, by rw [dr]; exact Nat.lt_succ_self _, q⟩, fun y H' hy => ?_⟩
    obtain ⟨F2, x2, S2, d, e1, r⟩ := yl y H' hy
    have ed : d = ds[i] := by
      rw [List.getElem?_eq_getElem hi] at e1
      exact (Option.some.inj e1).symm
    subst ed
    simp only [forL] at fin
    cases q : g ds[i] e h with
    | none => rw [q] at fin; exact fin.elim
    | some e2 =>
      rw [q] at fin
      refine ⟨P, F2, m, e, h, _, S2, E.mono x2, r, e2, q, fun σ' E' _ => ⟨P, F2, m, e2, h, S2, E', ?_⟩⟩
      dsimp only at fin
      cases q3 : b e2 h with
      | nx e3 h3 => rw [q3] at fin; exact fun σ3 F3 m3 H3 x3 S3 E3 => ⟨P, F3, m3, e3, h3, S3, E3, x.trans (x2.trans x3), rfl, FinS.weak (x2.trans x3) fin⟩
      | ct e3 h3 => rw [q3] at fin; exact fun σ3 F3 m3 H3 x3 S3 E3 => ⟨P, F3, m3, e3, h3, S3, E3, x.trans (x2.trans x3), rfl, FinS.weak (x2.trans x3) fin⟩
      | bk e3 h3 => rw [q3] at fin; exact fun σ3 F3 m3 H3 x3 S3 E3 => fin σ3 F3 m3 H3 (x2.trans x3) S3 E3
      | rt d3 h3 => rw [q3] at fin; exact fun v F3 m3 H3 x3 S3 r3 => fin v F3 m3 H3 (x2.trans x3) S3 r3
      | exc C p e3 h3 => rw [q3] at fin; exact fun od σ3 F3 m3 H3 x3 S3 pd E3 => fin od σ3 F3 m3 H3 (x2.trans x3) S3 pd E3
      | bad => rw [q3] at fin; exact fin.elim
  · have hi2 : ds.length ≤ i := Nat.le_of_not_lt hi
    rw [List.drop_eq_nil_of_le hi2] at fin
    exact .inl ⟨w2 hi2, fin σ F m H .refl S E⟩
/-! ### comprehensions -/
def Res.noX {α : Type} : Res α → Res α
  | .ok a h => .ok a h
  | _ => .bad
def lcGo (g : TF) (tt : ST) (el : SE) (e : Env') : List D → OH → List D → Res (List D)
  | [], h, acc => .ok acc h
  | d :: ds, h, acc => match g d e h with
    | none => .bad
    | some e1 => (tt e1 h).noX.bind fun b h1 => if b then (el e1 h1).noX.bind fun y h2 => if acc.length < big then lcGo g tt el e ds h2 (acc ++ [y]) else .bad else lcGo g tt el e ds h1 acc
def sLc (own : Bool) (it : SA) (g : TF) (tt : ST) (el : SE) (vs : List Nat) : SE := fun e h => (it e h).bind fun ds h1 => (lcGo g tt el (wipeD e vs) ds h1 []).bind fun acc h2 => if own then .ok (.ref h2.length) (h2 ++ [.lst acc]) else .ok (.lst acc) h2
def sYes : ST := fun _ h => .ok true h
abbrev W0 : WX := fun _ _ _ _ => False
abbrev DTs (X : Cx) (W : WX) (ifs : List Expr) (f : ST) : Prop := PTs X ifs (rdG X.K W relB f)
theorem PTs.of {ifs : List Expr} {t t' : TT} (h : PTs X ifs t) (w : ∀ σ H Q, t' σ H Q → t σ H Q) : PTs X ifs t' := by
  obtain ⟨h⟩ := h
  constructor
  intro pins s σ H Q I q
  exact h pins s σ H Q I (w σ H Q q)
theorem dts_nil : DTs X W [] sYes := PTs.of pts_nil fun σ H Q => by
  rintro ⟨P, F, m, e, h, S, E, fin⟩
  exact fin.ok S rfl
theorem dts_one {c : Expr} {f : ST} (h : DT X W c f) : DTs X W [c] f := pts_one h
theorem lc_rd {it : SA} {g : TF} {tt : ST} {el : SE} {vs : List Nat} (own : Bool) {σ : St} {H : Hp} {Q : VK} (q : rdG X.K W (Den X.K) (sLc own it g tt el vs) σ H Q) :
    tLc (rdG X.K W (relI X.K) it) (rdTG X.K vs g) (rdG X.K W0 relB tt) (rdG X.K W0 (Den X.K) el) vs σ H Q := by
  obtain ⟨P0, F0, m0, e0, h0, S0, E0, fin0⟩ := q
  refine rd_seq S0 E0 fin0 fun F1 m1 h1 H1 J ds x1 S1 E1 wk fin1 => ?_
  intro D0 hD
  let go := lcGo g tt el (wipeD e0 vs)
  let fl : List D → OH → Res D := fun acc h2 => if own then .ok (.ref h2.length) (h2 ++ [.lst acc]) else .ok (.lst acc) h2
  let Wd : Nat → Nat → Hp → Prop := fun i n H => ∃ F m h acc ws, Sim X.K ((D0, .lst ws) :: P0) F m h H ∧ Ext F1 m1 F m ∧ DenL X.K F m ws acc ∧ acc.length ≤ big ∧ n = (ds.drop i).length ∧ FinG X.K P0 W σ (Den X.K) Q F m ((go (ds.drop i) h acc).bind fl)
  refine ⟨Wd, ⟨ds.length, F1, m1, h1, [], [], S1.hid hD, .refl, .nil, Nat.zero_le _, by simp, by simpa using fin1⟩, ?_⟩
  rintro i n H ⟨F, m, h, acc, ws, S, x, ra, hl, rfl, fin⟩
  obtain ⟨w1, w2⟩ := wk _ F m h H i x S
  by_cases hi : i < ds.length
  · obtain ⟨go1, yl⟩ := w1 hi
    have dr : ds.drop i = ds[i] :: ds.drop (i + 1) := List.drop_eq_getElem_cons hi
    rw [dr] at fin
    refine .inr ⟨go1, fun H' => Wd (i + 1) (ds.drop (i + 1)).length H', fun H' q => ⟨_, by rw [dr]; exact Nat.lt_succ_self _, q⟩, fun y H' hy => ?_⟩
    obtain ⟨F2, x2, S2, d, e1, r⟩ := yl y H' hy
    have ed : d = ds[i] := by
      rw [List.getElem?_eq_getElem hi] at e1
      exact (Option.some.inj e1).symm
    subst ed
    simp only [go, lcGo] at fin
    have E2 : EnvR X.K F2 m (L2.wipe σ vs) (wipeD e0 vs) := ((E1.mono (x.trans x2))).wipe vs
    cases q : g ds[i] (wipeD e0 vs) h with
    | none => rw [q] at fin; exact fin.elim
    | some e2 =>
      rw [q] at fin
      dsimp only at fin
      refine ⟨_, F2, m, wipeD e0 vs, h, _, S2, E2, r, e2, q, fun σ' E' wi => ⟨?_, _, F2, m, e2, h, S2, E', ?_⟩⟩
      · have idem : L2.wipe (L2.wipe σ vs) vs = L2.wipe σ vs := by
          have key : ∀ (us : List Nat) (τ : St), (∀ u ∈ us, ∀ z, τ[u]? = some z → z = none) → L2.wipe τ us = τ := by
            intro us
            induction us with
            | nil => intro τ _; rfl
            | cons u us ih =>
              intro τ hz
              show (L2.wipe τ us).set u none = τ
              rw [ih τ fun w hw => hz w (List.mem_cons_of_mem _ hw)]
              apply List.ext_getElem?
              intro j
              by_cases hj : u = j
              · subst hj
                rw [List.getElem?_set]
                simp only [if_true]
                by_cases hu : u < τ.length
                · rw [if_pos hu, List.getElem?_eq_getElem hu, hz u List.mem_cons_self τ[u] (List.getElem?_eq_getElem hu)]
                · rw [if_neg hu, List.getElem?_eq_none (Nat.le_of_not_lt hu)]
              · rw [List.getElem?_set_ne hj]
          refine key vs _ fun u hu z hz => ?_
          have cl : ∀ (us : List Nat) (τ : St), u ∈ us → (L2.wipe τ us)[u]? = some z → z = none := by
            intro us
            induction us with
            | nil => intro τ h; simp at h
            | cons w us ih =>
              intro τ h hz
              have hz : ((L2.wipe τ us).set w none)[u]? = some z := hz
              by_cases hw : w = u
              · subst hw
                rw [List.getElem?_set] at hz
                simp only [if_true] at hz
                split at hz
                · simpa using hz.symm
                · cases hz
              · rw [List.getElem?_set_ne hw] at hz
                rcases List.mem_cons.mp h with h | h
                · exact absurd h.symm hw
                · exact ih τ h hz
          exact cl vs σ hu hz
        rw [wi, idem]
      · cases qt : tt e2 h with
        | bad => rw [qt] at fin; exact fin.elim
        | exc C p h3 => rw [qt] at fin; exact fin.elim
        | ok b h3 =>
          rw [qt] at fin
          simp only [Res.noX, Res.bind_ok] at fin
          intro b' F3 m3 H3 x3 S3 rb
          have rb : b' = b := rb
          subst rb
          cases b' with
          | false =>
            simp only [Bool.false_eq_true, if_false] at fin ⊢
            exact ⟨F3, m3, h3, acc, ws, S3, x.trans (x2.trans x3), ra.mono (x2.trans x3), hl, rfl, FinG.weak (x2.trans x3) fin⟩
          | true =>
            simp only [if_true] at fin ⊢
            refine ⟨_, F3, m3, e2, h3, S3, E'.mono x3, ?_⟩
            cases qe : el e2 h3 with
            | bad => rw [qe] at fin; exact fin.elim
            | exc C p h4 => rw [qe] at fin; exact fin.elim
            | ok z h4 =>
              rw [qe] at fin
              simp only [Res.noX, Res.bind_ok] at fin
              intro v F4 m4 H4 x4 S4 rv
              have xx := x2.trans (x3.trans x4)
              by_cases hz : acc.length < big
              · rw [if_pos hz] at fin
                refine ⟨ws, (S4.pin _ List.mem_cons_self).1, by rw [ra.length]; exact big_lt hz, F4, m4, h4, acc ++ [z], ws ++ [v], S4.hidSet, x.trans xx, (ra.mono xx).append (.cons rv .nil), by simp; omega, rfl, FinG.weak xx fin⟩
              · rw [if_neg hz] at fin
                exact fin.elim
  · have hi2 : ds.length ≤ i := Nat.le_of_not_lt hi
    rw [List.drop_eq_nil_of_le hi2] at fin
    refine .inl ⟨w2 hi2, ?_⟩
    simp only [go, lcGo, Res.bind_ok, fl] at fin
    cases own with
    | true =>
      exact FinG.okX fin ext_new (S.hidOwn ra) (.ref (by rw [← S.len]; simp))
    | false =>
      obtain ⟨k1, k2, k3⟩ := S.pin _ List.mem_cons_self
      exact FinG.okX fin (ext_frz k2) S.hidFrz (.lst upd_same (ra.mono (ext_frz k2)))
theorem de_lc {elt tg iter : Expr} {ifs : List Expr} {scope : Scope} (own : Bool) (ow : List (Str × Nat)) {pos : Pos} {it : SA} {g : TF} {tt : ST} {el : SE} (hc : X.calm = true) (hN : X.N.Nodup) (hi : DI X W tg iter it) (ok : BlkOk X.N X.env.scope scope ow)
    (hg : ∀ (s : Shared) (H : Hp) (C : Addr) (cl : List (Str × Addr)) (fp : List Addr), DG (X.blk s H scope (compEnvC scope cl C X.env) fp) (ow.map (·.2)) tg g) (ht : ∀ (s : Shared) (H : Hp) (C : Addr) (cl : List (Str × Addr)) (fp : List Addr), DTs (X.blk s H scope (compEnvC scope cl C X.env) fp) W0 ifs tt)
    (he : ∀ (s : Shared) (H : Hp) (C : Addr) (cl : List (Str × Addr)) (fp : List Addr), DE (X.blk s H scope (compEnvC scope cl C X.env) fp) W0 elt el) (hs : ∀ x, foldedSetIterable iter X.env x = pure x := by intro _; rfl) :
    DE X W (.ListComp elt [⟨tg, iter, ifs, 0⟩] scope pos) (sLc own it g tt el (ow.map (·.2))) := PE.of (pe_lc hc hN hi ok hg ht he hs) fun σ H Q => lc_rd own
theorem ds_setLc (i : Nat) {y : Str} {py : Pos} {elt tg iter : Expr} {ifs : List Expr} {scope : Scope} (own : Bool) (ow : List (Str × Nat)) {pos spos : Pos} {it : SA} {g : TF} {tt : ST} {el : SE} (hc : X.calm = true) (hN : X.N.Nodup) (hi : DI X W tg iter it) (ok : BlkOk X.N X.env.scope scope ow)
    (hg : ∀ (s : Shared) (H : Hp) (C : Addr) (cl : List (Str × Addr)) (fp : List Addr), DG (X.blk s H scope (compEnvC scope cl C X.env) fp) (ow.map (·.2)) tg g) (ht : ∀ (s : Shared) (H : Hp) (C : Addr) (cl : List (Str × Addr)) (fp : List Addr), DTs (X.blk s H scope (compEnvC scope cl C X.env) fp) W0 ifs tt)
    (he : ∀ (s : Shared) (H : Hp) (C : Addr) (cl : List (Str × Addr)) (fp : List Addr), DE (X.blk s H scope (compEnvC scope cl C X.env) fp) W0 elt el)
    (hsw : swapsWith (.ListComp elt [⟨tg, iter, ifs, 0⟩] scope pos) (some (.Name y py)) spos.line X.env = pure true) (hy : X.N[i]? = some y := by rfl) (hyl : X.env.scope.names.lookup y = some .local := by rfl) (hs : ∀ x, foldedSetIterable iter X.env x = pure x := by intro _; rfl) :
    DS X W (.Assign [.Name y py] (.ListComp elt [⟨tg, iter, ifs, 0⟩] scope pos) spos) (sSet i (sLc own it g tt el (ow.map (·.2)))) := PS.of (ps_setLc (own := ow) hc hN hy hyl hsw hi ok hg ht he hs) fun Dn σ H => by
  rintro ⟨P, F, m, e, h, S, E, fin⟩
  refine lc_rd (W := W) own (st_seq S E fin fun F1 m1 h1 H1 v d x S1 E1 r fin1 => ?_)
  exact fin1 _ F1 m1 H1 .refl S1 (E1.set i r)
/-! ### defs -/
def fnOf (n : Nat) (body : SS) : FN := fun ds h => match body (ds.map some ++ List.replicate (n - ds.length) none) h with
  | .nx _ h1 => .ok .non h1
  | .rt d h1 => .ok d h1
  | .exc C p _ h1 => .exc C p h1
  | _ => .bad
def spN (K : PySem.W.Frag) (np : Nat) (f : FN) : Sp := fun vs H Q E => vs.length = np ∧ ∃ P F m ds h, Sim K P F m h H ∧ DenL K F m vs ds ∧ FinG K P (fun cls od _ H => E cls od H) [] (Den K) Q F m (f ds h)
theorem fn_ok {P : Program} {w : World} {K : PySem.W.Frag} {mg : Str → Option Value} {base : Heap} {CX : CXT} {x qual : Str} {params : Arguments} {body : List Stmt} {scope : Scope} {dvs : List V} {kws : List (Str × V)} {f : Addr} {fd : FuncData} {N ps : List Str} {k : Nat} {fB : SS}
    (Fu : FunD K x qual params body scope dvs kws f fd) (S : FnScope N ps scope) (hN : ps.length ≤ N.length)
    (hb : ∀ (cdv : Value) (A : Around) (outer : List Env) (s : Shared) (H : Hp) (E : XK), Room k (A.deeper (envOfC qual scope s.heap.objs.size f cdv)) → DSs (cxOf CX P w K mg base N qual scope f cdv A outer s H E) (fun cls od _ H => E cls od H) body fB) :
    FnOk P w K mg base CX (k + 1) f fd ps (spN K ps.length (fnOf N.length fB)) := by
  refine Fu.ok S (fun vs H Q E h => h.1) (fun cdv A outer s H vs Q E hr h => ?_)
  obtain ⟨hl, P0, F, m, ds, h, S0, r, fin⟩ := h
  refine ⟨_, hb cdv A outer s H E hr, P0, F, m, _, h, S0, (⟨?_, fun i d q => ?_⟩ : EnvR K F m (L2.start N vs) (ds.map some ++ List.replicate (N.length - ds.length) none)), ?_⟩
  · unfold L2.start
    simp [r.length]
  · have hi : i < ds.length := by
      by_cases hi : i < ds.length
      · exact hi
      · rw [List.getElem?_append_right (by simp; omega)] at q
        rw [List.getElem?_replicate] at q
        split at q <;> cases q
    rw [List.getElem?_append_left (by simpa using hi)] at q
    simp only [List.getElem?_map, Option.map_eq_some_iff] at q
    obtain ⟨d', q1, q2⟩ := q
    simp only [Option.some.injEq] at q2
    subst q2
    obtain ⟨v, e1, r1⟩ := r.get q1
    refine ⟨v, ?_, r1⟩
    unfold L2.start
    rw [List.getElem?_append_left (by simp; rw [r.length]; exact hi)]
    simp [e1]
  · unfold fnOf at fin
    cases q : fB (ds.map some ++ List.replicate (N.length - ds.length) none) h with
    | nx e1 h1 => rw [q] at fin; exact fun σ F1 m1 H1 x1 S1 E1 => fin .non F1 m1 H1 x1 S1 .non
    | rt d h1 => rw [q] at fin; exact fin
    | exc C p e1 h1 => rw [q] at fin; exact fun od σ F1 m1 H1 x1 S1 pd E1 => fin od F1 m1 H1 x1 S1 pd
    | bk e1 h1 => rw [q] at fin; exact fin.elim
    | ct e1 h1 => rw [q] at fin; exact fin.elim
    | bad => rw [q] at fin; exact fin.elim
/-! ### calls -/
/-- a call that sees none of the own objects -/
def pureF (f : FN) : FN := fun ds h => if D.pureL ds then (match f ds [] with
  | .ok d _ => if d.pure then .ok d h else .bad
  | .exc C none _ => .exc C none h
  | .exc C (some q) _ => if q.2.pure then .exc C (some q) h else .bad
  | .bad => .bad) else .bad
theorem pure_sp {K : PySem.W.Frag} {np : Nat} {f : FN} {vs : List V} {H : Hp} {Q : VK} {E : XK} (h : spN K np (pureF f) vs H Q E) : spN K np f vs H Q E := by
  obtain ⟨hl, P, F, m, ds, h, S, r, fin⟩ := h
  unfold pureF at fin
  by_cases hp : D.pureL ds = true
  · rw [if_pos hp] at fin
    refine ⟨hl, _, F, [], ds, [], S.hide, r.pureM hp, ?_⟩
    cases q : f ds [] with
    | ok d h' =>
      rw [q] at fin
      dsimp only at fin
      by_cases hd : d.pure = true
      · rw [if_pos hd] at fin
        exact fun v F' m' H' x S' rv => FinG.okX fin ⟨x.s, List.prefix_rfl⟩ (S.unhide x.s S') (rv.pureM hd)
      · rw [if_neg hd] at fin
        exact fin.elim
    | exc C p h' =>
      rw [q] at fin
      cases p with
      | none =>
        intro od F' m' H' x S' pd
        exact fin od F' m H' ⟨x.s, List.prefix_rfl⟩ (S.unhide x.s S') pd
      | some z =>
        dsimp only at fin
        by_cases hd : z.2.pure = true
        · rw [if_pos hd] at fin
          intro od F' m' H' x S' pd
          obtain ⟨a, v, e1, e2, e3⟩ := pd
          exact fin od F' m H' ⟨x.s, List.prefix_rfl⟩ (S.unhide x.s S') ⟨a, v, e1, e2, e3.pureM hd⟩
        · rw [if_neg hd] at fin
          exact fin.elim
    | bad => rw [q] at fin; exact fin
  · rw [if_neg hp] at fin
    exact fin.elim
theorem FnOk.pure {P : Program} {w : World} {K : PySem.W.Frag} {mg : Str → Option Value} {base : Heap} {CX : CXT} {k : Nat} {f : Addr} {fd : FuncData} {ps : List Str} {g : FN} (F : FnOk P w K mg base CX k f fd ps (spN K ps.length g)) : FnOk P w K mg base CX k f fd ps (spN K ps.length (pureF g)) := L2.FnOk.imp F fun _ _ _ _ h => pure_sp h
section
variable {CX : CXT} {k : Nat} {f : Addr} {fd : FuncData} {ps : List Str} {g : FN}
def withD (dd : List D) (g : FN) : FN := fun ds h => g (ds ++ dd) h
/-- f(e, ..); dd: the defaults that fill up -/
theorem de_call {x : Str} {p pos : Pos} {a : Expr} {es : List Expr} {fa : SA} {dvs : List V} {dus : List Value} (dd : List D) (Fk : FnOk X.prog X.w X.K X.mg X.base CX k f fd ps (spN X.K ps.length g)) (hr : Room k X.A) (hm : X.mg x = some (.ref f)) (hk : PySem.W.keepIn X.K (.ref f) = true) (hb : Binds X.K fd ps dus) (hd : Vals dvs dus)
    (hdd : ∀ F m, DenL X.K F m dvs dd) (hn : (a :: es).length + dvs.length = ps.length) (hx : ∀ σ, PassesAt CX X σ fun cls od H => W cls od σ H) (ha : DA X W (a :: es) fa) (hl : ∀ e h ds h', fa e h = .ok ds h' → ds.length = (a :: es).length) (hg : Gl X x := by rfl) (hdb : (x == ("__debug__" : Str)) = false := by decide)
    (he : starEach (a :: es) X.env = (false, eval a X.env) :: starEach es X.env := by rfl) (hpl : (backTo pos (starEach es X.env)).any (·.1) = false := by rfl) : DE X W (.Call (.Name x p) (a :: es) [] pos) (sCall (withD dd g) fa) :=
  PE.of (pe_callSD Fk hr hg hm hk hb hd hx ha hdb he hpl) fun σ H Q => by
    rintro ⟨P, F, m, e, h, S, E, fin⟩
    refine ⟨P, F, m, e, h, S, E, ?_⟩
    unfold sCall at fin
    cases q : fa e h with
    | bad => rw [q] at fin; exact fin.elim
    | exc C p h1 => rw [q] at fin; exact fin
    | ok ds h1 =>
      rw [q] at fin
      intro vs F1 m1 H1 x1 S1 r1
      exact ⟨by rw [List.length_append, r1.length, hl e h ds h1 q]; exact hn, P, F1, m1, ds ++ dd, h1, S1, r1.append (hdd F1 m1), FinG.weak x1 fin⟩
theorem sNil_len : ∀ e h ds h', sNil e h = .ok ds h' → ds.length = 0 := fun e h ds h' q => by
  cases q
  rfl
theorem sCons_len {fa : SE} {fr : SA} {n : Nat} (k : ∀ e h ds h', fr e h = .ok ds h' → ds.length = n) : ∀ e h ds h', sCons fa fr e h = .ok ds h' → ds.length = n + 1 := fun e h ds h' q => by
  unfold sCons at q
  cases q1 : fa e h with
  | bad => rw [q1] at q; cases q
  | exc C p h1 => rw [q1] at q; cases q
  | ok x h1 =>
    rw [q1] at q
    simp only [Res.bind_ok] at q
    cases q2 : fr e h1 with
    | bad => rw [q2] at q; cases q
    | exc C p h2 => rw [q2] at q; cases q
    | ok xs h2 =>
      rw [q2] at q
      simp only [Res.bind_ok, Res.ok.injEq] at q
      rw [← q.1, List.length_cons, k e h1 xs h2 q2]
theorem passAt0 {σ : St} {E : XK} : PassesAt CX0 X σ E := fun _ _ _ _ _ _ h => h.elim
/-- o.m(e, ..), the class written: nothing is raised -/
def sMeth (C mt : String) (g : FN) (o : SE) (a : SA) : SE := fun e h => (o e h).bind fun x h1 => match insAt h1 x with
  | some q => if q.1 = C ∧ q.2.lookup mt = none then (a e h1).bind fun ys h2 => (g (x :: ys) h2).noX else .bad
  | none => .bad
theorem rd_meth {C mt : String} {fo : SE} {fa : SA} {n : Nat} (hn : n + 1 = ps.length) (hl : ∀ e h ds h', fa e h = .ok ds h' → ds.length = n) {σ : St} {H : Hp} {Q : VK} (q : rdG X.K W (Den X.K) (sMeth C mt g fo fa) σ H Q) :
    tMeth (He.ga X.K (Str.ofString C)) (Str.ofString mt) (spN X.K ps.length g) [] E0 (rdG X.K W (Den X.K) fo) (rdG X.K W (DenL X.K) fa) σ H Q := by
  obtain ⟨P, F, m, e, h, S, E, fin⟩ := q
  refine rd_seq S E fin fun F1 m1 h1 H1 x dx x1 S1 E1 r1 fin1 => ?_
  cases q1 : insAt h1 dx with
  | none => rw [q1] at fin1; exact fin1.bad_elim
  | some z =>
    obtain ⟨C', fs⟩ := z
    rw [q1] at fin1
    dsimp only at fin1
    by_cases hz : C' = C ∧ fs.lookup mt = none
    · rw [if_pos hz] at fin1
      obtain ⟨rfl, hm⟩ := hz
      obtain ⟨a, dxx, fv, rfl, ha, ob, rf⟩ := insAt_ok S1 r1 q1
      refine ⟨a, dxx, fv, rfl, ha, rf.none hm, P, F1, m1, e, h1, S1, E1, ?_⟩
      cases q2 : fa e h1 with
      | bad => rw [q2] at fin1; exact fin1.elim
      | exc C p h2 => rw [q2] at fin1; exact fin1
      | ok ys h2 =>
        rw [q2] at fin1
        simp only [Res.bind_ok] at fin1
        intro vs F2 m2 H2 x2 S2 r2
        refine ⟨by rw [List.append_nil, List.length_cons, r2.length, hl e h1 ys h2 q2]; exact hn, P, F2, m2, dx :: ys, h2, S2, by rw [List.append_nil]; exact .cons (r1.mono x2) r2, ?_⟩
        cases q3 : g (dx :: ys) h2 with
        | ok d h3 => rw [q3] at fin1; exact FinG.weak x2 fin1
        | exc C p h3 => rw [q3] at fin1; exact fin1.elim
        | bad => rw [q3] at fin1; exact fin1.elim
    · rw [if_neg hz] at fin1
      exact fin1.bad_elim
theorem de_meth {C mt : String} {o a : Expr} {es : List Expr} {apos pos : Pos} {fo : SE} {fa : SA} (pl : Sem Bool) (c : Cls X.K (He.ga X.K (Str.ofString C))) (hm : Meth X.K (He.ga X.K (Str.ofString C)) (Str.ofString mt) f) (Fk : FnOk X.prog X.w X.K X.mg X.base CX0 k f fd ps (spN X.K ps.length g)) (hr : Room k X.A) (hb : Binds X.K fd ps []) (ho : DE X W o fo) (ha : DA X W (a :: es) fa)
    (hn : (a :: es).length + 1 = ps.length) (hl : ∀ e h ds h', fa e h = .ok ds h' → ds.length = (a :: es).length) (hst : starEach (a :: es) X.env = (false, eval a X.env) :: starEach es X.env := by rfl) (hpl : (backTo pos (starEach es X.env)).any (·.1) = false := by rfl)
    (ht : eval (.Call (.Attribute o (Str.ofString mt) apos) (a :: es) [] pos) X.env = (do
      let ov ← eval o X.env
      standAt apos.atName
      let (f, first) ← holding [ov] (getMethod ov (Str.ofString mt) pl)
      callWith pos f first (backTo pos (starEach (a :: es) X.env)) (backToKw pos (keywordEach [] X.env))) := by rfl) :
    DE X W (.Call (.Attribute o (Str.ofString mt) apos) (a :: es) [] pos) (sMeth C mt g fo fa) := PE.of (pe_meth (pl := pl) ho c hm Fk hr hb .nil (pass0 (X := X)) ha hst hpl ht) fun σ H Q => rd_meth hn hl
/-- C(e, ..), the instance an own object -/
def sMake (C : String) (g : FN) (a : SA) : SE := fun e h => (a e h).bind fun ys h1 => (g (.ref h1.length :: ys) (h1 ++ [.ins C []])).noX.bind fun d h2 => match d with
  | .non => .ok (.ref h1.length) h2
  | _ => .bad
/-- .. frozen at once: __init__ sees nothing else -/
def sMakeP (C : String) (g : FN) (a : SA) : SE := fun e h => (a e h).bind fun ys h1 => if D.pureL ys then (match g (.ref 0 :: ys) [.ins C []] with
  | .ok .non (.ins C' fs :: _) => if C' = C ∧ D.pureF fs then .ok (.obj C fs) h1 else .bad
  | _ => .bad) else .bad
theorem ins_new {K : PySem.W.Frag} {P : Pins} {F : Hp} {m : List Addr} {h : OH} {H : Hp} {C : String} (S : Sim K P F m h H) (c : Cls K (He.ga K (Str.ofString C))) {x dx : Addr} (hx : H x = none) (hdx : H dx = none) (ne : dx ≠ x) :
    Sim K P F (m ++ [x]) (h ++ [.ins C []]) (upd (upd H dx (.own x)) x (.ins (He.ga K (Str.ofString C)) dx [])) := by
  have hx2 : (upd H dx (.own x)) x = none := by rw [upd_ne ne.symm]; exact hx
  exact (S.other hdx).alloc hx2 ⟨dx, [], upd_same, ⟨c, fun _ z => by simp at z⟩, .nil, S.free hx⟩
theorem DenF.pureM {K : PySem.W.Frag} {F : Hp} {m m' : List Addr} : ∀ {vs : List (Str × V)} {ds : List (String × D)}, DenF K F m vs ds → D.pureF ds = true → DenF K F m' vs ds
  | _, _, .nil, _ => .nil
  | _, _, .cons h t, e => by
    have e' := and2 (by simpa only [D.pureF] using e)
    exact .cons (h.pureM e'.1) (DenF.pureM t e'.2)
theorem de_makeP {C : String} {p pos : Pos} {a : Expr} {es : List Expr} {fa : SA} (M : Mk X.K (He.ga X.K (Str.ofString C)) f) (c : Cls X.K (He.ga X.K (Str.ofString C))) (Fk : FnOk X.prog X.w X.K X.mg X.base CX0 k f fd ps (spN X.K ps.length g)) (hr : Room (k + 1) X.A) (hm : X.mg (Str.ofString C) = some (.ref (He.ga X.K (Str.ofString C)))) (hb : Binds X.K fd ps [])
    (ha : DA X W (a :: es) fa) (hn : (a :: es).length + 1 = ps.length) (hl : ∀ e h ds h', fa e h = .ok ds h' → ds.length = (a :: es).length) (hg : Gl X (Str.ofString C) := by rfl) (hdb : (Str.ofString C == ("__debug__" : Str)) = false := by decide)
    (he : starEach (a :: es) X.env = (false, eval a X.env) :: starEach es X.env := by rfl) (hpl : (backTo pos (starEach es X.env)).any (·.1) = false := by rfl) : DE X W (.Call (.Name (Str.ofString C) p) (a :: es) [] pos) (sMakeP C g fa) :=
  PE.of (pe_make M Fk hr hg hm hb .nil (pass0 (X := X)) ha hdb he hpl) fun σ H Q => by
    rintro ⟨P, F, m, e, h, S, E, fin⟩
    refine ⟨P, F, m, e, h, S, E, ?_⟩
    unfold sMakeP at fin
    cases q : fa e h with
    | bad => rw [q] at fin; exact fin.elim
    | exc C p h1 => rw [q] at fin; exact fin
    | ok ys h1 =>
      rw [q] at fin
      simp only [Res.bind_ok] at fin
      intro vs F1 m1 H1 x1 S1 r1 x dx hx hdx ne
      by_cases hp : D.pureL ys = true
      · rw [if_pos hp] at fin
        have Sn := ins_new S1.hide c hx hdx ne
        refine ⟨by rw [List.append_nil, List.length_cons, r1.length, hl e h ys h1 q]; exact hn, _, F1, [x], .ref 0 :: ys, [.ins C []], Sn, by rw [List.append_nil]; exact .cons (.ref rfl) (r1.pureM hp), ?_⟩
        cases q2 : g (.ref 0 :: ys) [.ins C []] with
        | bad => rw [q2] at fin; exact fin.elim
        | exc C p h2 => rw [q2] at fin; exact fin.elim
        | ok d h2 =>
          rw [q2] at fin
          match d, h2, fin with
          | .non, .ins C' fs :: h3, fin =>
            dsimp only at fin
            by_cases hz : C' = C ∧ D.pureF fs = true
            · rw [if_pos hz] at fin
              obtain ⟨rfl, hf⟩ := hz
              intro v F2 m2 H2 x2 S2 rv
              cases rv
              refine ⟨rfl, ?_⟩
              have e0 : m2[0]? = some x := pre_get x2.p rfl
              obtain ⟨o, k1, k2⟩ := S2.own e0
              simp only [List.getElem?_cons_zero, Option.some.injEq] at k1
              subst k1
              obtain ⟨dx2, fv, k3, k4, k5, k6⟩ := k2
              have S3 := S2.freeze e0 k6 k3
              have x3 : Ext F1 m1 (upd F2 x (.ins (He.ga X.K (Str.ofString C')) dx2 fv)) m1 := ⟨x2.s.trans (ext_frz k6 (m := m2)).s, List.prefix_rfl⟩
              exact FinG.okX fin (x1.trans x3) (S1.unhide x3.s S3) (.obj upd_same k4 ((k5.mono (ext_frz k6)).pureM hf))
            · rw [if_neg hz] at fin
              exact fin.elim
          | .non, [], fin => exact fin.elim
          | .non, .lst _ :: _, fin => exact fin.elim
          | .non, .dct _ :: _, fin => exact fin.elim
          | .non, .dead :: _, fin => exact fin.elim
          | .non, .nd _ _ _ :: _, fin => exact fin.elim
          | .bl _, _, fin => exact fin.elim
          | .int _, _, fin => exact fin.elim
          | .str _, _, fin => exact fin.elim
          | .lst _, _, fin => exact fin.elim
          | .tup _, _, fin => exact fin.elim
          | .dct _, _, fin => exact fin.elim
          | .obj _ _, _, fin => exact fin.elim
          | .ref _, _, fin => exact fin.elim
          | .scr _, _, fin => exact fin.elim
          | .exc _, _, fin => exact fin.elim
          | .excf _ _ _, _, fin => exact fin.elim
          | .fn _, _, fin => exact fin.elim
          | .dcl _, _, fin => exact fin.elim
      · rw [if_neg hp] at fin
        exact fin.elim
end
/-! ### an own list is frozen -/
def frzE (f : SE) : SE := fun e h => (f e h).bind fun d h1 => match d with
  | .ref i => (match h1[i]? with
    | some (.lst xs) => .ok (.lst xs) (h1.set i .dead)
    | _ => .bad)
  | _ => .bad
theorem de_frz {a : Expr} {f : SE} (ha : DE X W a f) : DE X W a (frzE f) := PE.of ha fun σ H Q => by
  rintro ⟨P, F, m, e, h, S, E, fin⟩
  refine ⟨P, F, m, e, h, S, E, ?_⟩
  unfold frzE at fin
  cases q : f e h with
  | bad => rw [q] at fin; exact fin.elim
  | exc C p h1 => rw [q] at fin; exact fin
  | ok d h1 =>
    rw [q] at fin
    simp only [Res.bind_ok] at fin
    intro v F1 m1 H1 x S1 r
    cases r with
    | @ref b i e1 =>
      obtain ⟨o, k1, k2⟩ := S1.own e1
      dsimp only at fin
      rw [k1] at fin
      cases o with
      | lst xs =>
        obtain ⟨vs, k3, k4, k5⟩ := k2
        exact FinG.okX fin (x.trans (ext_frz k5)) (S1.freeze e1 k5 k3) (.lst upd_same (k4.mono (ext_frz k5)))
      | _ => exact fin.elim
    | _ => exact fin.elim
end
/-! ### the law's end -/
theorem law_sp {K : PySem.W.Frag} {g : FN} {n : Nat} (hg : ∀ ns : List Int, ns.length ≤ n → ∃ h', g [.scr (ns.map D.int)] [] = .ok (.bl true) h') (H : Hp) (a : Addr) (ns : List Int) (hl : ns.length ≤ n) (hO : Only H) (hS : SqL K H a (ns.map V.int)) : spN K 1 g [.ref a] H (fun v _ => v = .bl true) fun _ _ _ => False := by
  obtain ⟨h', e⟩ := hg ns hl
  refine ⟨rfl, [], H, [], [.scr (ns.map D.int)], [], ⟨Same.refl _, rfl, List.nodup_nil, fun _ z => by simp at z, fun _ _ _ z => by simp at z, fun _ z => by simp at z, by simp⟩, .cons (.scr hS (DenL.ints ns)) .nil, ?_⟩
  rw [e]
  intro v F' m' H' x S r
  exact den_bl r
end HR
set_option Elab.async false
set_option linter.all false
set_option maxRecDepth 100000
set_option maxHeartbeats 4000000
/-! LayG: len(set(xs)) of ints and texts; signs of a text; in; repr. -/
namespace HR
open PySem L2
/-! ### set(xs) of keys -/
abbrev inK (acc : List Key) : Key → Bool := fun k => acc.any fun y => decide (y = k)
/-- keys met so far, each once, in order -/
def ddK : List Key → List Key → List Key
  | acc, [] => acc
  | acc, x :: r => ddK (if inK acc x then acc else acc ++ [x]) r
section
variable {prog : Program} {w : World} {A : Around} {R : Result → Shared → Prop} {I : Addr} {fp wr : List Addr} {G : Array GenState → Array GenState → Prop} {n : Nat} {PV : Nat → Value → Prop} {StI : Nat → Shared → Prop}
theorem setOf_eq {h : Heap} {S : Addr} {f f' : Key → Bool} {c c' : Nat} (q : h.SetOf (mixKind prog w) S f c) (e : ∀ k, f k = f' k) (e2 : c = c') : h.SetOf (mixKind prog w) S f' c' := by
  obtain rfl : f = f' := funext e
  exact e2 ▸ q
theorem setOf_moved {h h' : Heap} {S : Addr} {f : Key → Bool} {c : Nat} (q : h.SetOf (mixKind prog w) S f c) (k : ∀ o, h.get? S = some o → h'.get? S = some o) : h'.SetOf (mixKind prog w) S f c := by
  obtain ⟨o, es, ep, t, ho, r⟩ := q
  exact ⟨o, es, ep, t, k o ho, r⟩
theorem set_loopK (Wk : WalksS prog w A.in1 I fp wr G n PV StI) (S : Addr) (hSf : S ∉ fp) (ks : List Key) (hlen : ks.length = n) (hn : n + 1 < scanBound) (hval : ∀ (i : Nat) (v : Value), PV i v → ∃ k, ks[i]? = some k ∧ keyIs k v = true) :
    ∀ (rest : List Key) (i : Nat) (acc : List Key) (s : Shared), ks.drop i = rest → acc.length ≤ i → i ≤ n → StI i s → s.heap.SetOf (mixKind prog w) S (inK acc) acc.length →
      (∀ s', Moved (S :: wr) G s s' → s'.heap.SetOf (mixKind prog w) S (inK (ddK acc rest)) (ddK acc rest).length → R (.ok (.ret .none)) s') →
      codeAny (model prog w) A (.builtin "set.update.loop" ⟨[.ref S, .ref I], []⟩) R s := by
  have hSw : S ∉ wr := fun z => hSf (Wk.sub _ z)
  have more : ∀ b ∈ wr, b ∈ S :: wr := fun b z => List.mem_cons_of_mem _ z
  intro rest
  induction rest with
  | nil =>
    intro i acc s hr ha hi st hS hR
    have hin : i = n := by
      have z := congrArg List.length hr
      simp at z
      omega
    subst hin
    refine codeAny_builtin (PyProof.Rows.F.entry_set_update_loop) ?_
    rw [Around.under_plainId (PyProof.Rows.F.plain_set_update_loop) _]
    refine wpAny_bind (m := pyNext (.ref I)) (Wk.done s _ _ st fun s' mv => ?_)
    show wpAny _ A.in1 (ret .none) _ _ s'
    exact wpAny_pure (hR s' (mv.mono more) (setOf_moved hS fun o e => mv.heap S o hSw e))
  | cons x r ih =>
    intro i acc s hr ha hi st hS hR
    have hlt : i < n := by
      have z := congrArg List.length hr
      simp at z
      omega
    have hx : ks[i]? = some x := by
      have z : (ks.drop i)[0]? = some x := by rw [hr]; rfl
      simpa using z
    have hr2 : ks.drop (i + 1) = r := by
      have z := congrArg (List.drop 1) hr
      rw [List.drop_drop] at z
      simpa [Nat.add_comm] using z
    refine codeAny_builtin (PyProof.Rows.F.entry_set_update_loop) ?_
    rw [Around.under_plainId (PyProof.Rows.F.plain_set_update_loop) _]
    refine wpAny_bind (m := pyNext (.ref I)) (Wk.item i s _ _ hlt st fun v s' hv st' mv => ?_)
    obtain ⟨k, e1, hk⟩ := hval i v hv
    rw [hx] at e1
    obtain rfl : x = k := Option.some.inj e1
    have hS' := setOf_moved hS fun o e => mv.heap S o hSw e
    show wpAny _ A.in1 (holding [v] (setAdd S v) >>= _) _ _ s'
    refine wpAny_bind (wpAny_holding ?_)
    unfold setAdd
    refine wpAny_holding (wpAny_bind ((mixKind prog w).pyHash (k := x) (by rw [mixKind_is]; exact hk) ?_))
    have sc : v.scannable = true := by
      rcases keyIs_shape hk with ⟨a, t, rfl, rfl⟩ | ⟨a, t, rfl, rfl⟩ <;> rfl
    refine wpAny_setAddHashed_of (knd := mixKind prog w) (s := { s' with toks := s'.toks + 1 }) (by rw [mixKind_is]; exact hk) sc hS' (by omega) fun h' hsb hS2 => ?_
    let acc2 := if inK acc x then acc else acc ++ [x]
    have hS3 : h'.SetOf (mixKind prog w) S (inK acc2) acc2.length := by
      refine setOf_eq hS2 (fun k' => ?_) ?_
      · show (inK acc k' || decide (k' = x)) = inK acc2 k'
        simp only [acc2]
        cases c : inK acc x with
        | true =>
          simp only [if_true]
          by_cases ek : k' = x
          · subst ek; simp [c]
          · simp [ek]
        | false =>
          have comm : decide (k' = x) = decide (x = k') := by
            by_cases ek : k' = x
            · subst ek; simp
            · have ek2 : ¬ x = k' := fun z => ek z.symm
              simp [ek, ek2]
          simp [inK, comm]
      · show (if inK acc x = true then acc.length else acc.length + 1) = (if inK acc x = true then acc else acc ++ [x]).length
        cases inK acc x <;> simp
    have ha2 : acc2.length ≤ i + 1 := by
      show (if inK acc x = true then acc else acc ++ [x]).length ≤ i + 1
      cases inK acc x <;> simp <;> omega
    have ne : ∀ b, b ≠ S → ∀ o, s'.heap.get? b = some o → h'.get? b = some o := fun b hb o e => (hsb.2 b hb).trans e
    refine wpAny_pure ⟨plainId_quiet PyProof.Rows.F.plain_set_update_loop _, ih (i + 1) acc2 _ hr2 ha2 hlt (Wk.frame _ s' _ _ st' (Nat.le_succ _) fun b hb o e => ne b (fun z => hSf (z ▸ hb)) o e) hS3 fun s2 mv2 hS4 => ?_⟩
    exact hR s2 (Moved.trans Wk.gtrans ((mv.mono more).then_heap (Nat.le_succ _) fun b o hb e => ne b (fun z => hb (by rw [z]; exact List.mem_cons_self)) o e) mv2) hS4
end
section
variable {prog : Program} {w : World} {A : Around} {E : Value → Shared → Prop} {s : Shared}
/-- set(xs), xs a list of ints and texts -/
theorem set_of_keys {l : Addr} {items : Array Value} {ks : List Key} {Q : Value → Shared → Prop} (hh : A.handled = none) (hl : s.heap.IsList l items) (hlen : ks.length = items.size) (hi : ∀ (i : Nat) (v : Value), items[i]? = some v → ∃ k, ks[i]? = some k ∧ keyIs k v = true) (hb : items.size + 1 < scanBound)
    (h : ∀ (h' : Heap) (tk : Nat), h'.SetOf (mixKind prog w) s.heap.objs.size (inK (ddK [] ks)) (ddK [] ks).length → (∀ b o, b < s.heap.objs.size → s.heap.get? b = some o → h'.get? b = some o) → Q (.ref s.heap.objs.size) { s with heap := h', toks := tk }) :
    wpAny (model prog w) A (call (.type "set") [.ref l]) Q E s := by
  let fresh (led : Bool) : Obj := { cls := .type "set", dict := none, data := .set #[] 0 (.fresh 0 0 led) }
  obtain ⟨c, tl, hmro⟩ := PySem.F.called_set.mro
  have f1 := PySem.F.called_set.made; have f2 := PySem.F.called_set.sub
  refine wpAny_call (codeAny_of_tree ?_)
  show wpAny _ _ (callAny (.type "set") ⟨[.ref l], []⟩) _ _ _
  refine wpAny_pure ⟨Code.quiet_builtin _ (by decide +kernel), codeAny_builtin (PySem.F.entry_type_call) ?_⟩
  rw [Around.under_plain (weight_type_call_type "set" [.ref l] []) rfl]
  have f3 := PySem.F.called_set.notType; have f4 := PySem.F.called_set.canCreate; have f5 := PySem.F.typeCall_set_1 (.ref l)
  repeat (any_goals (first | assumption | wp_step))
  refine codeAny_mono (code_set_new_1 (.ref l) (E := E) (Q₁ := fun ob t => ∃ led, ob = .ref s.heap.objs.size ∧ t = { s with heap := s.heap.push (fresh led) }) fun led => ⟨led, rfl, rfl⟩) fun r t hr => ?_
  cases r with
  | error e => exact hr
  | ok fl =>
    cases fl with
    | ret ob =>
      obtain ⟨led, rfl, rfl⟩ := hr
      have gS : (s.heap.push (fresh led)).get? s.heap.objs.size = some (fresh led) := Heap.get?_push_size _ rfl
      have tS : Shared.TypeIs { s with heap := s.heap.push (fresh led) } (.ref s.heap.objs.size) "set" := ⟨_, gS, rfl⟩
      have f6 := PySem.F.called_set.init.lookup; have f7 := PySem.F.called_set.init.bind (.ref s.heap.objs.size)
      repeat (any_goals (first | assumption | wp_step))
      let Done : Value → Shared → Prop := fun r t => r = .none ∧ ∃ h' tk, t = { s with heap := h', toks := tk } ∧ h'.SetOf (mixKind prog w) s.heap.objs.size (inK (ddK [] ks)) (ddK [] ks).length ∧ ∀ b o, b < s.heap.objs.size → s.heap.get? b = some o → h'.get? b = some o
      refine codeAny_mono (codeAny_call_builtin (R := wants Done E) PySem.F.called_set.init.plain PySem.F.entry_set_init (check_set_init_1 tS ?_)) fun r₂ t₂ hr₂ => ?_
      · obtain ⟨ol, hol, hcl, nl, hdl⟩ := hl
        obtain ⟨c0, d0, dt0, sl0⟩ := ol
        simp only at hcl hdl; subst hcl hdl
        have hol' : (s.heap.push (fresh led)).get? l = some { cls := .type "list", dict := d0, data := .seq items nl, slots := sl0 } := Heap.get?_push_of_some _ hol
        have g1 := PySem.F.sub_list_set; have g2 := PySem.F.sub_list_frozenset; have g3 : (Value.type "list" == Value.type "dict") = false := by decide
        have hl1 : (s.heap.push (fresh led)).IsList l items := ⟨_, hol', rfl, nl, rfl⟩
        unfold Builtin.«set.__init__»; unfold noKeywords Builtin.Frozenset.updateFrom
        generalize hPI : pyIter = PI
        wp_walk
        subst hPI
        refine wpAny_pyIter_list hl1 (?_)
        refine wpAny_bind (wpAny_runValue (?_))
        have lS : l < s.heap.objs.size := Heap.lt_size hol
        have hh3 : A.in1.in1.in1.handled = none := by rw [show A.in1.in1.in1.handled = A.handled from by simp]; exact hh
        have sz : (s.heap.push (fresh led)).objs.size = s.heap.objs.size + 1 := Heap.size_push _ _
        have nI : l ≠ (s.heap.push (fresh led)).objs.size := by rw [sz]; exact Nat.ne_of_lt (Nat.lt_succ_of_lt lS)
        have nS : s.heap.objs.size ∉ [(s.heap.push (fresh led)).objs.size, l] := by
          rw [sz]
          intro z
          simp only [List.mem_cons, List.not_mem_nil, or_false] at z
          rcases z with z | z
          · exact absurd z (Nat.ne_of_lt (Nat.lt_succ_self _))
          · exact absurd z (Nat.ne_of_gt lS)
        refine set_loopK ((Walks.list hh3 _ l nI items).toS) s.heap.objs.size nS ks hlen hb hi ks 0 [] _ (by simp) (Nat.le_refl _) (Nat.zero_le _) ⟨⟨_, Heap.get?_push_size _ rfl, rfl, rfl⟩, (hl1.push _)⟩ ?hS0 ?hR
        case hS0 =>
          exact ⟨_, #[], 0, _, Heap.get?_push_of_some _ gS, ⟨rfl, rfl, rfl⟩, rfl, fun e he => by simp at he, fun k => by simp [inK], by decide, by rfl, rfl⟩
        case hR =>
          intro t' mv hS'
          obtain ⟨h', g', d', tk', os'⟩ := t'
          obtain rfl : g' = s.gens := mv.gens
          obtain rfl : d' = s.drawn := mv.drawn
          obtain rfl : os' = s.os := mv.os
          refine wpAny_pure ?_
          show wpAny _ _ (ret .none) _ _ _
          refine wpAny_pure ⟨rfl, h', tk', rfl, hS', fun b o hb e => ?_⟩
          refine mv.heap b o (fun z => ?_) (Heap.get?_push_of_some _ (Heap.get?_push_of_some _ e))
          rcases List.mem_cons.mp z with z | z
          · exact absurd z (Nat.ne_of_lt hb)
          · rw [sz] at z
            rcases List.mem_singleton.mp z with rfl
            exact absurd (Nat.lt_of_lt_of_le hb (Nat.le_succ _)) (Nat.lt_irrefl _)
      · cases r₂ with
        | error e => exact hr₂
        | ok fl₂ =>
          cases fl₂ with
          | ret r =>
            obtain ⟨rfl, h', tk, rfl, hS', hk'⟩ := hr₂
            repeat (any_goals (first | assumption | wp_step))
            exact h _ _ hS' hk'
          | _ => exact hr₂.elim
    | _ => exact hr.elim
end
end HR
set_option Elab.async false
set_option linter.all false
set_option maxRecDepth 100000
set_option maxHeartbeats 4000000
/-! LayH: len(set(xs)), signs of a text, in, repr; defs that may call repr. -/
namespace HR
open PySem L2
open PyProof.Rows (envOfC)
/-! ### defs called where no repr runs -/
structure FnOkG (P : Program) (w : World) (K : PySem.W.Frag) (mg : Str → Option Value) (base : Heap) (CX : CXT) (k : Nat) (f : Addr) (fd : FuncData) (ps : List Str) (sp : Sp) : Prop where
  len : ∀ vs H Q E, sp vs H Q E → vs.length = ps.length
  run : ∀ (A : Around) (out : List Env) (s : Shared) (H : Hp) (args : Args) (us : List Value) (vs : List V) (Q : VK) (E : XK), Room k A → A.guards = some [] → Env0 P w K mg base A out s H → BindsTo s fd args (ps.zip us) → Vals vs us → sp vs H Q E →
    codeAny (model P w) A (.call (.ref f) args) (CR CX out P w H s Q E) s
section
variable {P : Program} {w : World} {K : PySem.W.Frag} {mg : Str → Option Value} {base : Heap} {CX : CXT} {k : Nat} {f : Addr} {fd : FuncData} {ps : List Str} {sp : Sp}
theorem FnOkG.mono {j : Nat} (F : FnOkG P w K mg base CX j f fd ps sp) (hj : j ≤ k) : FnOkG P w K mg base CX k f fd ps sp := ⟨F.len, fun A out s H args us vs Q E hr => F.run A out s H args us vs Q E (hr.mono hj)⟩
theorem FnOkG.pure {g : FN} (F : FnOkG P w K mg base CX k f fd ps (spN K ps.length g)) : FnOkG P w K mg base CX k f fd ps (spN K ps.length (pureF g)) :=
  ⟨fun vs H Q E q => F.len vs H Q E (pure_sp q), fun A out s H args us vs Q E hr hg e0 hb r q => F.run A out s H args us vs Q E hr hg e0 hb r (pure_sp q)⟩
end
section
variable {X : Cx} {W : WX} {CX : CXT} {k : Nat} {f : Addr} {fd : FuncData} {ps : List Str} {g : FN}
/-! ### len(set(xs)) -/
theorem bootSet : bootBuiltins "set" = some (.type "set") := by decide +kernel
def keysOf : List D → Option (List Key)
  | [] => some []
  | .int i :: r => (keysOf r).map (Sum.inl i :: ·)
  | .str x :: r => (keysOf r).map (Sum.inr x :: ·)
  | _ => none
theorem keysOf_ok {K : PySem.W.Frag} {F : Hp} {m : List Addr} : ∀ {vs : List V} {ds : List D} {ks : List Key}, DenL K F m vs ds → keysOf ds = some ks → vs = ks.map kV
  | _, _, _, .nil, e => by simp only [keysOf, Option.some.injEq] at e; subst e; rfl
  | _, _, _, .cons (.int i) t, e => by
    simp only [keysOf, Option.map_eq_some_iff] at e
    obtain ⟨ks, e1, e2⟩ := e
    subst e2
    rw [keysOf_ok t e1]
    rfl
  | _, _, _, .cons (.str i) t, e => by
    simp only [keysOf, Option.map_eq_some_iff] at e
    obtain ⟨ks, e1, e2⟩ := e
    subst e2
    rw [keysOf_ok t e1]
    rfl
  | _, _, _, .cons (.non) _, e | _, _, _, .cons (.bl _) _, e | _, _, _, .cons (.lst _ _) _, e | _, _, _, .cons (.scr _ _) _, e | _, _, _, .cons (.tup _ _) _, e | _, _, _, .cons (.dct _ _) _, e | _, _, _, .cons (.obj _ _ _) _, e | _, _, _, .cons (.ref _) _, e | _, _, _, .cons (.exc _) _, e => by simp [keysOf] at e
def sLenSet (f : SE) : SE := fun e h => (f e h).bind fun d h1 => match (lsqAt h1 d).bind keysOf with
  | some ks => if ks.length ≤ 4000 then .ok (.int (ddK [] ks).length) h1 else .bad
  | none => .bad
theorem kV_keyIs {k : Key} {u : Value} (r : RelV (kV k) u) : keyIs k u = true := by
  cases k with
  | inl i =>
    obtain ⟨t, rfl⟩ := r
    exact keyIs_int i t
  | inr x =>
    obtain ⟨t, rfl⟩ := r
    exact keyIs_str x t
theorem de_lenset {a : Expr} {fa : SE} {p p2 q pos : Pos} (hc : X.calm = true) (hg : Gl X "len") (hm : X.mg "len" = none) (hg2 : Gl X "set") (hm2 : X.mg "set" = none) (ha : DE X W a fa) (na : starEach [a] X.env = (false, eval a X.env) :: starEach [] X.env := by rfl) :
    DE X W (.Call (.Name "len" p) [.Call (.Name "set" p2) [a] [] q] [] pos) (sLenSet fa) := by
  refine ⟨fun pins s σ H Q I z => PyProof.Rows.Call_ (ld_blt I hg hm PySem.boot_len (PyProof.Rows.callWith_builtin1 (PyProof.Rows.args_cons (PyProof.Rows.Call_ (ld_blt I hg2 hm2 bootSet (PyProof.Rows.callWith_type1 (PyProof.Rows.args_cons ?_ na) na rfl))) rfl) rfl rfl))⟩
  obtain ⟨P, F, m, e, h, S, E, fin⟩ := z
  have key : rdG X.K W (Den X.K) fa σ H (fun x H1 => ∃ (l : Addr) (ks : List Key), x = .ref l ∧ SqL X.K H1 l (ks.map kV) ∧ ks.length ≤ 4000 ∧ Q (.int (ddK [] ks).length) H1) := by
    refine rd_seq S E fin fun F1 m1 h1 H1 x dx x1 S1 E1 r1 fin1 => ?_
    cases q1 : lsqAt h1 dx with
    | none => rw [q1] at fin1; exact fin1.bad_elim
    | some xs =>
      rw [q1] at fin1
      simp only [Option.bind_some] at fin1
      cases q2 : keysOf xs with
      | none => rw [q2] at fin1; exact fin1.bad_elim
      | some ks =>
        rw [q2] at fin1
        dsimp only at fin1
        by_cases hz : ks.length ≤ 4000
        · rw [if_pos hz] at fin1
          obtain ⟨b, vs, rfl, hb, rl⟩ := lsqAt_ok S1 r1 q1
          rw [keysOf_ok rl q2] at hb
          exact ⟨b, ks, rfl, hb, hz, fin1.ok S1 (.int _)⟩
        · rw [if_neg hz] at fin1
          exact fin1.bad_elim
  refine thn (ha.run pins s σ H _ I key) fun v s1 ⟨x, H1, I1, r1, l, ks, ex, hq, hl, q1⟩ => PyProof.Rows.args_nil ?_
  subst ex
  cases r1
  obtain ⟨its, r, pl, hz⟩ := I1.list hq
  have hlen : ks.length = its.toArray.size := by rw [List.size_toArray, ← r.length, List.length_map]
  refine set_of_keys (I1.ok.hd hc) pl.isList hlen (fun i v hv => ?_) (by rw [← hlen]; unfold scanBound; omega) fun h' tk hS hk => PyProof.Rows.args_nil ?_
  · have hi : i < ks.length := by
      rw [hlen]
      exact (Array.getElem?_eq_some_iff.mp hv).1
    refine ⟨ks[i], List.getElem?_eq_getElem hi, ?_⟩
    obtain ⟨u, e1, ru⟩ := r.get (i := i) (x := kV ks[i]) (by simp [hi])
    have hv2 : its[i]? = some v := by simpa using hv
    rw [hv2] at e1
    obtain rfl : v = u := Option.some.inj e1
    exact kV_keyIs ru
  · obtain ⟨o, es, ep, t, ho, hex, hd, _, _, hbd, hf, hn⟩ := hS
    have I2 : Inv X pins σ H1 { s1 with heap := h', toks := tk } := I1.kept fun b o e => hk b o (Heap.lt_size e) e
    refine call_len_set ho hex hd hf (by rw [hn] at hbd ⊢; unfold scanBound at hbd; omega) ⟨.int (ddK [] ks).length, H1, I2.tok _, ⟨_, by rw [hn]⟩, q1⟩
/-! ### the signs of a text -/
def signsD (x : Str) : List D := x.cps.toList.map fun c => D.str ⟨#[c]⟩
def sItStr (f : SE) : SA := fun e h => (f e h).bind fun d h1 => match d with
  | .str x => .ok (signsD x) h1
  | _ => .bad
theorem di_str {tg a : Expr} {f : SE} (ha : DE X W a f) : DI X W tg a (sItStr f) := PI.of (pi_str ha) fun σ H R => by
  rintro ⟨P, F, m, e, h, S, E, fin⟩
  refine rd_seq S E fin fun F1 m1 h1 H1 v d x S1 E1 r fin1 => ?_
  cases r with
  | str z =>
    refine ⟨z, rfl, FinG.ok fin1 S1 ?_⟩
    intro P2 F2 m2 h2 H2 i x2 S2
    have hl : (signsD z).length = z.cps.size := by simp [signsD]
    rw [hl]
    refine ⟨fun hi => ⟨hi, fun y H' yl => ?_⟩, fun hi => hi⟩
    obtain ⟨rfl, c, ec, rfl⟩ := yl
    refine ⟨F2, .refl, S2, .str ⟨#[c]⟩, ?_, .str _⟩
    simp [signsD, ec]
  | _ => exact fin1.bad_elim
/-! ### in -/
/-- one sign in a text -/
def opInS (neg : Bool) : D → D → OH → Res D
  | .str x, .str z, h => (match x.cps.toList with
    | [c] => .ok (.bl (if neg then !decide (c ∈ z.cps.toList) else decide (c ∈ z.cps.toList))) h
    | _ => .bad)
  | _, _, _ => .bad
theorem opInS_h (neg : Bool) : OpH X.K W (opInS neg) (fun x y H Q => ∃ (c : Nat) (z : Str), x = .str ⟨#[c]⟩ ∧ y = .str z ∧ Q (.bl (if neg then !decide (c ∈ z.cps.toList) else decide (c ∈ z.cps.toList))) H) := by
  intro P F m h H σ Q x y dx dy S r1 r2 fin
  unfold opInS at fin
  split at fin
  · rename_i a z
    cases den_str r1
    cases den_str r2
    split at fin
    · rename_i c hc
      have ea : a = ⟨#[c]⟩ := by
        obtain ⟨l⟩ := a
        obtain ⟨l⟩ := l
        simp only at hc
        subst hc
        rfl
      exact ⟨c, z, by rw [ea], rfl, fin.ok S (.bl _)⟩
    · exact fin.bad_elim
  · exact fin.bad_elim
theorem de_inS {a b : Expr} {pos : Pos} {fa fb : SE} (ha : DE X W a fa) (hb : DE X W b fb) (hm : behindInMarks .In b = false := by rfl) : DE X W (.Compare a [.In] [b] pos) (sBin (opInS false) fa fb) := de_cmp op_in_sign (opInS_h false) hm ha hb
end
end HR
set_option Elab.async false
set_option linter.all false
set_option maxRecDepth 100000
set_option maxHeartbeats 4000000
/-! LayI: iteration over any sequence or text; a def as its callers take it. -/
namespace HR
open PySem L2
open PyProof.Rows (envOfC)
section
variable {X : Cx} {W : WX}
/-- a list, a tuple, a text -/
def itAt : D → Option (List D)
  | .lst xs => some xs
  | .scr xs => some xs
  | .tup xs => some xs
  | .str x => some (signsD x)
  | _ => none
def sIt (f : SE) : SA := fun e h => (f e h).bind fun d h1 => match itAt d with
  | some xs => .ok xs h1
  | none => .bad
theorem di_any {tg a : Expr} {f : SE} (ha : DE X W a f) : DI X W tg a (sIt f) := PI.of (pi_or (di_seq ha) (di_str ha)) fun σ H R => by
  rintro ⟨P, F, m, e, h, S, E, fin⟩
  unfold sIt at fin
  cases q : f e h with
  | bad => rw [q] at fin; exact fin.elim
  | exc C p h1 =>
    rw [q] at fin
    exact .inl ⟨P, F, m, e, h, S, E, by unfold sItS; rw [q]; exact fin⟩
  | ok d h1 =>
    rw [q] at fin
    cases d with
    | str x => exact .inr ⟨P, F, m, e, h, S, E, by unfold sItStr; rw [q]; exact fin⟩
    | lst xs => exact .inl ⟨P, F, m, e, h, S, E, by unfold sItS; rw [q]; exact fin⟩
    | scr xs => exact .inl ⟨P, F, m, e, h, S, E, by unfold sItS; rw [q]; exact fin⟩
    | tup xs => exact .inl ⟨P, F, m, e, h, S, E, by unfold sItS; rw [q]; exact fin⟩
    | _ => exact False.elim fin
end
/-! ### a def as its callers take it -/
structure Def (P : Program) (w : World) (K : PySem.W.Frag) (mg : Str → Option Value) (base : Heap) (CX : CXT) (k : Nat) (f : Addr) (ps : List Str) (dvs : List V) (g : FN) : Prop where
  ex : ∃ fd dus, FnOk P w K mg base CX k f fd ps (spN K ps.length g) ∧ Binds K fd ps dus ∧ Vals dvs dus
  kp : PySem.W.keepIn K (.ref f) = true
structure DefG (P : Program) (w : World) (K : PySem.W.Frag) (mg : Str → Option Value) (base : Heap) (CX : CXT) (k : Nat) (f : Addr) (ps : List Str) (dvs : List V) (g : FN) : Prop where
  ex : ∃ fd dus, FnOkG P w K mg base CX k f fd ps (spN K ps.length g) ∧ Binds K fd ps dus ∧ Vals dvs dus
  kp : PySem.W.keepIn K (.ref f) = true
section
variable {P : Program} {w : World} {K : PySem.W.Frag} {mg : Str → Option Value} {base : Heap} {CX : CXT} {k : Nat} {f : Addr} {ps : List Str} {dvs : List V} {g : FN}
theorem Def.up {j : Nat} (d : Def P w K mg base CX j f ps dvs g) (h : j ≤ k) : Def P w K mg base CX k f ps dvs g := let ⟨fd, dus, a, b, c⟩ := d.ex; ⟨⟨fd, dus, a.mono h, b, c⟩, d.kp⟩
theorem Def.pure (d : Def P w K mg base CX k f ps dvs g) : Def P w K mg base CX k f ps dvs (pureF g) := let ⟨fd, dus, a, b, c⟩ := d.ex; ⟨⟨fd, dus, FnOk.pure a, b, c⟩, d.kp⟩
theorem DefG.up {j : Nat} (d : DefG P w K mg base CX j f ps dvs g) (h : j ≤ k) : DefG P w K mg base CX k f ps dvs g := let ⟨fd, dus, a, b, c⟩ := d.ex; ⟨⟨fd, dus, a.mono h, b, c⟩, d.kp⟩
theorem DefG.pure (d : DefG P w K mg base CX k f ps dvs g) : DefG P w K mg base CX k f ps dvs (pureF g) := let ⟨fd, dus, a, b, c⟩ := d.ex; ⟨⟨fd, dus, a.pure, b, c⟩, d.kp⟩
end
section
variable {X : Cx} {W : WX} {CX : CXT} {k : Nat} {f : Addr} {ps : List Str} {g : FN}
theorem de_callF {x : Str} {p pos : Pos} {a : Expr} {es : List Expr} {fa : SA} {dvs : List V} (dd : List D) (Fk : Def X.prog X.w X.K X.mg X.base CX k f ps dvs g) (hr : Room k X.A) (hm : X.mg x = some (.ref f))
    (hdd : ∀ F m, DenL X.K F m dvs dd) (hx : ∀ σ, PassesAt CX X σ fun cls od H => W cls od σ H) (ha : DA X W (a :: es) fa) (hl : ∀ e h ds h', fa e h = .ok ds h' → ds.length = (a :: es).length) (hn : (a :: es).length + dvs.length = ps.length := by rfl) (hg : Gl X x := by rfl) (hdb : (x == ("__debug__" : Str)) = false := by decide)
    (he : starEach (a :: es) X.env = (false, eval a X.env) :: starEach es X.env := by rfl) (hpl : (backTo pos (starEach es X.env)).any (·.1) = false := by rfl) : DE X W (.Call (.Name x p) (a :: es) [] pos) (sCall (withD dd g) fa) := by
  obtain ⟨fd, dus, F1, hb, hd⟩ := Fk.ex
  exact de_call dd F1 hr hm Fk.kp hb hd hdd hn hx ha hl hg hdb he hpl
theorem de_methF {C mt : String} {o a : Expr} {es : List Expr} {apos pos : Pos} {fo : SE} {fa : SA} (pl : Sem Bool) (c : Cls X.K (He.ga X.K (Str.ofString C))) (hm : Meth X.K (He.ga X.K (Str.ofString C)) (Str.ofString mt) f) (Fk : Def X.prog X.w X.K X.mg X.base CX0 k f ps [] g) (hr : Room k X.A) (ho : DE X W o fo) (ha : DA X W (a :: es) fa)
    (hl : ∀ e h ds h', fa e h = .ok ds h' → ds.length = (a :: es).length) (hn : (a :: es).length + 1 = ps.length := by rfl) (hst : starEach (a :: es) X.env = (false, eval a X.env) :: starEach es X.env := by rfl) (hpl : (backTo pos (starEach es X.env)).any (·.1) = false := by rfl)
    (ht : eval (.Call (.Attribute o (Str.ofString mt) apos) (a :: es) [] pos) X.env = (do
      let ov ← eval o X.env
      standAt apos.atName
      let (f, first) ← holding [ov] (getMethod ov (Str.ofString mt) pl)
      callWith pos f first (backTo pos (starEach (a :: es) X.env)) (backToKw pos (keywordEach [] X.env))) := by rfl) :
    DE X W (.Call (.Attribute o (Str.ofString mt) apos) (a :: es) [] pos) (sMeth C mt g fo fa) := by
  obtain ⟨fd, dus, F1, hb, hd⟩ := Fk.ex
  cases hd
  exact de_meth pl c hm F1 hr hb ho ha hn hl hst hpl ht
theorem de_makeF {C : String} {p pos : Pos} {a : Expr} {es : List Expr} {fa : SA} (M : Mk X.K (He.ga X.K (Str.ofString C)) f) (c : Cls X.K (He.ga X.K (Str.ofString C))) (Fk : Def X.prog X.w X.K X.mg X.base CX0 k f ps [] g) (hr : Room (k + 1) X.A) (hm : X.mg (Str.ofString C) = some (.ref (He.ga X.K (Str.ofString C))))
    (ha : DA X W (a :: es) fa) (hl : ∀ e h ds h', fa e h = .ok ds h' → ds.length = (a :: es).length) (hn : (a :: es).length + 1 = ps.length := by rfl) (hg : Gl X (Str.ofString C) := by rfl) (hdb : (Str.ofString C == ("__debug__" : Str)) = false := by decide)
    (he : starEach (a :: es) X.env = (false, eval a X.env) :: starEach es X.env := by rfl) (hpl : (backTo pos (starEach es X.env)).any (·.1) = false := by rfl) : DE X W (.Call (.Name (Str.ofString C) p) (a :: es) [] pos) (sMakeP C g fa) := by
  obtain ⟨fd, dus, F1, hb, hd⟩ := Fk.ex
  cases hd
  exact de_makeP M c F1 hr hm hb ha hn hl hg hdb he hpl
end
end HR
set_option Elab.async false
set_option linter.all false
set_option maxRecDepth 20000
set_option maxHeartbeats 1000000
/-! what the plain functions give: the weakest demand -/
namespace HR
open PySem L2
section
variable {X : Cx} {W : WX}
/-! ### a list against [] -/
def rNil (K : PySem.W.Frag) (neg : Bool) : R2 := fun x y H Q => ∃ a b xs, x = .ref a ∧ y = .ref b ∧ SqL K H a xs ∧ SqL K H b [] ∧ Q (.bl (if neg then !xs.isEmpty else xs.isEmpty)) H
theorem op_nilE (hu : X.A.units + 64 < cLine) : OpR X (compareOp .Eq) (fun x y H Q => rNil X.K false x y H Q ∨ rEqD X.K x y H Q) := by
  intro pins s σ H x y v u Q I rx ry h
  rcases h with ⟨a, b, xs, rfl, rfl, ha, hb, q⟩ | h
  · cases (show v = Value.ref a from rx)
    cases (show u = Value.ref b from ry)
    obtain ⟨us, r1, p1, _⟩ := I.list ha
    obtain ⟨ws, r2, p2, _⟩ := I.list hb
    cases r2
    cases r1 with
    | nil => exact SeqAt.RcAt.lists (e := fun _ => true) p1.isList p2.isList rfl (by omega) (fun j h1 _ => absurd h1 (Nat.not_lt_zero j)) _ _ _ _ ⟨.bl true, H, I, rfl, q⟩
    | cons h t => exact SeqAt.RcAt.lists_lengths p1.isList p2.isList (by simp) (by omega) _ _ _ _ ⟨.bl false, H, I, rfl, q⟩
  · exact op_eqD hu pins s σ H x y v u Q I rx ry h
/-- == [], any list -/
def opNil (neg : Bool) : D → D → OH → Res D := fun a b h => match lsqAt h a, b with
  | some xs, .lst [] => .ok (.bl (if neg then !xs.isEmpty else xs.isEmpty)) h
  | _, _ => opEq neg a b h
theorem opNil_h (neg : Bool) : OpH X.K W (opNil neg) (fun x y H Q => rNil X.K neg x y H Q ∨ (if neg then rNeD X.K else rEqD X.K) x y H Q) := by
  intro P F m h H σ Q x y dx dy S r1 r2 fin
  have old := fun fin => opEq_h (X := X) (W := W) neg P F m h H σ Q x y dx dy S r1 r2 fin
  unfold opNil at fin
  split at fin
  · rename_i xs e
    obtain ⟨a, vs, rfl, ha, rl⟩ := lsqAt_ok S r1 e
    cases r2 with
    | @lst b ws _ q rb =>
      cases rb
      refine .inl ⟨a, b, vs, rfl, rfl, ha, .inl (.inl (S.sub _ _ q)), ?_⟩
      have e2 : vs.isEmpty = xs.isEmpty := by cases rl <;> rfl
      rw [e2]
      exact fin _ F m H (Ext.refl ..) S (.bl _)
  · exact .inr (old fin)
theorem de_eqN {a b : Expr} {pos : Pos} {fa fb : SE} (hu : X.A.units + 64 < cLine) (ha : DE X W a fa) (hb : DE X W b fb) : DE X W (.Compare a [.Eq] [b] pos) (sBin (opNil false) fa fb) := de_cmp (op_nilE hu) (opNil_h false) (nomark _) ha hb
theorem dt_eqN {a b : Expr} {pos : Pos} {fa fb : SE} (hu : X.A.units + 64 < cLine) (ha : DE X W a fa) (hb : DE X W b fb) : DT X W (.Compare a [.Eq] [b] pos) (sTest (sBin (opNil false) fa fb)) := dt_cmp (op_nilE hu) (opNil_h false) (nomark _) ha hb
end
def Res.W {α : Type} (r : Res α) (P : α → OH → Prop) : Prop := match r with
  | .ok a h => P a h
  | _ => False
/-- what follows; the loop's next round; behind the loop; the answer -/
def SRes.W (r : SRes) (N C B : Env' → OH → Prop) (R : D → OH → Prop) : Prop := match r with
  | .nx e h => N e h
  | .ct e h => C e h
  | .bk e h => B e h
  | .rt d h => R d h
  | _ => False
abbrev nov : Env' → OH → Prop := fun _ _ => False
section
variable {α β : Type} {P : α → OH → Prop} {N C B : Env' → OH → Prop} {R : D → OH → Prop} {PD : D → OH → Prop} {PL : List D → OH → Prop} {PB : Bool → OH → Prop}
theorem Res.W.out {r : Res α} (h : r.W P) : ∃ a h', r = .ok a h' ∧ P a h' := by
  cases r with
  | ok a h' => exact ⟨a, h', rfl, h⟩
  | exc _ _ _ => exact h.elim
  | bad => exact h.elim
theorem Res.W.of {r : Res α} {a : α} {h' : OH} (e : r = .ok a h') (p : P a h') : r.W P := by rw [e]; exact p
theorem Res.W.mono {r : Res α} {P' : α → OH → Prop} (h : r.W P) (m : ∀ a h', P a h' → P' a h') : r.W P' := by
  obtain ⟨a, h', e, p⟩ := h.out
  exact .of e (m a h' p)
theorem SRes.W.mono {r : SRes} {N' C' B' : Env' → OH → Prop} {R' : D → OH → Prop} (h : r.W N C B R) (m : ∀ e h', N e h' → N' e h') (m1 : ∀ e h', C e h' → C' e h') (m3 : ∀ e h', B e h' → B' e h') (m2 : ∀ d h', R d h' → R' d h') : r.W N' C' B' R' := by
  cases r with
  | nx e h' => exact m e h' h
  | rt d h' => exact m2 d h' h
  | bk e h' => exact m3 e h' h
  | ct e h' => exact m1 e h' h
  | exc _ _ _ _ => exact h.elim
  | bad => exact h.elim
@[simp] theorem W_ok (a : α) (h : OH) : (Res.ok a h).W P = P a h := rfl
@[simp] theorem W_bind (r : Res β) (f : β → OH → Res α) : (r.bind f).W P = r.W fun b h => (f b h).W P := by cases r <;> rfl
@[simp] theorem W_noX (r : Res α) : r.noX.W P = r.W P := by cases r <;> rfl
@[simp] theorem W_toS (r : Res β) (e : Env') (f : β → OH → SRes) : (r.toS e f).W N C B R = r.W fun b h => (f b h).W N C B R := by cases r <;> rfl
@[simp] theorem W_ite (c : Prop) [Decidable c] (a b : Res α) : (if c then a else b).W P = if c then a.W P else b.W P := by split <;> rfl
@[simp] theorem SW_ite (c : Prop) [Decidable c] (a b : SRes) : (if c then a else b).W N C B R = if c then a.W N C B R else b.W N C B R := by split <;> rfl
@[simp] theorem W_bad : (Res.bad : Res α).W P = False := rfl
/-! expressions -/
theorem W_sVar' (i : Nat) (e : Env') (h : OH) : (sVar i e h).W PD = match e[i]? with
  | some (some d) => PD d h
  | _ => False := by unfold sVar; split <;> simp_all
@[simp] theorem W_var0 (d : D) (e : Env') (h : OH) : (sVar 0 (some d :: e) h).W PD = PD d h := rfl
@[simp] theorem W_varS (i : Nat) (d : Option D) (e : Env') (h : OH) : (sVar (i + 1) (d :: e) h).W PD = (sVar i e h).W PD := by rw [W_sVar', W_sVar']; simp
@[simp] theorem W_c (d : D) (e : Env') (h : OH) : (sC d e h).W PD = PD d h := rfl
@[simp] theorem W_sBin (g : D → D → OH → Res D) (a b : SE) (e : Env') (h : OH) : (sBin g a b e h).W PD = (a e h).W fun x h1 => (b e h1).W fun y h2 => (g x y h2).W PD := by simp [sBin]
@[simp] theorem W_sUn (g : D → OH → Res D) (a : SE) (e : Env') (h : OH) : (sUn g a e h).W PD = (a e h).W fun x h1 => (g x h1).W PD := by simp [sUn]
@[simp] theorem W_sCall (g : List D → OH → Res D) (a : SA) (e : Env') (h : OH) : (sCall g a e h).W PD = (a e h).W fun x h1 => (g x h1).W PD := by simp [sCall]
@[simp] theorem W_sNil (e : Env') (h : OH) : (sNil e h).W PL = PL [] h := rfl
@[simp] theorem W_sCons (a : SE) (r : SA) (e : Env') (h : OH) : (sCons a r e h).W PL = (a e h).W fun x h1 => (r e h1).W fun xs h2 => PL (x :: xs) h2 := by simp [sCons]
@[simp] theorem W_sTup (a : SA) (e : Env') (h : OH) : (sTup a e h).W PD = (a e h).W fun xs h1 => if xs.length ≤ 1000000 then PD (.tup xs) h1 else False := by simp [sTup, big]
@[simp] theorem W_sLst (a : SA) (e : Env') (h : OH) : (sLst a e h).W PD = (a e h).W fun xs h1 => if xs.length ≤ 1000000 then PD (.lst xs) h1 else False := by simp [sLst, big]
@[simp] theorem W_sLstO (a : SA) (e : Env') (h : OH) : (sLstO a e h).W PD = (a e h).W fun xs h1 => if xs.length ≤ 1000000 then PD (.ref h1.length) (h1 ++ [.lst xs]) else False := by simp [sLstO, big]
theorem W_sTest' (f : SE) (e : Env') (h : OH) : (sTest f e h).W PB = (f e h).W fun d h1 => match d with
  | .bl b => PB b h1
  | _ => False := by
  unfold sTest; rw [W_bind]; congr; funext d h1; cases d <;> rfl
def isBl (d : D) (P : Bool → Prop) : Prop := match d with
  | .bl b => P b
  | _ => False
@[simp] theorem isBl_bl (b : Bool) (P : Bool → Prop) : isBl (.bl b) P = P b := rfl
@[simp] theorem W_sTest (f : SE) (e : Env') (h : OH) : (sTest f e h).W PB = (f e h).W fun d h1 => isBl d fun b => PB b h1 := by rw [W_sTest']; rfl
@[simp] theorem W_sAnd (a b : ST) (e : Env') (h : OH) : (sAnd a b e h).W PB = (a e h).W fun c h1 => if c then (b e h1).W PB else PB false h1 := by simp [sAnd]
@[simp] theorem W_sOr (a b : ST) (e : Env') (h : OH) : (sOr a b e h).W PB = (a e h).W fun c h1 => if c then PB true h1 else (b e h1).W PB := by simp [sOr]
@[simp] theorem W_sNot (a : ST) (e : Env') (h : OH) : (sNot a e h).W PB = (a e h).W fun c h1 => PB (!c) h1 := by simp [sNot]
@[simp] theorem W_sVal (a : ST) (e : Env') (h : OH) : (sVal a e h).W PD = (a e h).W fun c h1 => PD (.bl c) h1 := by simp [sVal]
@[simp] theorem W_sYes (e : Env') (h : OH) : (sYes e h).W PB = PB true h := rfl
@[simp] theorem W_sIf (c : ST) (a b : SE) (e : Env') (h : OH) : (sIf c a b e h).W PD = (c e h).W fun t h1 => if t then (a e h1).W PD else (b e h1).W PD := by simp [sIf]
@[simp] theorem W_sAndV (a b : SE) (e : Env') (h : OH) : (sAndV a b e h).W PD = (a e h).W fun d h1 => isBl d fun t => if t then (b e h1).W PD else PD (.bl false) h1 := by
  unfold sAndV; rw [W_bind]; congr; funext d h1
  cases d with
  | bl b => cases b <;> rfl
  | _ => rfl
@[simp] theorem W_sOrV (a b : SE) (e : Env') (h : OH) : (sOrV a b e h).W PD = (a e h).W fun d h1 => isBl d fun t => if t then PD (.bl true) h1 else (b e h1).W PD := by
  unfold sOrV; rw [W_bind]; congr; funext d h1
  cases d with
  | bl b => cases b <;> rfl
  | _ => rfl
@[simp] theorem W_sNotV (a : SE) (e : Env') (h : OH) : (sNotV a e h).W PD = (a e h).W fun d h1 => isBl d fun t => PD (.bl (!t)) h1 := by
  unfold sNotV; rw [W_bind]; congr; funext d h1
  cases d <;> rfl
@[simp] theorem W_frzE (f : SE) (e : Env') (h : OH) : (frzE f e h).W PD = (f e h).W fun d h1 => match d with
  | .ref i => (match h1[i]? with
    | some (.lst xs) => PD (.lst xs) (h1.set i .dead)
    | _ => False)
  | _ => False := by
  unfold frzE; rw [W_bind]; congr; funext d h1
  cases d with
  | ref i => dsimp only; split <;> simp_all
  | _ => rfl
/-! operators -/
@[simp] theorem W_opI2 (f : Int → Int → D) (c : Int → Int → Bool) (i j : Int) (h : OH) : (opI2 f c (.int i) (.int j) h).W PD = if c i j then PD (f i j) h else False := by simp [opI2]
@[simp] theorem W_addI (i j : Int) (h : OH) : (opAdd (.int i) (.int j) h).W PD = PD (.int (i + j)) h := rfl
@[simp] theorem W_mulI (i j : Int) (h : OH) : (opMul (.int i) (.int j) h).W PD = if mulOk i j then PD (.int (i * j)) h else False := by simp [opMul]
@[simp] theorem W_negI (i : Int) (h : OH) : (opNeg (.int i) h).W PD = PD (.int (-i)) h := rfl
@[simp] theorem W_absI (i : Int) (h : OH) : (opAbs (.int i) h).W PD = PD (.int (if i < 0 then -i else i)) h := rfl
@[simp] theorem W_divmod (i j : Int) (h : OH) : (opDivmod (.int i) (.int j) h).W PD = if divOk i j then PD (.tup [.int (i / j), .int (i % j)]) h else False := by simp [opDivmod]
@[simp] theorem W_b1 (f : D → OH → Res D) (d : D) (h : OH) : (b1 f [d] h).W PD = (f d h).W PD := rfl
@[simp] theorem W_b2 (f : D → D → OH → Res D) (d d2 : D) (h : OH) : (b2 f [d, d2] h).W PD = (f d d2 h).W PD := rfl
@[simp] theorem W_lenL (xs : List D) (h : OH) : (opLen (.lst xs) h).W PD = PD (.int xs.length) h := rfl
@[simp] theorem W_lenT (xs : List D) (h : OH) : (opLen (.tup xs) h).W PD = PD (.int xs.length) h := rfl
@[simp] theorem W_lenC (xs : List D) (h : OH) : (opLen (.scr xs) h).W PD = PD (.int xs.length) h := rfl
theorem W_lenS (x : Str) (h : OH) : (opLen (.str x) h).W PD = if x.length ≤ big then PD (.int x.length) h else False := by
  show (if x.length ≤ big then Res.ok (D.int x.length) h else Res.bad).W PD = _
  rw [W_ite]; rfl
@[simp] theorem W_withD (dd : List D) (g : FN) (xs : List D) (h : OH) : (withD dd g xs h).W PD = (g (xs ++ dd) h).W PD := rfl
theorem W_fn (n : Nat) (b : SS) (ds : List D) (h : OH) : (fnOf n b ds h).W PD = (b (ds.map some ++ List.replicate (n - ds.length) none) h).W (fun _ h1 => PD .non h1) nov nov PD := by
  unfold fnOf
  cases b (ds.map some ++ List.replicate (n - ds.length) none) h <;> rfl
/-! statements -/
@[simp] theorem SW_nx (e : Env') (h : OH) : (SRes.nx e h).W N C B R = N e h := rfl
@[simp] theorem SW_bad : SRes.bad.W N C B R = False := rfl
@[simp] theorem SW_rt (d : D) (h : OH) : (SRes.rt d h).W N C B R = R d h := rfl
@[simp] theorem SW_next (e : Env') (h : OH) : (sNext e h).W N C B R = N e h := rfl
@[simp] theorem SW_seq (f g : SS) (e : Env') (h : OH) : (sSeq f g e h).W N C B R = (f e h).W (fun e h => (g e h).W N C B R) C B R := by
  unfold sSeq; cases f e h <;> rfl
@[simp] theorem SW_set (i : Nat) (f : SE) (e : Env') (h : OH) : (sSet i f e h).W N C B R = (f e h).W fun d h1 => N (e.set i (some d)) h1 := by unfold sSet; rw [W_toS]; rfl
@[simp] theorem SW_ret (f : SE) (e : Env') (h : OH) : (sRet f e h).W N C B R = (f e h).W R := by unfold sRet; rw [W_toS]; rfl
@[simp] theorem SW_retN (e : Env') (h : OH) : (sRetN e h).W N C B R = R .non h := rfl
@[simp] theorem SW_expr (f : SE) (e : Env') (h : OH) : (sExpr f e h).W N C B R = (f e h).W fun _ h1 => N e h1 := by unfold sExpr; rw [W_toS]; rfl
@[simp] theorem SW_if (c : ST) (a b : SS) (e : Env') (h : OH) : (sIfS c a b e h).W N C B R = (c e h).W fun t h1 => if t then (a e h1).W N C B R else (b e h1).W N C B R := by
  unfold sIfS; rw [W_toS]; simp
@[simp] theorem SW_for (it : SA) (g : TF) (b : SS) (e : Env') (h : OH) : (sFor it g b e h).W N C B R = (it e h).W fun ds h1 => (forL g b ds e h1).W N C B R := by unfold sFor; rw [W_toS]
@[simp] theorem SW_asg (g : TF) (f : SE) (e : Env') (h : OH) : (sAsg g f e h).W N C B R = (f e h).W fun d h1 => match g d e h1 with
  | some e1 => N e1 h1
  | none => False := by
  unfold sAsg; rw [W_toS]; congr; funext d h1; split <;> simp_all
@[simp] theorem SW_brk (e : Env') (h : OH) : (sBreak e h).W N C B R = B e h := rfl
@[simp] theorem SW_cont (e : Env') (h : OH) : (sCont e h).W N C B R = C e h := rfl
@[simp] theorem gN_ev (i : Nat) (d : D) (e : Env') (h : OH) : gN i d e h = some (e.set i (some d)) := rfl
theorem W_forL {g : TF} {b : SS} (I : Nat → Env' → OH → Prop) : ∀ (ds : List D) (e : Env') (h : OH), I 0 e h → (∀ k d, ds[k]? = some d → ∀ e h, I k e h → ∃ e1, g d e h = some e1 ∧ (b e1 h).W (I (k + 1)) (I (k + 1)) N R) → (∀ e h, I ds.length e h → N e h) → (forL g b ds e h).W N C B R
  | [], e, h, i0, _, fin => fin e h i0
  | d :: ds, e, h, i0, st, fin => by
    obtain ⟨e1, q, w⟩ := st 0 d rfl e h i0
    have rest := fun e2 h2 (z : I 1 e2 h2) => W_forL (fun k => I (k + 1)) ds e2 h2 z (fun k d q => st (k + 1) d q) fin
    unfold forL
    rw [q]
    dsimp only
    cases q2 : b e1 h with
    | nx e2 h2 => rw [q2] at w; exact rest e2 h2 w
    | ct e2 h2 => rw [q2] at w; exact rest e2 h2 w
    | bk e2 h2 => rw [q2] at w; exact w
    | rt d h2 => rw [q2] at w; exact w
    | exc _ _ _ _ => rw [q2] at w; exact w.elim
    | bad => rw [q2] at w; exact w.elim
/-! reading the own heap -/
def lkL (o : Option OO) (P : List D → Prop) : Prop := match o with
  | some (.lst xs) => P xs
  | _ => False
@[simp] theorem lkL_lst (xs : List D) (P : List D → Prop) : lkL (some (.lst xs)) P = P xs := rfl
def lkS {α : Type} (o : Option α) (P : α → Prop) : Prop := match o with
  | some x => P x
  | none => False
@[simp] theorem lkS_some {α : Type} (x : α) (P : α → Prop) : lkS (some x) P = P x := rfl
theorem lkS_of {α : Type} {o : Option α} {x : α} {P : α → Prop} (e : o = some x) (p : P x) : lkS o P := by rw [e]; exact p
@[simp] theorem W_ixL (xs : List D) (i : Int) (h : OH) : (opIx (.lst xs) (.int i) h).W PD = lkS (atI xs i) fun d => PD d h := by
  simp only [opIx, seqAt]; split <;> simp_all [lkS]
@[simp] theorem W_ixT (xs : List D) (i : Int) (h : OH) : (opIx (.tup xs) (.int i) h).W PD = lkS (atI xs i) fun d => PD d h := by
  simp only [opIx, seqAt]; split <;> simp_all [lkS]
@[simp] theorem W_ixC (xs : List D) (i : Int) (h : OH) : (opIx (.scr xs) (.int i) h).W PD = lkS (atI xs i) fun d => PD d h := by
  simp only [opIx, seqAt]; split <;> simp_all [lkS]
@[simp] theorem W_ixR (n : Nat) (i : Int) (h : OH) : (opIx (.ref n) (.int i) h).W PD = lkL h[n]? fun xs => lkS (atI xs i) fun d => PD d h := by
  simp only [opIx, seqAt]
  cases h[n]? with
  | none => rfl
  | some o => cases o with
    | lst xs => simp only [lkL_lst]; split <;> simp_all [lkS]
    | _ => rfl
@[simp] theorem W_lenR (n : Nat) (h : OH) : (opLen (.ref n) h).W PD = lkL h[n]? fun xs => PD (.int xs.length) h := by
  simp only [opLen, seqAt]
  cases h[n]? with
  | none => rfl
  | some o => cases o <;> rfl
theorem ixN_z {n : Nat} {j : Int} (h0 : 0 ≤ j) (h : j < n) : ixN n j = some j.toNat := by simp [ixN, h0, h]
theorem atI_z {α : Type} {xs : List α} {j : Int} (h0 : 0 ≤ j) (h : j < xs.length) : atI xs j = xs[j.toNat]? := by simp [atI, ixN_z h0 h]
@[simp] theorem atI_0 {α : Type} (x : α) (xs : List α) : atI (x :: xs) 0 = some x := by rw [atI_z (by omega) (by simp)]; rfl
@[simp] theorem atI_1 {α : Type} (x y : α) (xs : List α) : atI (x :: y :: xs) 1 = some y := by rw [atI_z (by omega) (by simp; omega)]; rfl
@[simp] theorem atI_2 {α : Type} (x y z : α) (xs : List α) : atI (x :: y :: z :: xs) 2 = some z := by rw [atI_z (by omega) (by simp; omega)]; rfl
@[simp] theorem atI_3 {α : Type} (x y z u : α) (xs : List α) : atI (x :: y :: z :: u :: xs) 3 = some u := by rw [atI_z (by omega) (by simp; omega)]; rfl
@[simp] theorem ixN_0 (n : Nat) : ixN (n + 1) 0 = some 0 := ixN_z (by omega) (by omega)
@[simp] theorem ixN_1 (n : Nat) : ixN (n + 1 + 1) 1 = some 1 := ixN_z (by omega) (by omega)
@[simp] theorem ixN_2 (n : Nat) : ixN (n + 1 + 1 + 1) 2 = some 2 := ixN_z (by omega) (by omega)
@[simp] theorem SW_ixS (o i v : SE) (e : Env') (h : OH) : (sIxS o i v e h).W N C B R = (v e h).W fun y h1 => (o e h1).W fun x h2 => (i e h2).W fun k h3 => match x, k with
  | .ref n, .int j => lkL h3[n]? fun xs => lkS (ixN xs.length j) fun q => N e (h3.set n (.lst (xs.set q y)))
  | _, _ => False := by
  unfold sIxS
  simp only [W_toS]
  congr; funext y h1; congr; funext x h2; congr; funext k h3
  cases x <;> cases k <;> first | rfl | skip
  rename_i n j
  dsimp only
  cases h3[n]? with
  | none => rfl
  | some o => cases o with
    | lst xs => simp only [lkL_lst]; cases ixN xs.length j <;> rfl
    | _ => rfl
/-! sizes of numbers -/
def Small (i : Int) : Prop := i.natAbs < 2 ^ 4000
theorem log2_small {n k : Nat} (h : n < 2 ^ k) (hk : 0 < k) : n.log2 < k := by
  rcases Nat.eq_zero_or_pos n with h0 | h0
  · subst h0; simpa using hk
  · exact (Nat.log2_lt (by omega)).mpr h
theorem mulOk_small {i j : Int} (a : Small i) (b : Small j) : mulOk i j = true := by
  have h1 := log2_small a (by decide)
  have h2 := log2_small b (by decide)
  simp only [mulOk, Bool.or_eq_true, decide_eq_true_eq]
  omega
theorem mulOk_l {i j : Int} (a : i.natAbs < 2 ^ 64) : mulOk i j = true := by simp [mulOk, a]
theorem mulOk_r {i j : Int} (a : j.natAbs < 2 ^ 64) : mulOk i j = true := by simp [mulOk, a]
theorem divOk_small {i j : Int} (a : Small j) (b : 0 < j) : divOk i j = true := by
  have h1 := log2_small a (by decide)
  simp only [divOk, Bool.and_eq_true, decide_eq_true_eq]
  omega
theorem small_of {i : Int} {k : Nat} (h : i.natAbs < 2 ^ k) (hk : k ≤ 4000) : Small i := Nat.lt_of_lt_of_le h (Nat.pow_le_pow_right (by decide) hk)
theorem small_64 {i : Int} (h : i.natAbs < 18446744073709551616) : Small i := small_of (k := 64) h (by decide)
theorem small_lt {i : Int} (k : Nat) (h0 : 0 ≤ i) (h : i < (2 ^ k : Nat)) (hk : k ≤ 4000 := by decide) : Small i := small_of (k := k) (by omega) hk
/-! parts -/
def isI (d : D) (P : Int → Prop) : Prop := match d with
  | .int b => P b
  | _ => False
@[simp] theorem isI_int (b : Int) (P : Int → Prop) : isI (.int b) P = P b := rfl
@[simp] theorem W_rng1 (a : SE) (e : Env') (h : OH) : (sRng1 a e h).W PL = (a e h).W fun d h1 => isI d fun j => if rngOk j then PL (rngD 0 j.toNat) h1 else False := by
  unfold sRng1; rw [W_bind]; congr; funext d h1
  cases d <;> first | rfl | simp
@[simp] theorem W_rng2 (a b : SE) (e : Env') (h : OH) : (sRng2 a b e h).W PL = (a e h).W fun d h1 => (b e h1).W fun d2 h2 => isI d fun i => isI d2 fun j => if rngOk i && rngOk j then PL (rngD i (j - i).toNat) h2 else False := by
  unfold sRng2; rw [W_bind]; congr; funext d h1; rw [W_bind]; congr; funext d2 h2
  cases d <;> cases d2 <;> first | rfl | simp
@[simp] theorem W_it (f : SE) (e : Env') (h : OH) : (sIt f e h).W PL = (f e h).W fun d h1 => lkS (itAt d) fun xs => PL xs h1 := by
  unfold sIt; rw [W_bind]; congr; funext d h1
  cases itAt d <;> rfl
@[simp] theorem itAt_lst (xs : List D) : itAt (.lst xs) = some xs := rfl
@[simp] theorem itAt_tup (xs : List D) : itAt (.tup xs) = some xs := rfl
@[simp] theorem itAt_scr (xs : List D) : itAt (.scr xs) = some xs := rfl
@[simp] theorem itAt_str (x : Str) : itAt (.str x) = some (signsD x) := rfl
theorem rngD_at {lo : Int} {n k : Nat} {d : D} (h : (rngD lo n)[k]? = some d) : k < n ∧ d = .int (lo + k) := by
  simp only [rngD, List.getElem?_map, Option.map_eq_some_iff] at h
  obtain ⟨j, e1, e2⟩ := h
  obtain ⟨h1, h2⟩ := List.getElem?_eq_some_iff.mp e1
  rw [List.getElem_range] at h2
  rw [List.length_range] at h1
  subst h2
  exact ⟨h1, e2.symm⟩
@[simp] theorem rngD_len (lo : Int) (n : Nat) : (rngD lo n).length = n := by simp [rngD]
variable {PO : Option Int → OH → Prop}
@[simp] theorem W_noPart (e : Env') (h : OH) : (sNoPart e h).W PO = PO none h := rfl
@[simp] theorem W_part (f : SE) (e : Env') (h : OH) : (sPart f e h).W PO = (f e h).W fun d h1 => isI d fun j => PO (some j) h1 := by
  unfold sPart; rw [W_bind]; congr; funext d h1
  cases d <;> rfl
@[simp] theorem W_sCut (own : Bool) (a : SE) (lo hi : SO) (e : Env') (h : OH) : (sCut own a lo hi e h).W PD = (a e h).W fun x h1 => (lo e h1).W fun l h2 => (hi e h2).W fun u h3 => (opCut own x l u h3).W PD := by simp [sCut]
@[simp] theorem W_cutL (own : Bool) (xs : List D) (lo hi : Option Int) (h : OH) : (opCut own (.lst xs) lo hi h).W PD = if own then PD (.ref h.length) (h ++ [.lst (cutD xs lo hi)]) else PD (.lst (cutD xs lo hi)) h := by
  simp [opCut, lsqAt, seqAt]
@[simp] theorem W_cutC (own : Bool) (xs : List D) (lo hi : Option Int) (h : OH) : (opCut own (.scr xs) lo hi h).W PD = if own then PD (.ref h.length) (h ++ [.lst (cutD xs lo hi)]) else PD (.lst (cutD xs lo hi)) h := by
  simp [opCut, lsqAt, seqAt]
theorem cutD_take (xs : List D) (k : Int) (hk : 0 ≤ k) : cutD xs none (some k) = xs.take k.toNat := by
  have e : ¬ k < 0 := by omega
  simp only [cutD, HT.sIx, e, if_false, List.drop_zero, Nat.sub_zero]
  rw [List.take_eq_take_iff]
  omega
theorem cutD_drop (xs : List D) (k : Int) (hk : 0 ≤ k) : cutD xs (some k) none = xs.drop k.toNat := by
  have e : ¬ k < 0 := by omega
  simp only [cutD, HT.sIx, e, if_false]
  rw [List.take_of_length_le (by simp)]
  rcases Nat.le_total k.toNat xs.length with h | h
  · rw [Nat.min_eq_left h]
  · rw [Nat.min_eq_right h, List.drop_length, List.drop_eq_nil_of_le h]
/-! methods of own lists -/
@[simp] theorem W_sMtO (g : Nat → List D → List D → OH → Res D) (o : SE) (a : SA) (e : Env') (h : OH) : (sMtO g o a e h).W PD = (o e h).W fun x h1 => match x with
  | .ref i => lkL h1[i]? fun _ => (a e h1).W fun ys h2 => lkL h2[i]? fun xs => (g i xs ys h2).W PD
  | _ => False := by
  unfold sMtO
  rw [W_bind]; congr; funext x h1
  cases x with
  | ref i =>
    rcases q : h1[i]? with _ | o
    · simp [isOwn, q, lkL]
    · cases o with
      | lst xs =>
        simp only [isOwn, q, lkL_lst, if_true, W_bind]
        congr; funext ys h2
        rcases q2 : h2[i]? with _ | o
        · rfl
        · cases o <;> rfl
      | _ => simp [isOwn, q, lkL]
  | _ => rfl
@[simp] theorem W_append (i : Nat) (xs : List D) (y : D) (h : OH) : (gAppend i xs [y] h).W PD = if xs.length < 1000000 then PD .non (h.set i (.lst (xs ++ [y]))) else False := by simp [gAppend, big]
/-! comprehensions -/
@[simp] theorem W_sLc (own : Bool) (it : SA) (g : TF) (tt : ST) (el : SE) (vs : List Nat) (e : Env') (h : OH) : (sLc own it g tt el vs e h).W PD = (it e h).W fun ds h1 => (lcGo g tt el (wipeD e vs) ds h1 []).W fun acc h2 => if own then PD (.ref h2.length) (h2 ++ [.lst acc]) else PD (.lst acc) h2 := by
  simp [sLc]
theorem W_lcGo {g : TF} {tt : ST} {el : SE} {e : Env'} (I : Nat → List D → OH → Prop) : ∀ (ds : List D) (h : OH) (acc : List D), I 0 acc h → (∀ k d, ds[k]? = some d → ∀ acc h, I k acc h → ∃ e1, g d e h = some e1 ∧ (tt e1 h).W fun b h1 => if b then (el e1 h1).W fun y h2 => acc.length < 1000000 ∧ I (k + 1) (acc ++ [y]) h2 else I (k + 1) acc h1) →
    (∀ acc h, I ds.length acc h → PL acc h) → (lcGo g tt el e ds h acc).W PL
  | [], h, acc, i0, _, fin => fin acc h i0
  | d :: ds, h, acc, i0, st, fin => by
    obtain ⟨e1, q, w⟩ := st 0 d rfl acc h i0
    have rest := fun acc2 h2 (z : I 1 acc2 h2) => W_lcGo (fun k => I (k + 1)) ds h2 acc2 z (fun k d q => st (k + 1) d q) fin
    unfold lcGo
    rw [q]
    dsimp only
    rw [W_bind, W_noX]
    refine w.mono fun b h1 hw => ?_
    cases b with
    | true =>
      simp only [if_true] at hw ⊢
      rw [W_bind, W_noX]
      refine hw.mono fun y h2 hw2 => ?_
      rw [if_pos hw2.1]
      exact rest _ _ hw2.2
    | false => exact rest _ _ hw
/-- nothing is changed on the way -/
theorem W_lcMap {ξ : Type} {g : TF} {tt : ST} {el : SE} {e : Env'} (xs : List ξ) (emb : ξ → D) (p : ξ → Bool) (f : ξ → D) (h : OH) (hb : xs.length ≤ big)
    (st : ∀ x ∈ xs, ∃ e1, g (emb x) e h = some e1 ∧ (tt e1 h).W fun b h1 => b = p x ∧ h1 = h ∧ (p x = true → (el e1 h1).W fun y h2 => y = f x ∧ h2 = h)) (fin : PL ((xs.filter p).map f) h) : (lcGo g tt el e (xs.map emb) h []).W PL := by
  refine W_lcGo (fun k acc h' => h' = h ∧ acc = ((xs.take k).filter p).map f) _ _ _ ⟨rfl, rfl⟩ (fun k d hd acc h' hI => ?_) (fun acc h' hI => ?_)
  · obtain ⟨rfl, rfl⟩ := hI
    rw [List.getElem?_map, Option.map_eq_some_iff] at hd
    obtain ⟨x, hx, rfl⟩ := hd
    have hk := (List.getElem?_eq_some_iff.mp hx).1
    obtain ⟨e1, q, w⟩ := st x (List.mem_of_getElem? hx)
    refine ⟨e1, q, w.mono fun b h1 z => ?_⟩
    obtain ⟨rfl, rfl, z⟩ := z
    have ht : xs.take (k + 1) = xs.take k ++ [x] := by
      rw [List.take_succ, hx]; rfl
    cases hp : p x with
    | true =>
      rw [if_pos rfl]
      refine (z hp).mono fun y h2 z => ?_
      obtain ⟨rfl, rfl⟩ := z
      refine ⟨?_, rfl, ?_⟩
      · have a1 := List.length_filter_le p (xs.take k)
        have a2 : (xs.take k).length ≤ k := List.length_take_le ..
        have hb' : xs.length ≤ 1000000 := hb
        rw [List.length_map]
        omega
      · rw [ht]; simp [hp]
    | false => exact ⟨rfl, by rw [ht]; simp [hp]⟩
  · obtain ⟨rfl, rfl⟩ := hI
    simpa using fin
end
end HR
set_option Elab.async false
set_option linter.all false
set_option maxRecDepth 20000
set_option maxHeartbeats 1000000
/-! more of what the plain functions give -/
namespace HR
open PySem L2
section
variable {α β : Type} {P : α → OH → Prop} {N C B : Env' → OH → Prop} {R : D → OH → Prop} {PD : D → OH → Prop} {PL : List D → OH → Prop} {PB : Bool → OH → Prop}
theorem pure_eq {f : FN} {ds : List D} {x : D} (h : OH) (hp : D.pureL ds = true) (hx : x.pure = true) (w : (f ds []).W fun d _ => d = x) : pureF f ds h = .ok x h := by
  obtain ⟨a, h', e, rfl⟩ := w.out
  simp [pureF, hp, e, hx]
theorem pureL_map {ξ : Type} (f : ξ → D) (hf : ∀ x, (f x).pure = true) : ∀ l : List ξ, D.pureL (l.map f) = true
  | [] => rfl
  | x :: l => by simp [D.pureL, hf x, pureL_map f hf l]
@[simp] theorem pureL_nil : D.pureL [] = true := rfl
@[simp] theorem pureL_cons (x : D) (l : List D) : D.pureL (x :: l) = (x.pure && D.pureL l) := rfl
@[simp] theorem pureF_nil : D.pureF [] = true := rfl
@[simp] theorem pureF_cons (x : String × D) (l : List (String × D)) : D.pureF (x :: l) = (x.2.pure && D.pureF l) := rfl
@[simp] theorem pure_non : D.non.pure = true := rfl
@[simp] theorem pure_int (i : Int) : (D.int i).pure = true := rfl
@[simp] theorem pure_str (i : Str) : (D.str i).pure = true := rfl
@[simp] theorem pure_bl (i : Bool) : (D.bl i).pure = true := rfl
@[simp] theorem pure_lst (l : List D) : (D.lst l).pure = D.pureL l := rfl
@[simp] theorem pure_tup (l : List D) : (D.tup l).pure = D.pureL l := rfl
@[simp] theorem pure_scr (l : List D) : (D.scr l).pure = D.pureL l := rfl
@[simp] theorem pure_obj (C : String) (l : List (String × D)) : (D.obj C l).pure = D.pureF l := rfl
@[simp] theorem pureL_ints (l : List Int) : D.pureL (l.map D.int) = true := pureL_map _ (fun _ => rfl) l
@[simp] theorem pureL_strs (l : List Str) : D.pureL (l.map D.str) = true := pureL_map _ (fun _ => rfl) l
/-! == -/
@[simp] theorem W_eqI (neg : Bool) (i j : Int) (h : OH) : (opEq neg (.int i) (.int j) h).W PD = PD (.bl (if neg then !(i == j) else i == j)) h := by
  simp [opEq, SeqAt.shaped, PyData.canLay0, PyData.depth, PyData.eqv]
theorem W_eqS (neg : Bool) (x y : Str) (h : OH) (hx : PyData.strOk x = true) (hy : PyData.strOk y = true) : (opEq neg (.str x) (.str y) h).W PD = PD (.bl (if neg then !(x == y) else x == y)) h := by
  simp [opEq, SeqAt.shaped, PyData.canLay0, PyData.depth, PyData.eqv, hx, hy]
@[simp] theorem W_nilL (neg : Bool) (xs : List D) (h : OH) : (opNil neg (.lst xs) (.lst []) h).W PD = PD (.bl (if neg then !xs.isEmpty else xs.isEmpty)) h := by simp [opNil, lsqAt, seqAt]
@[simp] theorem W_isNon (neg : Bool) (h : OH) : (opIs neg .non .non h).W PD = PD (.bl (!neg)) h := by simp [opIs]
@[simp] theorem W_isInt (neg : Bool) (i : Int) (h : OH) : (opIs neg (.int i) .non h).W PD = PD (.bl neg) h := by simp [opIs]
@[simp] theorem W_isStr (neg : Bool) (i : Str) (h : OH) : (opIs neg (.str i) .non h).W PD = PD (.bl neg) h := by simp [opIs]
@[simp] theorem W_isLst (neg : Bool) (i : List D) (h : OH) : (opIs neg (.lst i) .non h).W PD = PD (.bl neg) h := by simp [opIs]
@[simp] theorem W_isTup (neg : Bool) (i : List D) (h : OH) : (opIs neg (.tup i) .non h).W PD = PD (.bl neg) h := by simp [opIs]
@[simp] theorem W_sChain (g g' : D → D → OH → Res D) (a b c : SE) (e : Env') (h : OH) : (sChain g g' a b c e h).W PD = (a e h).W fun x h1 => (b e h1).W fun y h2 => (g x y h2).W fun z h3 => isBl z fun t => if t then (c e h3).W fun u h4 => (g' y u h4).W PD else PD (.bl false) h3 := by
  unfold sChain
  rw [W_bind]; congr; funext x h1; rw [W_bind]; congr; funext y h2; rw [W_bind]; congr; funext z h3
  cases z with
  | bl t => cases t <;> simp
  | _ => rfl
@[simp] theorem W_sIsi (ts : List String) (f : SE) (e : Env') (h : OH) : (sIsi ts f e h).W PD = (f e h).W fun d h1 => lkS (tyAt h1 d) fun t => PD (.bl (ts.any fun T => isiB t T)) h1 := by
  unfold sIsi; rw [W_bind]; congr; funext d h1
  cases tyAt h1 d <;> rfl
@[simp] theorem ty_non (h : OH) : tyAt h .non = some "NoneType" := rfl
@[simp] theorem ty_bl (h : OH) (b : Bool) : tyAt h (.bl b) = some "bool" := rfl
@[simp] theorem ty_int (h : OH) (i : Int) : tyAt h (.int i) = some "int" := rfl
@[simp] theorem ty_str (h : OH) (x : Str) : tyAt h (.str x) = some "str" := rfl
@[simp] theorem ty_lst (h : OH) (xs : List D) : tyAt h (.lst xs) = some "list" := rfl
@[simp] theorem ty_scr (h : OH) (xs : List D) : tyAt h (.scr xs) = some "list" := rfl
@[simp] theorem ty_tup (h : OH) (xs : List D) : tyAt h (.tup xs) = some "tuple" := rfl
@[simp] theorem isi_ss : isiB "str" "str" = true := by decide
@[simp] theorem isi_ii : isiB "int" "int" = true := by decide
@[simp] theorem isi_bi : isiB "bool" "int" = true := by decide
@[simp] theorem isi_ib : isiB "int" "bool" = false := by decide
@[simp] theorem isi_ll : isiB "list" "list" = true := by decide
@[simp] theorem isi_lt : isiB "list" "tuple" = false := by decide
@[simp] theorem isi_tl : isiB "tuple" "list" = false := by decide
@[simp] theorem isi_tt : isiB "tuple" "tuple" = true := by decide
@[simp] theorem isi_si : isiB "str" "int" = false := by decide
@[simp] theorem isi_is : isiB "int" "str" = false := by decide
@[simp] theorem isi_sl : isiB "str" "list" = false := by decide
@[simp] theorem isi_st : isiB "str" "tuple" = false := by decide
@[simp] theorem isi_il : isiB "int" "list" = false := by decide
@[simp] theorem isi_it : isiB "int" "tuple" = false := by decide
@[simp] theorem W_inS (neg : Bool) (c : Nat) (z : Str) (h : OH) : (opInS neg (.str ⟨#[c]⟩) (.str z) h).W PD = PD (.bl (if neg then !decide (c ∈ z.cps.toList) else decide (c ∈ z.cps.toList))) h := by simp [opInS]
/-! all, any, sum, tuple, list -/
@[simp] theorem W_allL (xs : List D) (h : OH) : (opAll (.lst xs) h).W PD = lkS (bsOf xs) fun bs => PD (.bl (bs.all id)) h := by
  simp only [opAll, lsqAt, seqAt, Option.bind_some]; split <;> simp_all [lkS]
@[simp] theorem W_anyL (xs : List D) (h : OH) : (opAny (.lst xs) h).W PD = lkS (bsOf xs) fun bs => PD (.bl (bs.any id)) h := by
  simp only [opAny, lsqAt, seqAt, Option.bind_some]; split <;> simp_all [lkS]
@[simp] theorem W_sumL (xs : List D) (h : OH) : (opSum (.lst xs) h).W PD = lkS (intsOf xs) fun ns => PD (.int ns.sum) h := by
  simp only [opSum, lsqAt, seqAt, Option.bind_some]; split <;> simp_all [lkS]
@[simp] theorem bs_nil : bsOf [] = some [] := rfl
@[simp] theorem bs_cons (b : Bool) (l : List D) : bsOf (.bl b :: l) = (bsOf l).map (b :: ·) := rfl
theorem bs_mapF {ξ : Type} (f : ξ → Bool) : ∀ l : List ξ, bsOf (l.map fun x => .bl (f x)) = some (l.map f)
  | [] => rfl
  | x :: l => by simp [bs_mapF f l]
@[simp] theorem W_tupT (xs : List D) (h : OH) : (opTuple (.tup xs) h).W PD = PD (.tup xs) h := rfl
@[simp] theorem W_tupL (xs : List D) (h : OH) : (opTuple (.lst xs) h).W PD = PD (.tup xs) h := rfl
/-! comprehensions over what is written -/
@[simp] theorem W_lc_nil (g : TF) (tt : ST) (el : SE) (e : Env') (h : OH) (acc : List D) : (lcGo g tt el e [] h acc).W PL = PL acc h := rfl
@[simp] theorem W_lc_cons (g : TF) (tt : ST) (el : SE) (e : Env') (d : D) (ds : List D) (h : OH) (acc : List D) : (lcGo g tt el e (d :: ds) h acc).W PL = lkS (g d e h) fun e1 => (tt e1 h).W fun b h1 => if b then (el e1 h1).W fun y h2 => if acc.length < 1000000 then (lcGo g tt el e ds h2 (acc ++ [y])).W PL else False else (lcGo g tt el e ds h1 acc).W PL := by
  rw [lcGo]
  cases g d e h with
  | none => rfl
  | some e1 =>
    simp only [lkS_some, W_bind, W_noX]
    congr; funext b h1
    cases b <;> simp [big]
theorem W_lcMap1 {ξ : Type} {g : TF} {tt : ST} {el : SE} {e : Env'} (xs : List ξ) (emb : ξ → D) (f : ξ → D) (h : OH) (hb : xs.length ≤ big)
    (st : ∀ x ∈ xs, ∃ e1, g (emb x) e h = some e1 ∧ (tt e1 h).W fun b h1 => b = true ∧ h1 = h ∧ (el e1 h1).W fun y h2 => y = f x ∧ h2 = h) (fin : PL (xs.map f) h) : (lcGo g tt el e (xs.map emb) h []).W PL :=
  W_lcMap xs emb (fun _ => true) f h hb (fun x hx => by
    obtain ⟨e1, q, w⟩ := st x hx
    exact ⟨e1, q, w.mono fun b h1 z => ⟨z.1, z.2.1, fun _ => z.2.2⟩⟩) (by rw [List.filter_eq_self.mpr (fun _ _ => rfl)]; exact fin)
/-! objects -/
@[simp] theorem W_fld (f : String) (d : D) (h : OH) : (opFld f d h).W PD = lkS (insAt h d) fun q => lkS (q.2.lookup f) fun x => PD x h := by
  unfold opFld
  cases insAt h d with
  | none => rfl
  | some q => simp only [lkS_some]; cases q.2.lookup f <;> rfl
@[simp] theorem ins_obj (C : String) (fs : List (String × D)) (h : OH) : insAt h (.obj C fs) = some (C, fs) := rfl
theorem ins_ref {i : Nat} {h : OH} {C : String} {fs : List (String × D)} (e : h[i]? = some (.ins C fs)) : insAt h (.ref i) = some (C, fs) := by simp [insAt, e]
@[simp] theorem ins_ref0 (C : String) (fs : List (String × D)) (h : OH) : insAt (.ins C fs :: h) (.ref 0) = some (C, fs) := rfl
def lkI (o : Option OO) (P : String → List (String × D) → Prop) : Prop := match o with
  | some (.ins C fs) => P C fs
  | _ => False
@[simp] theorem lkI_ins (C : String) (fs : List (String × D)) (P : String → List (String × D) → Prop) : lkI (some (.ins C fs)) P = P C fs := rfl
def isR (d : D) (P : Nat → Prop) : Prop := match d with
  | .ref i => P i
  | _ => False
@[simp] theorem isR_ref (i : Nat) (P : Nat → Prop) : isR (.ref i) P = P i := rfl
@[simp] theorem SW_fldS (K f : String) (o v : SE) (e : Env') (h : OH) : (sFldS K f o v e h).W N C B R = (v e h).W fun y h1 => (o e h1).W fun x h2 => isR x fun i => lkI h2[i]? fun K' fs => if K' = K ∧ fs.length < 900 then N e (h2.set i (.ins K (putS f y fs))) else False := by
  unfold sFldS
  simp only [W_toS]
  congr; funext y h1; congr; funext x h2
  cases x <;> first | rfl | skip
  rename_i i
  simp only [isR_ref]
  rcases h2[i]? with _ | o
  · rfl
  · cases o <;> first | rfl | simp
@[simp] theorem putS_nil (f : String) (d : D) : putS f d [] = [(f, d)] := rfl
@[simp] theorem putS_cons (f : String) (d : D) (q : String × D) (r : List (String × D)) : putS f d (q :: r) = if q.1 = f then (q.1, d) :: r else q :: putS f d r := by
  obtain ⟨g, x⟩ := q; rfl
theorem W_makeP {K : String} {g : FN} {a : SA} {e : Env'} {h : OH} (w : (a e h).W fun ys h1 => D.pureL ys = true ∧ (g (.ref 0 :: ys) [.ins K []]).W fun d h2 => d = .non ∧ ∃ fs t, h2 = .ins K fs :: t ∧ D.pureF fs = true ∧ PD (.obj K fs) h1) : (sMakeP K g a e h).W PD := by
  unfold sMakeP
  rw [W_bind]
  refine w.mono fun ys h1 z => ?_
  obtain ⟨hp, z⟩ := z
  obtain ⟨d, h2, q, rfl, fs, t, rfl, hf, p⟩ := z.out
  rw [if_pos hp, q]
  simp [hf, p]
/-- no field hides the method -/
def hasNo (fs : List (String × D)) (mt : String) : Prop := fs.lookup mt = none
@[simp] theorem W_sMeth (K mt : String) (g : FN) (o : SE) (a : SA) (e : Env') (h : OH) : (sMeth K mt g o a e h).W PD = (o e h).W fun x h1 => lkS (insAt h1 x) fun q => q.1 = K ∧ hasNo q.2 mt ∧ (a e h1).W fun ys h2 => (g (x :: ys) h2).W PD := by
  unfold sMeth
  rw [W_bind]; congr; funext x h1
  cases insAt h1 x with
  | none => rfl
  | some q =>
    simp only [lkS_some]
    by_cases hz : q.1 = K ∧ q.2.lookup mt = none
    · have h1 : q.1 = K := hz.1
      have h2 : hasNo q.2 mt := hz.2
      rw [if_pos hz]
      simp [h1, h2]
    · rw [if_neg hz]
      exact propext ⟨fun z => z.elim, fun z => absurd ⟨z.1, z.2.1⟩ hz⟩
end
/-! keys -/
theorem ddK_nodup : ∀ (ks acc : List Key), ks.Nodup → (∀ x ∈ ks, x ∉ acc) → ddK acc ks = acc ++ ks
  | [], acc, _, _ => by simp [ddK]
  | x :: r, acc, nd, hn => by
    have n1 : inK acc x = false := by
      simp only [inK, List.any_eq_false, decide_eq_true_eq]
      intro y hy e
      exact hn x List.mem_cons_self (e ▸ hy)
    have nd' := List.nodup_cons.mp nd
    rw [ddK, n1, ddK_nodup r _ nd'.2]
    · simp
    · intro y hy hm
      simp only [Bool.false_eq_true, if_false, List.mem_append, List.mem_singleton] at hm
      rcases hm with hm | hm
      · exact hn y (List.mem_cons_of_mem _ hy) hm
      · subst hm; exact nd'.1 hy
theorem keys_strs : ∀ l : List Str, keysOf (l.map D.str) = some (l.map Sum.inr)
  | [] => rfl
  | x :: l => by simp [keysOf, keys_strs l]
end HR
set_option Elab.async false
set_option linter.all false
set_option maxRecDepth 20000
set_option maxHeartbeats 1000000
/-! range with the step -1, enumerate, zip -/
namespace HR
open PySem L2 RZ
section
variable {X : Cx} {W : WX}
def rngS (lo c : Int) (n : Nat) : List D := (List.range n).map fun (k : Nat) => D.int (lo + k * c)
@[simp] theorem rngS_len (lo c : Int) (n : Nat) : (rngS lo c n).length = n := by simp [rngS]
theorem rngS_at {lo c : Int} {n k : Nat} {d : D} (h : (rngS lo c n)[k]? = some d) : k < n ∧ d = .int (lo + k * c) := by
  simp only [rngS, List.getElem?_map, Option.map_eq_some_iff] at h
  obtain ⟨j, e1, e2⟩ := h
  obtain ⟨h1, h2⟩ := List.getElem?_eq_some_iff.mp e1
  rw [List.getElem_range] at h2
  rw [List.length_range] at h1
  subst h2
  exact ⟨h1, e2.symm⟩
theorem walks_rngS {K : PySem.W.Frag} {F : Hp} {m : List Addr} (lo c : Int) (n : Nat) : Walks K F m (Itc lo c n) (rngS lo c n) := by
  intro P F2 m2 h H i x S
  rw [rngS_len]
  refine ⟨fun hi => ⟨hi, fun y H' yl => ?_⟩, fun hi => hi⟩
  obtain ⟨rfl, rfl⟩ := yl
  exact ⟨F2, .refl, S, .int (lo + i * c), by simp [rngS, hi], .int _⟩
/-- range(a, b, -1) -/
def sRngN (a : SA) : SA := fun e h => (a e h).bind fun ds h1 => match ds with
  | [.int i, .int j, .int k] => if rngOk i && (rngOk j && decide (k = -1)) then .ok (rngS i (-1) (i - j).toNat) h1 else .bad
  | _ => .bad
theorem denL3 {K : PySem.W.Frag} {F : Hp} {m : List Addr} {vs : List V} {x y z : D} (r : DenL K F m vs [x, y, z]) : ∃ u v w, vs = [u, v, w] ∧ Den K F m u x ∧ Den K F m v y ∧ Den K F m w z := by
  cases r with
  | cons a t => cases t with
    | cons b t => cases t with
      | cons c t => cases t; exact ⟨_, _, _, rfl, a, b, c⟩
theorem di_rngN {tg a b c : Expr} {f g k : SE} {p pos : Pos} (hg : Gl X "range") (hm : X.mg "range" = none) (ha : DE X W a f) (hb : DE X W b g) (hc : DE X W c k) (he : starEach [a, b, c] X.env = (false, eval a X.env) :: starEach [b, c] X.env := by rfl) (he2 : starEach [b, c] X.env = (false, eval b X.env) :: starEach [c] X.env := by rfl) (he3 : starEach [c] X.env = (false, eval c X.env) :: starEach [] X.env := by rfl)
    (hpl : (backTo pos (starEach [b, c] X.env)).any (·.1) = false := by rfl) : DI X W tg (.Call (.Name "range" p) [a, b, c] [] pos) (sRngN (sCons f (sCons g (sCons k sNil)))) :=
  PI.of (pi_range3 hg hm (da_cons ha (da_cons hb (da_cons hc da_nil he3) he2) he) he hpl) fun σ H R => by
    rintro ⟨P, F, m, e, h, S, E, fin⟩
    refine ⟨P, F, m, e, h, S, E, ?_⟩
    unfold sRngN at fin
    cases q : (sCons f (sCons g (sCons k sNil))) e h with
    | bad => rw [q] at fin; exact fin.elim
    | exc C p h1 => rw [q] at fin; exact fin
    | ok ds h1 =>
      rw [q] at fin
      simp only [Res.bind_ok] at fin
      intro vs F1 m1 H1 x S1 r
      match ds, fin, r with
      | [.int i, .int j, .int l], fin, r =>
        obtain ⟨u, v, w, rfl, r1, r2, r3⟩ := denL3 r
        cases den_int r1
        cases den_int r2
        cases den_int r3
        dsimp only at fin
        by_cases hk : (rngOk i && (rngOk j && decide (l = -1))) = true
        · rw [if_pos hk] at fin
          obtain ⟨k1, k2⟩ := and2 hk
          obtain ⟨k4, k3⟩ := and2 k2
          have k1 := rngOk_ok k1
          have k4 := rngOk_ok k4
          have k3 : l = -1 := of_decide_eq_true k3
          subst k3
          exact ⟨i, j, -1, _, rfl, RgC.neg k1.1 k1.2 k4.1 k4.2, FinG.okX fin x S1 (walks_rngS i (-1) _)⟩
        · rw [if_neg hk] at fin
          exact fin.elim
/-! enumerate(list), zip(a, b) -/
def enumD (xs : List D) : List D := xs.mapIdx fun i x => .tup [.int (i : Nat), x]
theorem walks_enum {K : PySem.W.Frag} {F : Hp} {m : List Addr} {a : Addr} {vs : List V} {xs : List D} (q : SqL K F a vs) (r : DenL K F m vs xs) : Walks K F m (Ite K a) (enumD xs) := by
  intro P F2 m2 h H i x S
  have q2 : SqL K H a vs := S.sub.seq (x.s.seq q)
  have hl : (enumD xs).length = xs.length := by simp [enumD]
  rw [hl]
  refine ⟨fun hi => ?_, fun hi => ⟨vs, q2, by rw [r.length]; exact hi⟩⟩
  have hv : i < vs.length := by rw [r.length]; exact hi
  refine ⟨⟨vs, vs[i], q2, List.getElem?_eq_getElem hv⟩, fun y H' yl => ?_⟩
  obtain ⟨T, z, rfl, hT, rfl, yl⟩ := yl
  obtain ⟨d, e1, r1⟩ := r.getV (yl vs q2)
  have x2 := S.extF (o := .tup [.int (i : Nat), z]) hT
  exact ⟨_, x2, S.frozen hT, .tup [.int (i : Nat), d], by simp [enumD, e1], .tup (.inl (.inl upd_same)) (.cons (.int _) (.cons (r1.mono (x.trans x2)) .nil))⟩
def sEnum (f : SA) : SA := fun e h => (f e h).bind fun ds h1 => match ds with
  | [d] => (match frzAt d with
    | some xs => .ok (enumD xs) h1
    | none => .bad)
  | _ => .bad
theorem di_enum {elts : List Expr} {kk : Nat} {tpos : Pos} {a : Expr} {f : SE} {p pos : Pos} (hg : Gl X "enumerate") (hm : X.mg "enumerate" = none) (ha : DE X W a f) (he : starEach [a] X.env = (false, eval a X.env) :: starEach [] X.env := by rfl) (hs : starEach [a] X.env = [(false, eval a X.env)] := by rfl) :
    DI X W (.Tuple elts kk tpos) (.Call (.Name "enumerate" p) [a] [] pos) (sEnum (sCons f sNil)) :=
  PI.of (pi_enum hg hm (da_cons ha da_nil he) hs) fun σ H R => by
    rintro ⟨P, F, m, e, h, S, E, fin⟩
    refine ⟨P, F, m, e, h, S, E, ?_⟩
    unfold sEnum at fin
    cases q : (sCons f sNil) e h with
    | bad => rw [q] at fin; exact fin.elim
    | exc C p h1 => rw [q] at fin; exact fin
    | ok ds h1 =>
      rw [q] at fin
      simp only [Res.bind_ok] at fin
      intro vs F1 m1 H1 x S1 r
      match ds, fin, r with
      | [d], fin, r =>
        obtain ⟨v, rfl, r1⟩ := denL1 r
        dsimp only at fin
        cases q3 : frzAt d with
        | none => rw [q3] at fin; exact fin.elim
        | some xs =>
          rw [q3] at fin
          obtain ⟨b, ws, rfl, hb, rl⟩ := den_sq r1 q3
          exact ⟨b, ws, rfl, S1.sub.seq hb, FinG.okX fin x S1 (walks_enum hb rl)⟩
def zipD (xs ys : List D) : List D := List.zipWith (fun x y => D.tup [x, y]) xs ys
def zipAt : D → D → Option (List D)
  | .tup xs, .tup ys => some (zipD xs ys)
  | a, b => match frzAt a, frzAt b with
    | some xs, some ys => some (zipD xs ys)
    | _, _ => none
def sZip (f : SA) : SA := fun e h => (f e h).bind fun ds h1 => match ds with
  | [d, d2] => (match zipAt d d2 with
    | some xs => .ok xs h1
    | none => .bad)
  | _ => .bad
end
section
variable {PL : List D → OH → Prop}
theorem W_rngN (a : SA) (e : Env') (h : OH) : (sRngN a e h).W PL = (a e h).W fun ds h1 => match ds with
  | [.int i, .int j, .int k] => if rngOk i && (rngOk j && decide (k = -1)) then PL (rngS i (-1) (i - j).toNat) h1 else False
  | _ => False := by
  unfold sRngN; rw [W_bind]; congr; funext ds h1
  split
  · split <;> rfl
  · rfl
@[simp] theorem W_rngN3 (f g k : SE) (e : Env') (h : OH) : (sRngN (sCons f (sCons g (sCons k sNil))) e h).W PL = (f e h).W fun a h1 => (g e h1).W fun b h2 => (k e h2).W fun c h3 => isI a fun i => isI b fun j => isI c fun l => if rngOk i && (rngOk j && decide (l = -1)) then PL (rngS i (-1) (i - j).toNat) h3 else False := by
  rw [W_rngN]; simp only [W_sCons, W_sNil]
  congr; funext a h1; congr; funext b h2; congr; funext c h3
  cases a <;> cases b <;> cases c <;> rfl
@[simp] theorem W_enum (f : SE) (e : Env') (h : OH) : (sEnum (sCons f sNil) e h).W PL = (f e h).W fun d h1 => lkS (frzAt d) fun xs => PL (enumD xs) h1 := by
  unfold sEnum; rw [W_bind]; simp only [W_sCons, W_sNil]; congr; funext d h1
  cases frzAt d <;> rfl
@[simp] theorem W_zip (f g : SE) (e : Env') (h : OH) : (sZip (sCons f (sCons g sNil)) e h).W PL = (f e h).W fun d h1 => (g e h1).W fun d2 h2 => lkS (zipAt d d2) fun xs => PL xs h2 := by
  unfold sZip; rw [W_bind]; simp only [W_sCons, W_sNil]; congr; funext d h1; congr; funext d2 h2
  cases zipAt d d2 <;> rfl
@[simp] theorem frz_lst (xs : List D) : frzAt (.lst xs) = some xs := rfl
@[simp] theorem frz_scr (xs : List D) : frzAt (.scr xs) = some xs := rfl
@[simp] theorem zipAt_ll (xs ys : List D) : zipAt (.lst xs) (.lst ys) = some (zipD xs ys) := rfl
@[simp] theorem zipAt_tt (xs ys : List D) : zipAt (.tup xs) (.tup ys) = some (zipD xs ys) := rfl
end
/-! ### while -/
def fuel : Nat := 1000000
def sWhile (c : ST) (b : SS) : SS := fun e h => whileF c b fuel e h
section
variable {X : Cx} {W : WX}
theorem ds_whileA {c : Expr} {body : List Stmt} {fc : ST} {fb : SS} {pos : Pos} (hp : PassesOwn (model X.prog X.w) X.A X.env X.xe) (hc : DT X W c fc) (hb : DSs X W body fb) : DS X W (.While c body [] pos) (sWhile fc fb) := ds_while hp (fun _ _ => fuel) hc hb
end
section
variable {N C B : Env' → OH → Prop} {R : D → OH → Prop}
theorem W_whileF {c : ST} {b : SS} {I : Env' → OH → Prop} (μ : Env' → OH → Nat) (st : ∀ e h, I e h → (c e h).W fun t h1 => if t then (b e h1).W (fun e2 h2 => I e2 h2 ∧ μ e2 h2 < μ e h) (fun e2 h2 => I e2 h2 ∧ μ e2 h2 < μ e h) N R else N e h1) :
    ∀ (n : Nat) (e : Env') (h : OH), I e h → μ e h < n → (whileF c b n e h).W N C B R
  | 0, _, _, _, hf => absurd hf (Nat.not_lt_zero _)
  | n + 1, e, h, i0, hf => by
    have w := st e h i0
    have rest := fun e2 h2 (z : I e2 h2 ∧ μ e2 h2 < μ e h) => W_whileF μ st n e2 h2 z.1 (by have := z.2; omega)
    obtain ⟨t, h1, q, w⟩ := w.out
    unfold whileF
    rw [q]
    simp only [Res.toS_ok]
    cases t with
    | false => exact w
    | true =>
      rw [if_pos rfl] at w
      rw [if_pos rfl]
      cases q2 : b e h1 with
      | nx e2 h2 => rw [q2] at w; exact rest e2 h2 w
      | ct e2 h2 => rw [q2] at w; exact rest e2 h2 w
      | bk e2 h2 => rw [q2] at w; exact w
      | rt d h2 => rw [q2] at w; exact w
      | exc _ _ _ _ => rw [q2] at w; exact w.elim
      | bad => rw [q2] at w; exact w.elim
theorem W_while {c : ST} {b : SS} {I : Env' → OH → Prop} (μ : Env' → OH → Nat) {e : Env'} {h : OH} (h0 : I e h) (hf : μ e h < 1000000) (st : ∀ e h, I e h → (c e h).W fun t h1 => if t then (b e h1).W (fun e2 h2 => I e2 h2 ∧ μ e2 h2 < μ e h) (fun e2 h2 => I e2 h2 ∧ μ e2 h2 < μ e h) N R else N e h1) : (sWhile c b e h).W N C B R :=
  W_whileF μ st fuel e h h0 hf
end
end HR
set_option Elab.async false
set_option linter.all false
set_option maxRecDepth 100000
set_option maxHeartbeats 2000000
/-! repr; a law's end where the def is called with no guards -/
set_option Elab.async false
set_option linter.all false
set_option maxRecDepth 20000
set_option maxHeartbeats 1000000
/-! recursion: no call at all -/
set_option Elab.async false
set_option linter.all false
set_option maxRecDepth 20000
set_option maxHeartbeats 1000000
/-! lending: own lists are read as frozen trees for a call that changes nothing -/
set_option Elab.async false
set_option linter.all false
set_option maxRecDepth 100000
set_option maxHeartbeats 2000000
/-! exceptions: raise, a try whose except clause keeps what it caught, isinstance of what was kept -/
namespace HR
open PySem L2 PySem.Spec PyProof.Rows
/-! ### a caught exception becomes an object of ours -/
/-! ### as plain functions -/
/-- raise C('..') -/
def sRaise (C : String) : SS := fun e h => .exc C none e h
section
variable {X : Cx} {W : WX}
theorem ds_raise {C : String} {m : Str} {k : Nat} {p p2 p3 pos : Pos} (tk : Takes X W) (hcm : X.calm = true) (q : PySem.W.excIn X.K (He.ga X.K (Str.ofString C)) He.veBase "ValueError.__new__" = true) (kC : PySem.W.keepIn X.K (.ref (He.ga X.K (Str.ofString C))) = true)
    (sC : PySem.W.subIn X.K (.ref (He.ga X.K (Str.ofString C))) (.type "BaseException") = some true) (tC : PySem.W.typeIn X.K (.ref (He.ga X.K (Str.ofString C))) = some (.type "type")) (gC : X.mg (Str.ofString C) = some (.ref (He.ga X.K (Str.ofString C)))) (hg : Gl X (Str.ofString C))
    (hdb : (Str.ofString C == ("__debug__" : Str)) = false := by decide) : DS X W (.Raise (some (.Call (.Name (Str.ofString C) p) [.Constant (.str m) k p2] [] p3)) none pos) (sRaise C) :=
  PS.of (ps_raise hcm tk (pmk_own PySem.F.excBase_ValueError q gC kC (raises_own sC tC) hg hdb)) fun Dn σ H => by
    rintro ⟨P, F, m, e, h, S, E, fin⟩
    exact fin none σ F m H .refl S rfl E
end
/-! ### isinstance of a kept exception -/
/-- what the class at D must say -/
def excCB (K : PySem.W.Frag) (D : Addr) : Bool :=
  decide (PySem.W.findIn K (.ref D) "__getattribute__" = some (some (.builtin "BaseException.__getattribute__"))) && (decide (PySem.W.findIn K (.ref D) "__getattr__" = some none) && (decide (PySem.W.subIn K (.ref D) (.type "BaseException") = some true) && (PySem.W.hasDictIn K D &&
  (decide (PySem.W.findIn K (.ref D) "__class__" = some (some (.builtin "object.__class__"))) && (decide (PySem.W.specialIn K (.builtin "object.__class__") "__get__" = some (some (.builtin "getset_descriptor.__get__"))) && (decide (PySem.W.takesIn K (.builtin "object.__class__") = some true) &&
  decide (PySem.W.mroIn K D (.type "object") = some true)))))))
/-- is the class C below the class c, as names -/
def excB (C c : String) : Bool := C == c || (c == "HushError" || c == "ValueError")
/-! ### what is asked of a class with its own __init__ -/
def oexK (K : PySem.W.Frag) (C : Addr) : Bool := match K.lookup C with
  | some ⟨.type "type", _, .cls cd, sl⟩ => (match cd.mro, sl.toList with
    | .ref C2 :: bm, [_, _, _, _, some (.builtin n), _] => decide (C2 = C) && (decide (n = "ValueError.__new__") && (!cd.hasDel && (cd.hasDict && PySem.HandSPX.refsVE bm)))
    | _, _ => false)
  | _ => false
/-- the facts of one class C with the field f -/
def oexF (K : PySem.W.Frag) (C f : String) : Bool :=
  oexK K (He.ga K (Str.ofString C)) && (decide (PySem.W.findIn K (.ref (He.ga K (Str.ofString C))) "__setattr__" = some (some (.builtin "object.__setattr__"))) && (decide (PySem.W.subIn K (.ref (He.ga K (Str.ofString C))) (.type "BaseException") = some true) &&
  (decide (PySem.W.typeIn K (.ref (He.ga K (Str.ofString C))) = some (.type "type")) && (PySem.W.keepIn K (.ref (He.ga K (Str.ofString C))) && (decide (PySem.W.findIn K (.ref (He.ga K (Str.ofString C))) "__init__" = some (some (.ref (He.ma K (He.ga K (Str.ofString C)) "__init__")))) &&
  (decide (PySem.W.typeIn K (.ref (He.ma K (He.ga K (Str.ofString C)) "__init__")) = some (.type "function")) && (decide (PySem.W.findIn K (.ref (He.ga K (Str.ofString C))) (Str.ofString f) = some none) &&
  (PySem.W.readsIn K (He.ga K (Str.ofString "HushError")) (.type "type") && (decide (PySem.W.specialIn K (.ref (He.ga K (Str.ofString "HushError"))) "__getattribute__" = some (some (.builtin "type.__getattribute__"))) &&
  (match PySem.W.findCls K (.ref (He.ga K (Str.ofString "HushError"))) (.type "type") "__init__" with
    | some (.val v) => decide (v = .builtin "ValueError.__init__")
    | _ => false))))))))))
/-- the field of a class with its own __init__ -/
def fieldOf (C : String) : Option String := if C = "TooMany" then some "count" else if C = "Inconsistent" then some "tick" else if C = "InvalidText" then some "line" else none
/-- facts of the classes xs (caught) and ys (asked for) -/
def excFacts (K : PySem.W.Frag) (xs ys : List String) : Bool :=
  xs.all fun C => excCB K (He.ga K (Str.ofString C)) && (decide (PySem.W.exmOne K (.ref (He.ga K (Str.ofString C))) (.ref (He.ga K (Str.ofString "HushError"))) = some true) &&
    (decide (PySem.W.kitOne K (.ref (He.ga K (Str.ofString C))) (.type "ValueError") = some true) && ((ys.all fun c => decide (PySem.W.kitOne K (.ref (He.ga K (Str.ofString C))) (.ref (He.ga K (Str.ofString c))) = some (excB C c))) && (match fieldOf C with
    | some f => oexF K C f
    | none => true))))
/-! ### a def that lets nothing out -/
def noXF (g : FN) : FN := fun ds h => (g ds h).noX
@[simp] theorem noX_ok {α : Type} (a : α) (h : OH) : (Res.ok a h).noX = .ok a h := rfl
@[simp] theorem noXF_at (g : FN) (ds : List D) (h : OH) : noXF g ds h = (g ds h).noX := rfl
theorem noX_sp {K : PySem.W.Frag} {np : Nat} {g : FN} {vs : List V} {H : Hp} {Q : VK} {E : XK} (q : spN K np (noXF g) vs H Q E) : spN K np g vs H Q E0 := by
  obtain ⟨hl, P, F, m, ds, h, S, r, fin⟩ := q
  refine ⟨hl, P, F, m, ds, h, S, r, ?_⟩
  unfold noXF at fin
  cases e : g ds h with
  | ok d h1 => rw [e] at fin; exact fin
  | exc C p h1 => rw [e] at fin; exact fin.elim
  | bad => rw [e] at fin; exact fin.elim
section
variable {P : Program} {w : World} {K : PySem.W.Frag} {mg : Str → Option Value} {base : Heap} {k : Nat} {f : Addr} {fd : FuncData} {ps : List Str} {g : FN} {dvs : List V}
theorem FnOk.shut (Fk : FnOk P w K mg base (L2.CX P w) k f fd ps (spN K ps.length g)) : FnOk P w K mg base CX0 k f fd ps (spN K ps.length (noXF g)) where
  len := fun vs H Q E q => q.1
  run := fun A out s H args us vs Q E hr e0 hb r q => codeAny_mono (Fk.run A out s H args us vs Q E0 hr e0 hb r (noX_sp q)) fun res s1 hq => by
    cases res with
    | error e =>
      obtain ⟨_, _, _, _, _, _, _, _, _, _, _, _, z⟩ := hq
      exact z.elim
    | ok fl => cases fl <;> exact hq
theorem Def.shut (d : Def P w K mg base (L2.CX P w) k f ps dvs g) : Def P w K mg base CX0 k f ps dvs (noXF g) := let ⟨fd, dus, a, b, c⟩ := d.ex; ⟨⟨fd, dus, FnOk.shut a, b, c⟩, d.kp⟩
end
/-! ### {} -/
def sDct0 : SE := fun _ h => .ok (.dct []) h
/-! ### a + b, to be an own list -/
end HR
set_option Elab.async false
set_option linter.all false
set_option maxRecDepth 100000
set_option maxHeartbeats 2000000
/-! repr of values in which an empty dict may stand; the head's facts for laws with exceptions -/
namespace HR
open PySem L2 RZ PySem.Spec PyProof.Rows
/-! ### facts of the head -/
def modOk (K : PySem.W.Frag) : Bool := match K.lookup sysModules with
  | some o => decide (o.cls = .type "dict")
  | none => false
def obsX (fa : List He.Fa) (fn : List He.DefD) (xs ys : List String) (K : PySem.W.Frag) : He.AlD × Bool := (He.obsD fa fn K, excFacts K xs ys && modOk K)
def SaysX (fa : List He.Fa) (fn : List He.DefD) (xs ys : List String) (K : PySem.W.Frag) : Prop := obsX fa fn xs ys K = (He.valD fn, true)
section
variable {fa : List He.Fa} {fn : List He.DefD} {xs ys : List String} {K : PySem.W.Frag}
theorem SaysX.d (c : SaysX fa fn xs ys K) : He.SaysD fa fn K := congrArg (fun z : He.AlD × Bool => z.1) c
theorem SaysX.fact (c : SaysX fa fn xs ys K) (i : Nat) {f : He.Fa} (h : fa[i]? = some f := by rfl) : f.ok K = true := c.d.fact i h
theorem SaysX.def_ (c : SaysX fa fn xs ys K) (i : Nat) {d : He.DefD} (h : fn[i]? = some d := by rfl) : ∃ fd, FunD K d.name d.qual d.params d.body d.scope (d.dvs K) (d.kws K) (He.fAd K d.at_) fd := c.d.def_ i h
end
/-! ### what is read of a value, as data -/
mutual
def pyR (get : Nat → Option (List PyData)) : D → Option PyData
  | .non => some .none
  | .bl b => some (.bool b)
  | .int i => some (.int i)
  | .str x => some (.str x)
  | .lst xs => (pyRL get xs).map .list
  | .scr xs => (pyRL get xs).map .list
  | .tup xs => (pyRL get xs).map .tuple
  | .ref i => (get i).map .list
  | .dct [] => some (.dict [])
  | .dct (_ :: _) => none
  | .obj _ _ => none
  | .exc _ => none
  | .excf _ _ _ => none
  | .fn _ => none
  | .dcl _ => none
def pyRL (get : Nat → Option (List PyData)) : List D → Option (List PyData)
  | [] => some []
  | x :: xs => match pyR get x, pyRL get xs with
    | some d, some ds => some (d :: ds)
    | _, _ => none
end
/-! ### repr -/
def reprOkX (p : PyData) : Bool := p.showable && (decide (p.depth ≤ 60) && decide (p.shown.length ≤ big))
/-! ### texts of any signs compared -/
def opEqT (neg : Bool) : D → D → OH → Res D := fun a b h => match a, b with
  | .str x, .str y => .ok (.bl (if neg then !(x == y) else x == y)) h
  | _, _ => opEq neg a b h
section
variable {X : Cx} {W : WX}
variable {PD : D → OH → Prop}
@[simp] theorem W_eqT (neg : Bool) (x y : Str) (h : OH) : (opEqT neg (.str x) (.str y) h).W PD = PD (.bl (if neg then !(x == y) else x == y)) h := rfl
end
end HR
set_option Elab.async false
set_option linter.all false
set_option maxRecDepth 20000
set_option maxHeartbeats 1000000
/-! what the head of a text with live halls tells; early, since its run wants room -/
namespace HR
open PySem PySem.Spec PyProof.Rows L2
/-! what the module's names reach, a mark for each address that was seen: cheaper than He.asD -/
/-- an empty tuple that stands in the written part -/
def tup0 (K : PySem.W.Frag) (a : Addr) : Bool := match K.lookup a with
  | some ⟨.type t, _, .seq its _, _⟩ => decide (t = "tuple") && decide (its.size = 0)
  | _ => false
def tysB : List String := ["NoneType", "bool", "int", "str", "list", "tuple", "dict"]
def insB (K : PySem.W.Frag) (C : Addr) : Bool := decide (PySem.W.findIn K (.ref C) "__class__" = some (some (.builtin "object.__class__"))) && decide (PySem.W.specialIn K (.builtin "object.__class__") "__get__" = some (some (.builtin "getset_descriptor.__get__"))) &&
  (decide (PySem.W.takesIn K (.builtin "object.__class__") = some true) && (decide (PySem.W.mroIn K C (.type "object") = some true) && (decide (PySem.W.findIn K (.ref C) "__ne__" = some (some (.builtin "object.__ne__"))) && tysB.all fun t => decide (PySem.W.kitOne K (.type t) (.ref C) = some false))))
/-! ### the head's facts with a default that is the empty tuple -/
def SaysL (fa : List He.Fa) (fn : List He.DefD) (xs ys : List String) (p : PySem.W.Frag → Addr) (K : PySem.W.Frag) : Prop := SaysX fa fn xs ys K ∧ tup0 K (p K) = true
section
variable {fa : List He.Fa} {fn : List He.DefD} {xs ys : List String} {p : PySem.W.Frag → Addr} {K : PySem.W.Frag}
theorem SaysL.fact (c : SaysL fa fn xs ys p K) (i : Nat) {f : He.Fa} (h : fa[i]? = some f := by rfl) : f.ok K = true := c.1.fact i h
theorem SaysL.def_ (c : SaysL fa fn xs ys p K) (i : Nat) {d : He.DefD} (h : fn[i]? = some d := by rfl) : ∃ fd, FunD K d.name d.qual d.params d.body d.scope (d.dvs K) (d.kws K) (He.fAd K d.at_) fd := c.1.def_ i h
end
/-! the head's facts with those of the class LiveHall -/
def clsL (K : PySem.W.Frag) : Addr := He.ga K (Str.ofString "LiveHall")
def SaysM (fa : List He.Fa) (fn : List He.DefD) (xs ys : List String) (p : PySem.W.Frag → Addr) (K : PySem.W.Frag) : Prop := SaysL fa fn xs ys p K ∧ insB K (clsL K) = true
section
variable {fa : List He.Fa} {fn : List He.DefD} {xs ys : List String} {p : PySem.W.Frag → Addr} {K : PySem.W.Frag}
theorem SaysM.fact (c : SaysM fa fn xs ys p K) (i : Nat) {f : He.Fa} (h : fa[i]? = some f := by rfl) : f.ok K = true := c.1.fact i h
theorem SaysM.def_ (c : SaysM fa fn xs ys p K) (i : Nat) {d : He.DefD} (h : fn[i]? = some d := by rfl) : ∃ fd, FunD K d.name d.qual d.params d.body d.scope (d.dvs K) (d.kws K) (He.fAd K d.at_) fd := c.1.def_ i h
end
end HR
set_option Elab.async false
set_option linter.all false
set_option maxRecDepth 100000
set_option maxHeartbeats 2000000
/-! texts: join, split -/
namespace HR
open PySem L2
def strsOf : List D → Option (List Str)
  | [] => some []
  | .str x :: r => (strsOf r).map (x :: ·)
  | _ => none
@[simp] theorem strsOf_map : ∀ ys : List Str, strsOf (ys.map D.str) = some ys
  | [] => rfl
  | y :: ys => by simp [strsOf, strsOf_map ys]
/-- o.f(a), o a text -/
def sM1 (g : Str → D → OH → Res D) (o a : SE) : SE := fun e h => (o e h).bind fun x h1 => match x with
  | .str s => (a e h1).bind fun d h2 => g s d h2
  | _ => .bad
end HR
set_option Elab.async false
set_option linter.all false
set_option maxRecDepth 100000
set_option maxHeartbeats 2000000
/-! instances that change: C(..) as an own object, o.f += e -/
namespace HR
open PySem L2
section
variable {X : Cx} {W : WX} {k : Nat} {f : Addr} {fd : FuncData} {ps : List Str} {g : FN}
/-- o.f += e, ints -/
def sFldA (C f : String) (o v : SE) : SS := fun e h => (o e h).toS e fun x h1 => match x with
  | .ref n => (match h1[n]? with
    | some (.ins C1 fs) => if C1 = C then (match fs.lookup f with
      | some (.int i) => (v e h1).toS e fun y h2 => (match y, h2[n]? with
        | .int j, some (.ins C2 fs2) => if C2 = C ∧ fs2.length < 900 then .nx e (h2.set n (.ins C (putS f (.int (i + j)) fs2))) else .bad
        | _, _ => .bad)
      | _ => .bad) else .bad
    | _ => .bad)
  | _ => .bad
end
end HR
set_option Elab.async false
set_option linter.all false
set_option maxRecDepth 100000
set_option maxHeartbeats 2000000
/-! exceptions as values: C('..'), C(e) where C keeps e in one field, raise C(e), x.f -/
set_option Elab.async false
set_option linter.all false
set_option maxRecDepth 20000
set_option maxHeartbeats 1000000
/-! walks over an own list, which keeps its length meanwhile -/
namespace HR
open PySem L2 RZ
section
variable {X : Cx} {W : WX}
/-- the place of an own list -/
def sRefL (f : SE) : Env' → OH → Res Nat := fun e h => (f e h).bind fun d h1 => match d with
  | .ref i => (match h1[i]? with
    | some (.lst _) => .ok i h1
    | _ => .bad)
  | _ => .bad
/-- j rounds are left of n -/
def forO (g : TF) (b : SS) (i n : Nat) : Nat → SS
  | 0 => fun e h => match h[i]? with
    | some (.lst ys) => if ys.length = n then .nx e h else .bad
    | _ => .bad
  | j + 1 => fun e h => match h[i]? with
    | some (.lst ys) => if ys.length = n then (match ys[n - (j + 1)]? with
      | some d => (match g d e h with
        | none => .bad
        | some e1 => (match b e1 h with
          | .nx e2 h2 => forO g b i n j e2 h2
          | .ct e2 h2 => forO g b i n j e2 h2
          | .bk e2 h2 => .nx e2 h2
          | r => r))
      | none => .bad) else .bad
    | _ => .bad
def sForO (f : SE) (g : TF) (b : SS) : SS := fun e h => (sRefL f e h).toS e fun i h1 => match h1[i]? with
  | some (.lst xs) => forO g b i xs.length xs.length e h1
  | _ => .bad
/-! comprehensions -/
end
section
variable {α β : Type} {N C B : Env' → OH → Prop} {R : D → OH → Prop} {PD : D → OH → Prop} {PL : List D → OH → Prop} {PN : Nat → OH → Prop}
def lkO (o : Option OO) (P : List D → Prop) : Prop := match o with
  | some (.lst xs) => P xs
  | _ => False
@[simp] theorem lkO_lst (xs : List D) (P : List D → Prop) : lkO (some (.lst xs)) P = P xs := rfl
@[simp] theorem W_refL (f : SE) (e : Env') (h : OH) : (sRefL f e h).W PN = (f e h).W fun d h1 => isR d fun i => lkO h1[i]? fun _ => PN i h1 := by
  unfold sRefL; rw [W_bind]; congr; funext d h1
  cases d <;> first | rfl | skip
  rename_i i
  simp only [isR_ref]
  rcases h1[i]? with _ | o
  · rfl
  · cases o <;> rfl
@[simp] theorem SW_forO (f : SE) (g : TF) (b : SS) (e : Env') (h : OH) : (sForO f g b e h).W N C B R = (f e h).W fun d h1 => isR d fun i => lkO h1[i]? fun xs => (forO g b i xs.length xs.length e h1).W N C B R := by
  unfold sForO
  rw [W_toS, W_refL]
  congr; funext d h1; congr; funext i
  rcases h1[i]? with _ | o
  · rfl
  · cases o <;> rfl
end
end HR
set_option Elab.async false
set_option linter.all false
set_option maxRecDepth 20000
set_option maxHeartbeats 1000000
/-! a call without arguments -/
set_option Elab.async false
set_option linter.all false
set_option maxRecDepth 20000
set_option maxHeartbeats 1000000
/-! a block, statement by statement: what follows is out of sight meanwhile -/
namespace HR
open PySem L2 RZ
section
variable {N C B : Env' → OH → Prop} {R : D → OH → Prop}
theorem SW_seqK {f g : SS} {e : Env'} {h : OH} (q : ∀ K : Env' → OH → Prop, (∀ e h, (g e h).W N C B R → K e h) → (f e h).W K C B R) : (sSeq f g e h).W N C B R := by
  rw [SW_seq]
  exact q _ fun _ _ z => z
end
end HR
set_option Elab.async false
set_option linter.all false
set_option maxRecDepth 20000
set_option maxHeartbeats 1000000
/-! range(a, b) of numbers of any size -/
namespace HR
open PySem L2 RZ PySem.Spec PyProof.Rows
section
variable {X : Cx} {tg : Expr} {W : WX}
def sRng2W (a b : SE) : SA := fun e h => (a e h).bind fun d h1 => (b e h1).bind fun d2 h2 => match d, d2 with
  | .int i, .int j => .ok (rngD i (j - i).toNat) h2
  | _, _ => .bad
end
section
variable {PL : List D → OH → Prop}
@[simp] theorem W_rng2W (f g : SE) (e : Env') (h : OH) : (sRng2W f g e h).W PL = (f e h).W fun a h1 => (g e h1).W fun b h2 => isI a fun i => isI b fun j => PL (rngD i (j - i).toNat) h2 := by
  unfold sRng2W; rw [W_bind]; congr; funext a h1; rw [W_bind]; congr; funext b h2
  cases a <;> cases b <;> rfl
end
end HR
set_option Elab.async false
set_option linter.all false
set_option maxRecDepth 20000
set_option maxHeartbeats 1000000
/-! x is True, x is not False, of bools -/
namespace HR
open PySem L2 RZ PySem.Spec PyProof.Rows
section
variable {X : Cx} {W : WX}
def opIsB (neg : Bool) : D → D → OH → Res D
  | .bl a, .bl b, h => .ok (.bl (if neg then !decide (a = b) else decide (a = b))) h
  | _, _, _ => .bad
end
@[simp] theorem W_isB (neg a b : Bool) (h : OH) {PD : D → OH → Prop} : (opIsB neg (.bl a) (.bl b) h).W PD = PD (.bl (if neg then !decide (a = b) else decide (a = b))) h := rfl
end HR
set_option Elab.async false
set_option linter.all false
set_option maxRecDepth 20000
set_option maxHeartbeats 1000000
/-! repr of any value -/
set_option Elab.async false
set_option linter.all false
set_option maxRecDepth 20000
set_option maxHeartbeats 1000000
/-! clear and insert of own lists -/
namespace HR
open PySem L2 RZ PySem.Spec PyProof.Rows
section
variable {X : Cx} {W : WX}
def gClear (i : Nat) (xs ys : List D) (h : OH) : Res D := match ys with
  | [] => .ok .non (h.set i (.lst []))
  | _ => .bad
def gInsert (i : Nat) (xs ys : List D) (h : OH) : Res D := match ys with
  | [.int k, y] => if xs.length < big ∧ 0 ≤ k ∧ k < 2 ^ 63 then .ok .non (h.set i (.lst (xs.take k.toNat ++ [y] ++ xs.drop k.toNat))) else .bad
  | _ => .bad
end
section
variable {PD : D → OH → Prop}
@[simp] theorem W_clear (i : Nat) (xs : List D) (h : OH) : (gClear i xs [] h).W PD = PD .non (h.set i (.lst [])) := rfl
@[simp] theorem W_insert (i : Nat) (xs : List D) (k : Int) (y : D) (h : OH) : (gInsert i xs [.int k, y] h).W PD = if xs.length < 1000000 ∧ 0 ≤ k ∧ k < 9223372036854775808 then PD .non (h.set i (.lst (xs.take k.toNat ++ [y] ++ xs.drop k.toNat))) else False := by
  simp [gInsert, big]
end
end HR
set_option Elab.async false
set_option linter.all false
set_option maxRecDepth 100000
set_option maxHeartbeats 4000000
/-! sorted(set(xs)), xs a list of ints, fewer than 64 -/
set_option Elab.async false
set_option linter.all false
set_option maxRecDepth 20000
set_option maxHeartbeats 1000000
/-! sorted(set(xs)), xs a list of ints, fewer than 64 -/
namespace HR
open PySem L2 RZ PySem.Spec PyProof.Rows
def insU (x : Int) : List Int → List Int
  | [] => [x]
  | y :: r => if x < y then x :: y :: r else if x = y then y :: r else y :: insU x r
def sortU (l : List Int) : List Int := l.foldr insU []
section
variable {X : Cx} {W : WX}
def sSortSet (f : SE) : SE := fun e h => (f e h).bind fun d h1 => match (lsqAt h1 d).bind intsOf with
  | some ns => if ns.length < 64 then .ok (.lst ((sortU ns).map .int)) h1 else .bad
  | none => .bad
end
section
variable {PD : D → OH → Prop}
@[simp] theorem W_sSortSet (f : SE) (e : Env') (h : OH) : (sSortSet f e h).W PD = (f e h).W fun d h1 => match (lsqAt h1 d).bind intsOf with
  | some ns => if ns.length < 64 then PD (.lst ((sortU ns).map .int)) h1 else False
  | none => False := by
  unfold sSortSet; rw [W_bind]; congr; funext d h1
  cases (lsqAt h1 d).bind intsOf with
  | none => rfl
  | some ns => dsimp only; split <;> rfl
end
end HR
set_option Elab.async false
set_option linter.all false
set_option maxRecDepth 20000
set_option maxHeartbeats 1000000
/-! min(xs, default=None), xs a list of ints -/
set_option Elab.async false
set_option linter.all false
set_option maxRecDepth 20000
set_option maxHeartbeats 1000000
/-! a comprehension over a list, own or frozen -/
set_option Elab.async false
set_option linter.all false
set_option maxRecDepth 100000
set_option maxHeartbeats 1000000
/-! zip of a list and a tuple -/
namespace HR
open PySem L2 RZ PySem.Spec PyProof.Rows
open PySem.Sem (wp)
/-! the call zip(l1, l2) -/
/-! the loop over it -/
section
variable {X : Cx} {W : WX}
/-- zip of lists, of tuples, or of a list and a tuple -/
def sZipX (f : SA) : SA := fun e h => match f e h with
  | .ok [.lst xs, .tup ys] h1 => .ok (zipD xs ys) h1
  | _ => sZip f e h
end
section
variable {PL : List D → OH → Prop}
def zipAtX : D → D → Option (List D)
  | .lst xs, .tup ys => some (zipD xs ys)
  | a, b => zipAt a b
theorem W_zipXa (f : SA) (e : Env') (h : OH) : (sZipX f e h).W PL = (f e h).W fun ds h1 => match ds with
  | [d, d2] => lkS (zipAtX d d2) fun xs => PL xs h1
  | _ => False := by
  unfold sZipX
  split
  · rename_i xs ys h1 q
    rw [q]
    rfl
  · rename_i no
    unfold sZip
    rw [W_bind]
    cases q : f e h with
    | bad => rfl
    | exc C p h1 => rfl
    | ok ds h1 =>
      simp only [W_ok]
      match ds, q with
      | [], _ => rfl
      | [_], _ => rfl
      | _ :: _ :: _ :: _, _ => rfl
      | [d, d2], q =>
        have e2 : zipAtX d d2 = zipAt d d2 := by
          unfold zipAtX
          split
          · exact absurd q (no _ _ _)
          · rfl
        simp only [e2]
        cases zipAt d d2 <;> rfl
@[simp] theorem W_zipX (f g : SE) (e : Env') (h : OH) : (sZipX (sCons f (sCons g sNil)) e h).W PL = (f e h).W fun d h1 => (g e h1).W fun d2 h2 => lkS (zipAtX d d2) fun xs => PL xs h2 := by
  rw [W_zipXa]; simp only [W_sCons, W_sNil]
@[simp] theorem zipAtX_lt (xs ys : List D) : zipAtX (.lst xs) (.tup ys) = some (zipD xs ys) := rfl
@[simp] theorem zipAtX_ll (xs ys : List D) : zipAtX (.lst xs) (.lst ys) = some (zipD xs ys) := rfl
end
end HR
set_option Elab.async false
set_option linter.all false
set_option maxRecDepth 20000
/-! a <= b < c -/
set_option Elab.async false
set_option linter.all false
set_option maxRecDepth 20000
set_option maxHeartbeats 1000000
/-! dict(pairs), the keys apart; d[k] -/
namespace HR
open PySem L2 RZ
def getK (ks : List (Key × D)) (k : Key) : Option D := (ks.find? fun kv => decide (kv.1 = k)).map (·.2)
def keyD : D → Option Key
  | .int i => some (.inl i)
  | .str x => some (.inr x)
  | _ => none
section
variable {K : PySem.W.Frag} {F : Hp} {m : List Addr}
theorem keyD_den {v : V} {d : D} {k : Key} (r : Den K F m v d) (e : keyD d = some k) : v = kV k := by
  cases r <;> simp only [keyD, Option.some.injEq, reduceCtorEq] at e <;> subst e <;> rfl
theorem denK_get : ∀ {kvs : List (Key × V)} {ks : List (Key × D)} (r : DenK K F m kvs ks) {k : Key} {d : D}, getK ks k = some d → ∃ v, valV kvs k = some v ∧ Den K F m v d
  | _, _, .nil, k, d, e => by simp [getK] at e
  | _, _, .cons (k := k0) (v := v0) (ds := ds0) h t, k, d, e => by
    by_cases c : k0 = k
    · subst c
      simp [getK] at e
      subst e
      exact ⟨_, valV_pos rfl, h⟩
    · have e2 : getK ds0 k = some d := by simpa [getK, c] using e
      obtain ⟨v, h1, h2⟩ := denK_get t e2
      exact ⟨v, by rw [valV_neg c]; exact h1, h2⟩
theorem DenK.keys : ∀ {kvs : List (Key × V)} {ks : List (Key × D)} (r : DenK K F m kvs ks), kvs.map (·.1) = ks.map (·.1)
  | _, _, .nil => rfl
  | _, _, .cons h t => by simp [t.keys]
end
end HR
set_option Elab.async false
set_option linter.all false
set_option maxRecDepth 20000
/-! xs[lo:hi:step] of a list -/
namespace HR
open PySem PySem.Spec PyProof.Rows L2 RZ
def stepIx (n : Nat) (lo hi st : Option Int) : List Nat := sliceRange (sliceBounds lo hi st n).1 (sliceBounds lo hi st n).2.1 (sliceBounds lo hi st n).2.2
def pickA {α : Type} (xs : List α) (ix : List Nat) : List α := ix.filterMap (xs[·]?)
def stepD (xs : List D) (lo hi st : Option Int) : List D := pickA xs (stepIx xs.length lo hi st)
def opCutS (own : Bool) (a : D) (lo hi st : Option Int) (h : OH) : Res D := if st = some 0 then .bad else match lsqAt h a with
  | some xs => if own then .ok (.ref h.length) (h ++ [.lst (stepD xs lo hi st)]) else .ok (.lst (stepD xs lo hi st)) h
  | none => .bad
section
variable {PD : D → OH → Prop}
@[simp] theorem W_cutSL (own : Bool) (xs : List D) (lo hi : Option Int) (k : Int) (h : OH) : (opCutS own (.lst xs) lo hi (some k) h).W PD = if k = 0 then False else if own then PD (.ref h.length) (h ++ [.lst (stepD xs lo hi (some k))]) else PD (.lst (stepD xs lo hi (some k))) h := by
  unfold opCutS
  by_cases k0 : k = 0
  · simp [k0]
  · simp [k0, lsqAt, seqAt]
end
end HR
set_option Elab.async false
set_option linter.all false
set_option maxRecDepth 20000
/-! str(i), int(text), xs.index(x), x in xs for deep values -/
set_option Elab.async false
set_option linter.all false
set_option maxRecDepth 20000
set_option maxHeartbeats 1000000
/-! own dicts whose keys are ints and texts: a comprehension, d[k] = v, d[k] -/
namespace HR
open PySem L2 RZ
def putD (ks : List (Key × D)) (k : Key) (d : D) : List (Key × D) := if (ks.any fun kv => decide (kv.1 = k)) = true then ks.map (fun kv => if kv.1 = k then (kv.1, d) else kv) else ks ++ [(k, d)]
def dctAt (h : OH) : D → Option (List (Key × D))
  | .dct ks => some ks
  | .ref i => (match h[i]? with
    | some (.dct ks) => some ks
    | _ => none)
  | _ => none
def sIxK (o i v : SE) : SS := fun e h => (v e h).toS e fun y h1 => (o e h1).toS e fun x h2 => (i e h2).toS e fun k h3 => match x, keyD k with
  | .ref n, some q => (match h3[n]? with
    | some (.dct ks) => if ks.length < big then .nx e (h3.set n (.dct (putD ks q y))) else .bad
    | _ => .bad)
  | _, _ => .bad
def dcGo (g : TF) (tt : ST) (kx vx : SE) (e : Env') : List D → OH → List (Key × D) → Res (List (Key × D))
  | [], h, acc => .ok acc h
  | d :: ds, h, acc => match g d e h with
    | none => .bad
    | some e1 => (tt e1 h).noX.bind fun b h1 => if b then (kx e1 h1).noX.bind fun y h2 => (vx e1 h2).noX.bind fun z h3 => (match keyD y with
        | some k => if acc.length < big then dcGo g tt kx vx e ds h3 (putD acc k z) else .bad
        | none => .bad) else dcGo g tt kx vx e ds h1 acc
def sDcO (it : SA) (g : TF) (tt : ST) (kx vx : SE) (vs : List Nat) : SE := fun e h => (it e h).bind fun ds h1 => (dcGo g tt kx vx (wipeD e vs) ds h1 []).bind fun acc h2 => .ok (.ref h2.length) (h2 ++ [.dct acc])
def sDctO : SE := fun _ h => .ok (.ref h.length) (h ++ [.dct []])
section
variable {K : PySem.W.Frag} {P : Pins} {F : Hp} {m : List Addr} {h : OH} {H : Hp}
theorem denK_any {k : Key} : ∀ {kvs : List (Key × V)} {ks : List (Key × D)}, DenK K F m kvs ks → (kvs.any fun kv => decide (kv.1 = k)) = (ks.any fun kv => decide (kv.1 = k))
  | _, _, .nil => rfl
  | _, _, .cons h t => by rw [List.any_cons, List.any_cons, denK_any t]
theorem denK_map {k : Key} {v : V} {d : D} (r : Den K F m v d) : ∀ {kvs : List (Key × V)} {ks : List (Key × D)}, DenK K F m kvs ks → DenK K F m (kvs.map fun kv => if kv.1 = k then (kv.1, v) else kv) (ks.map fun kv => if kv.1 = k then (kv.1, d) else kv)
  | _, _, .nil => .nil
  | _, _, .cons (k := k0) h t => by
    simp only [List.map_cons]
    by_cases c : k0 = k
    · rw [if_pos c, if_pos c]
      exact .cons r (denK_map r t)
    · rw [if_neg c, if_neg c]
      exact .cons h (denK_map r t)
theorem denK_end {k : Key} {v : V} {d : D} (r : Den K F m v d) : ∀ {kvs : List (Key × V)} {ks : List (Key × D)}, DenK K F m kvs ks → DenK K F m (kvs ++ [(k, v)]) (ks ++ [(k, d)])
  | _, _, .nil => .cons r .nil
  | _, _, .cons h t => .cons h (denK_end r t)
theorem denK_put {k : Key} {v : V} {d : D} (r : Den K F m v d) {kvs : List (Key × V)} {ks : List (Key × D)} (q : DenK K F m kvs ks) : DenK K F m (putK kvs k v) (putD ks k d) := by
  unfold putK putD
  rw [denK_any q]
  split
  · exact denK_map r q
  · exact denK_end r q
theorem DenK.length {kvs : List (Key × V)} {ks : List (Key × D)} (r : DenK K F m kvs ks) : kvs.length = ks.length := by
  have := congrArg List.length r.keys
  simpa using this
theorem putD_len (ks : List (Key × D)) (k : Key) (d : D) : (putD ks k d).length ≤ ks.length + 1 := by
  unfold putD
  split <;> simp
end
section
variable {X : Cx} {W : WX}
theorem ds_ixK {o i a : Expr} {fo fi fa : SE} {pos pos' : Pos} (hu : X.A.units + 64 < cLine) (ho : DE X W o fo) (hi : DE X W i fi) (ha : DE X W a fa) (hs : swapsWith a (some (.Subscript o i pos')) pos.line X.env = pure false := by rfl) :
    DS X W (.Assign [.Subscript o i pos'] a pos) (sIxK fo fi fa) := PS.of (ps_dput (by omega) ho hi ha hs) fun Dn σ H => by
  rintro ⟨P, F, m, e, h, S, E, fin⟩
  refine st_seq S E fin fun F1 m1 h1 H1 y dy x1 S1 E1 ry fin1 => ?_
  refine st_seq S1 E1 fin1 fun F2 m2 h2 H2 x dx x2 S2 E2 rx fin2 => ?_
  refine st_seq S2 E2 fin2 fun F3 m3 h3 H3 z dz x3 S3 E3 rz fin3 => ?_
  cases rx with
  | @ref b n e1 =>
    cases ek : keyD dz with
    | none => simp only [ek] at fin3; exact fin3.elim
    | some q =>
      have e2 := pre_get x3.p e1
      obtain ⟨ob, k1, k2⟩ := S3.own e2
      simp only [ek, k1] at fin3
      cases ob with
      | dct ks =>
        dsimp only at fin3
        obtain ⟨kvs, k3, k4, k5⟩ := k2
        by_cases hl : ks.length < big
        · rw [if_pos hl] at fin3
          have := keyD_den rz ek
          subst this
          exact ⟨b, _, rfl, DPut.k k3 (by rw [k4.length]; exact big_lt hl), fin3 σ F3 m3 _ .refl (S3.write e2 k1 k5 ⟨_, upd_same, denK_put (ry.mono (x2.trans x3)) k4, k5⟩) E3⟩
        · rw [if_neg hl] at fin3
          exact fin3.elim
      | _ => exact fin3.elim
  | _ => exact fin3.elim
theorem de_dctO {pos : Pos} : DE X W (.Dict [] [] pos) sDctO := PE.of pe_dnewK fun σ H Q => by
  rintro ⟨P, F, m, e, h, S, E, fin⟩
  intro p hp
  exact fin.okX ext_new (S.alloc hp ⟨_, upd_same, .nil, S.free hp⟩) (.ref (by rw [← S.len]; simp))
end
section
variable {PD : D → OH → Prop} {N C B : Env' → OH → Prop} {R : D → OH → Prop}
def lkD (o : Option OO) (P : List (Key × D) → Prop) : Prop := match o with
  | some (.dct ks) => P ks
  | _ => False
@[simp] theorem lkD_dct (ks : List (Key × D)) (P : List (Key × D) → Prop) : lkD (some (.dct ks)) P = P ks := rfl
@[simp] theorem SW_ixK (o i v : SE) (e : Env') (h : OH) : (sIxK o i v e h).W N C B R = (v e h).W fun y h1 => (o e h1).W fun x h2 => (i e h2).W fun k h3 => isR x fun n => lkS (keyD k) fun q => lkD h3[n]? fun ks => if ks.length < big then N e (h3.set n (.dct (putD ks q y))) else False := by
  unfold sIxK
  simp only [W_toS]
  congr; funext y h1; congr; funext x h2; congr; funext k h3
  cases x with
  | ref n =>
    simp only [isR_ref]
    cases keyD k with
    | none => rfl
    | some q =>
      simp only [lkS_some]
      cases h3[n]? with
      | none => rfl
      | some ob => cases ob <;> first | rfl | (simp only [lkD_dct]; split <;> rfl)
  | _ => rfl
@[simp] theorem dctAt_dct (h : OH) (ks : List (Key × D)) : dctAt h (.dct ks) = some ks := rfl
@[simp] theorem keyD_int (i : Int) : keyD (.int i) = some (.inl i) := rfl
@[simp] theorem keyD_str (x : Str) : keyD (.str x) = some (.inr x) := rfl
@[simp] theorem W_dctO (e : Env') (h : OH) : (sDctO e h).W PD = PD (.ref h.length) (h ++ [.dct []]) := rfl
@[simp] theorem W_dcO (it : SA) (g : TF) (tt : ST) (kx vx : SE) (vs : List Nat) (e : Env') (h : OH) : (sDcO it g tt kx vx vs e h).W PD = (it e h).W fun ds h1 => (dcGo g tt kx vx (wipeD e vs) ds h1 []).W fun acc h2 => PD (.ref h2.length) (h2 ++ [.dct acc]) := by
  unfold sDcO
  simp only [W_bind, W_ok]
end
end HR
set_option Elab.async false
set_option linter.all false
set_option maxRecDepth 20000
set_option maxHeartbeats 1000000
/-! == of instances whose class has no __eq__ of its own; an except suite of any form -/
namespace HR
open PySem L2 RZ PySem.Spec PyProof.Rows
/-! ### x == y, x an instance, y of the same class or None -/
def eqcOk (K : PySem.W.Frag) (es : List String) : Bool := es.all fun C => decide (PySem.W.mroIn K (He.ga K (Str.ofString C)) (.type "object") = some true) && decide (PySem.W.findIn K (.ref (He.ga K (Str.ofString C))) "__eq__" = some (some (.builtin "object.__eq__")))
/-! ### facts of the head -/
def SaysE (fa : List He.Fa) (fn : List He.DefD) (xs ys es : List String) (K : PySem.W.Frag) : Prop := SaysX fa fn xs ys K ∧ eqcOk K es = true
section
variable {fa : List He.Fa} {fn : List He.DefD} {xs ys es : List String} {K : PySem.W.Frag}
theorem SaysE.fact (c : SaysE fa fn xs ys es K) (i : Nat) {f : He.Fa} (h : fa[i]? = some f := by rfl) : f.ok K = true := c.1.fact i h
theorem SaysE.def_ (c : SaysE fa fn xs ys es K) (i : Nat) {d : He.DefD} (h : fn[i]? = some d := by rfl) : ∃ fd, FunD K d.name d.qual d.params d.body d.scope (d.dvs K) (d.kws K) (He.fAd K d.at_) fd := c.1.def_ i h
end
/-! ### try: .. except X as n: a suite that reads n -/
end HR
set_option Elab.async false
set_option linter.all false
set_option maxRecDepth 20000
set_option maxHeartbeats 1000000
/-! extend of own lists -/
namespace HR
open PySem L2 RZ PySem.Spec PyProof.Rows
section
variable {X : Cx} {W : WX}
def gExtend (i : Nat) (xs ys : List D) (h : OH) : Res D := match ys with
  | [d] => (match lstAt h d with
    | some zs => if xs.length + zs.length ≤ big then .ok .non (h.set i (.lst (xs ++ zs))) else .bad
    | none => .bad)
  | _ => .bad
end
section
variable {PD : D → OH → Prop}
@[simp] theorem W_extend (i : Nat) (xs : List D) (y : D) (h : OH) : (gExtend i xs [y] h).W PD = lkS (lstAt h y) fun zs => if xs.length + zs.length ≤ 1000000 then PD .non (h.set i (.lst (xs ++ zs))) else False := by
  unfold gExtend
  dsimp only
  rcases lstAt h y with _ | zs
  · rfl
  · simp only [lkS_some, big]
    split <;> rfl
end
end HR
set_option Elab.async false
set_option linter.all false
set_option maxRecDepth 20000
set_option maxHeartbeats 1000000
/-! own dicts with text keys: a display, update, two items set at once; remove of texts -/
namespace HR
open PySem L2 RZ PySem.Spec PyProof.Rows
/-! ### a display -/
def sPrs : List (Str × SE) → Env' → OH → Res (List (Key × D))
  | [], _, h => .ok [] h
  | kf :: r, e, h => (kf.2 e h).bind fun d h1 => (sPrs r e h1).bind fun ps h2 => .ok ((.inr kf.1, d) :: ps) h2
def sDispO (fs : List (Str × SE)) : SE := fun e h => (sPrs fs e h).bind fun ps h1 => if (ps.map (·.1)).Nodup ∧ ps.length ≤ 15 then .ok (.ref h1.length) (h1 ++ [.dct ps]) else .bad
section
variable {X : Cx} {W : WX}
/-! ### update -/
def mergeD (ks more : List (Key × D)) : List (Key × D) := more.foldl (fun acc kd => putD acc kd.1 kd.2) ks
def isOwnD (h : OH) : D → Bool
  | .ref i => (match h[i]? with
    | some (.dct _) => true
    | _ => false)
  | _ => false
def sUpd (fo : SE) (fa : SA) : SE := fun e h => (fo e h).bind fun x h1 => if isOwnD h1 x then (fa e h1).bind fun ys h2 => (match x, ys with
  | .ref i, [.ref j] => if i ≠ j then (match h2[i]?, h2[j]? with
    | some (.dct ks), some (.dct more) => if ks.length + more.length ≤ big then .ok .non (h2.set i (.dct (mergeD ks more))) else .bad
    | _, _ => .bad) else .bad
  | _, _ => .bad) else .bad
/-! ### two items set at once -/
def putC (o i : SE) (y : D) (k : SS) : SS := fun e h => (o e h).toS e fun x h2 => (i e h2).toS e fun kk h3 => match x, keyD kk with
  | .ref n, some q => (match h3[n]? with
    | some (.dct ks) => if ks.length < big then k e (h3.set n (.dct (putD ks q y))) else .bad
    | _ => .bad)
  | _, _ => .bad
def sSub2 (o1 i1 o2 i2 v : SE) : SS := fun e h => (v e h).toS e fun y h1 => match y with
  | .tup [y1, y2] => putC o1 i1 y1 (putC o2 i2 y2 fun e h => .nx e h) e h1
  | _ => .bad
/-! ### remove of texts -/
end
section
variable {PD : D → OH → Prop} {N C B : Env' → OH → Prop} {R : D → OH → Prop}
@[simp] theorem W_dispO (fs : List (Str × SE)) (e : Env') (h : OH) : (sDispO fs e h).W PD = (sPrs fs e h).W fun ps h1 => if (ps.map (·.1)).Nodup ∧ ps.length ≤ 15 then PD (.ref h1.length) (h1 ++ [.dct ps]) else False := by
  unfold sDispO
  simp only [W_bind]
  congr; funext ps h1
  split <;> rfl
@[simp] theorem W_prs0 (e : Env') (h : OH) {Q : List (Key × D) → OH → Prop} : (sPrs [] e h).W Q = Q [] h := rfl
@[simp] theorem W_prs (x : Str) (f : SE) (r : List (Str × SE)) (e : Env') (h : OH) {Q : List (Key × D) → OH → Prop} : (sPrs ((x, f) :: r) e h).W Q = (f e h).W fun d h1 => (sPrs r e h1).W fun ps h2 => Q ((.inr x, d) :: ps) h2 := by
  simp only [sPrs, W_bind, W_ok]
@[simp] theorem W_upd (fo : SE) (fa : SA) (e : Env') (h : OH) : (sUpd fo fa e h).W PD = (fo e h).W fun x h1 => if isOwnD h1 x = true then (fa e h1).W fun ys h2 => (match x, ys with
  | .ref i, [.ref j] => if i ≠ j then lkD h2[i]? fun ks => lkD h2[j]? fun more => if ks.length + more.length ≤ 1000000 then PD .non (h2.set i (.dct (mergeD ks more))) else False else False
  | _, _ => False) else False := by
  unfold sUpd
  simp only [W_bind]
  congr; funext x h1
  split
  · simp only [W_bind]
    congr; funext ys h2
    split
    · split
      · rename_i i j _ _
        cases h2[i]? with
        | none => rfl
        | some o1 =>
          cases o1 with
          | dct ks =>
            cases h2[j]? with
            | none => rfl
            | some o2 =>
              cases o2 with
              | dct more =>
                simp only [lkD_dct, big]
                split <;> rfl
              | _ => rfl
          | _ => rfl
      · rfl
    · rfl
  · rfl
@[simp] theorem SW_putC (o i : SE) (y : D) (k : SS) (e : Env') (h : OH) : (putC o i y k e h).W N C B R = (o e h).W fun x h2 => (i e h2).W fun kk h3 => isR x fun n => lkS (keyD kk) fun q => lkD h3[n]? fun ks => if ks.length < 1000000 then (k e (h3.set n (.dct (putD ks q y)))).W N C B R else False := by
  unfold putC
  simp only [W_toS]
  congr; funext x h2; congr; funext kk h3
  cases x with
  | ref n =>
    simp only [isR_ref]
    cases keyD kk with
    | none => rfl
    | some q =>
      simp only [lkS_some]
      cases h3[n]? with
      | none => rfl
      | some ob => cases ob <;> first | rfl | (simp only [lkD_dct, big]; split <;> rfl)
  | _ => rfl
@[simp] theorem SW_sub2 (o1 i1 o2 i2 v : SE) (e : Env') (h : OH) : (sSub2 o1 i1 o2 i2 v e h).W N C B R = (v e h).W fun y h1 => match y with
  | .tup [y1, y2] => (putC o1 i1 y1 (putC o2 i2 y2 fun e h => .nx e h) e h1).W N C B R
  | _ => False := by
  unfold sSub2
  simp only [W_toS]
  congr; funext y h1
  split <;> rfl
end
end HR
set_option Elab.async false
set_option linter.all false
set_option maxRecDepth 20000
set_option maxHeartbeats 1000000
/-! lending, with an answer of new own lists: the answer is read as a frozen tree -/
set_option Elab.async false
set_option linter.all false
set_option maxRecDepth 100000
set_option maxHeartbeats 1000000
/-! enumerate of a tuple -/
namespace HR
open PySem L2 RZ PySem.Spec PyProof.Rows
open PySem.Sem (wp)
/-- enumerate of a list or a tuple -/
def sEnumX (f : SA) : SA := fun e h => match f e h with
  | .ok [.tup xs] h1 => .ok (enumD xs) h1
  | _ => sEnum f e h
section
variable {PL : List D → OH → Prop}
def enumAtX : D → Option (List D)
  | .tup xs => some (enumD xs)
  | d => (frzAt d).map enumD
@[simp] theorem W_enumX (f : SE) (e : Env') (h : OH) : (sEnumX (sCons f sNil) e h).W PL = (f e h).W fun d h1 => lkS (enumAtX d) fun xs => PL xs h1 := by
  unfold sEnumX
  split
  · rename_i xs h1 q
    cases qf : f e h with
    | bad => simp [sCons, qf] at q
    | exc C p h2 => simp [sCons, qf] at q
    | ok d h2 =>
      simp [sCons, qf, sNil] at q
      obtain ⟨rfl, rfl⟩ := q
      rfl
  · rename_i no
    rw [W_enum]
    cases qf : f e h with
    | bad => rfl
    | exc C p h2 => rfl
    | ok d h2 =>
      simp only [W_ok]
      have e2 : enumAtX d = (frzAt d).map enumD := by
        unfold enumAtX
        split
        · rename_i xs
          exact absurd (by simp [sCons, qf, sNil] : sCons f sNil e h = .ok [.tup xs] h2) (no xs h2)
        · rfl
      rw [e2]
      cases frzAt d <;> rfl
@[simp] theorem enumAtX_t (xs : List D) : enumAtX (.tup xs) = some (enumD xs) := rfl
@[simp] theorem enumAtX_l (xs : List D) : enumAtX (.lst xs) = some (enumD xs) := rfl
end
end HR
set_option Elab.async false
set_option linter.all false
set_option maxRecDepth 20000
set_option maxHeartbeats 1000000
/-! a def that reads no own objects and answers new ones: run on an empty heap -/
namespace HR
open PySem L2 RZ
mutual
def shD (n : Nat) : D → D
  | .non => .non
  | .bl b => .bl b
  | .int i => .int i
  | .str x => .str x
  | .lst xs => .lst (shL n xs)
  | .tup xs => .tup (shL n xs)
  | .dct ks => .dct (shK n ks)
  | .obj C fs => .obj C (shF n fs)
  | .ref i => .ref (n + i)
  | .scr xs => .scr (shL n xs)
  | .exc C => .exc C
  | .excf C f d => .excf C f (shD n d)
  | .fn x => .fn x
  | .dcl ks => .dcl (shK n ks)
def shL (n : Nat) : List D → List D
  | [] => []
  | d :: ds => shD n d :: shL n ds
def shK (n : Nat) : List (Key × D) → List (Key × D)
  | [] => []
  | (k, d) :: ks => (k, shD n d) :: shK n ks
def shF (n : Nat) : List (String × D) → List (String × D)
  | [] => []
  | (f, d) :: fs => (f, shD n d) :: shF n fs
end
def shO (n : Nat) : OO → OO
  | .lst xs => .lst (shL n xs)
  | .ins C fs => .ins C (shF n fs)
  | .dct ks => .dct (shK n ks)
  | .dead => .dead
  | .nd ψ ks d => .nd ψ (shK n ks) (shD n d)
def aliveO : OO → Bool
  | .dead => false
  | _ => true
section
variable {K : PySem.W.Frag} {F : Hp} {m m1 : List Addr}
theorem shF_names (n : Nat) : ∀ (fs : List (String × D)) (P : String → Prop), (∀ q ∈ fs, P q.1) → ∀ q ∈ shF n fs, P q.1
  | [], _, _, q, hq => by simp [shF] at hq
  | (f, d) :: fs, P, h, q, hq => by
    simp only [shF, List.mem_cons] at hq
    rcases hq with rfl | hq
    · exact h (f, d) List.mem_cons_self
    · exact shF_names n fs P (fun q hq => h q (List.mem_cons_of_mem _ hq)) q hq
theorem ObT.sh {C : String} {fs : List (String × D)} (n : Nat) (t : ObT K C fs) : ObT K C (shF n fs) := ⟨t.1, shF_names n fs (fun x => NoAttr K (He.ga K (Str.ofString C)) (Str.ofString x)) t.2⟩
theorem Den.sh {v : V} {d : D} (r : Den K F m1 v d) : Den K F (m ++ m1) v (shD m.length d) :=
  Den.rec (motive_1 := fun v d _ => Den K F (m ++ m1) v (shD m.length d)) (motive_2 := fun vs ds _ => DenL K F (m ++ m1) vs (shL m.length ds)) (motive_3 := fun vs ds _ => DenK K F (m ++ m1) vs (shK m.length ds)) (motive_4 := fun vs ds _ => DenF K F (m ++ m1) vs (shF m.length ds))
    .non .bl .int .str (fun q _ r => .lst q r) (fun q _ r => .scr q r) (fun q _ r => .tup q r) (fun q _ r => .dct q r) (fun q t _ r => .obj q (t.sh _) r)
    (fun {a i} q => .ref (by rw [List.getElem?_append_right (Nat.le_add_right _ _), Nat.add_sub_cancel_left]; exact q)) (fun q => .exc q) (fun q q2 _ r => .excf q q2 r) .fn (fun q _ r => .dcl q r)
    .nil (fun _ _ a b => .cons a b) .nil (fun _ _ a b => .cons a b) .nil (fun _ _ a b => .cons a b) r
theorem DenL.sh : ∀ {vs : List V} {ds : List D}, DenL K F m1 vs ds → DenL K F (m ++ m1) vs (shL m.length ds)
  | _, _, .nil => .nil
  | _, _, .cons a b => .cons a.sh b.sh
theorem DenK.sh : ∀ {vs : List (Key × V)} {ds : List (Key × D)}, DenK K F m1 vs ds → DenK K F (m ++ m1) vs (shK m.length ds)
  | _, _, .nil => .nil
  | _, _, .cons a b => .cons a.sh b.sh
theorem DenF.sh : ∀ {vs : List (Str × V)} {ds : List (String × D)}, DenF K F m1 vs ds → DenF K F (m ++ m1) vs (shF m.length ds)
  | _, _, .nil => .nil
  | _, _, .cons a b => .cons a.sh b.sh
theorem OOk.sh {H : Hp} {a : Addr} {o : OO} (ok : OOk K F m1 H a o) : OOk K F (m ++ m1) H a (shO m.length o) := by
  cases o with
  | lst xs =>
    obtain ⟨vs, h1, h2, h3⟩ := ok
    exact ⟨vs, h1, h2.sh, h3⟩
  | ins C fs =>
    obtain ⟨dx, fv, h1, h2, h3, h4⟩ := ok
    exact ⟨dx, fv, h1, h2.sh _, h3.sh, h4⟩
  | dct ks =>
    obtain ⟨kv, h1, h2, h3⟩ := ok
    exact ⟨kv, h1, h2.sh, h3⟩
  | dead => trivial
  | nd ψ ks d =>
    obtain ⟨kvs, v, h1, h2, h3, h4⟩ := ok
    exact ⟨kvs, v, h1, h2.sh, h3.sh, h4⟩
theorem OOk.none_ {H : Hp} {a : Addr} {o : OO} (ok : OOk K F m1 H a o) (al : aliveO o = true) : F a = none := by
  cases o with
  | lst xs => obtain ⟨vs, h1, h2, h3⟩ := ok; exact h3
  | ins C fs => obtain ⟨dx, fv, h1, h2, h3, h4⟩ := ok; exact h4
  | dct ks => obtain ⟨kv, h1, h2, h3⟩ := ok; exact h3
  | dead => cases al
  | nd ψ ks d => obtain ⟨kvs, v, h1, h2, h3, h4⟩ := ok; exact h4
end
section
variable {K : PySem.W.Frag} {P : Pins} {F : Hp} {m : List Addr} {h : OH} {H : Hp}
theorem Sim.join {F' : Hp} {m1 : List Addr} {h1 : OH} {H' : Hp} (S : Sim K P F m h H) (s : Same F F') (S' : Sim K (hidP F m H ++ P) F' m1 h1 H') (al : h1.all aliveO = true) : Sim K P F' (m ++ m1) (h ++ h1.map (shO h.length)) H' := by
  have U := S.unhide s S'
  have dis : ∀ a, a ∈ m → a ∉ m1 := fun a ha hb => by
    cases e : F a with
    | none =>
      obtain ⟨o, q⟩ := S.live a ha
      exact (S'.pin (a, o) (List.mem_append_left _ (mem_hidP.mpr ⟨ha, e, q⟩))).2.2 hb
    | some o =>
      obtain ⟨i, hi, ei⟩ := List.mem_iff_getElem.mp hb
      have e1 : m1[i]? = some a := by rw [List.getElem?_eq_getElem hi, ei]
      have hi2 : i < h1.length := by rw [← S'.len]; exact hi
      have e2 : h1[i]? = some h1[i] := List.getElem?_eq_getElem hi2
      have z := (S'.at_ i a _ e1 e2).none_ (List.all_eq_true.mp al _ (List.getElem_mem hi2))
      rw [s a o e] at z
      cases z
  refine ⟨S'.sub, by simp [S.len, S'.len], List.nodup_append.mpr ⟨S.nd, S'.nd, fun a ha b hb z => dis a ha (z ▸ hb)⟩, fun a ha => ?_, fun i a o e1 e2 => ?_, fun p hp => ?_, S.pnd⟩
  · rcases List.mem_append.mp ha with ha | ha
    · exact U.live a ha
    · exact S'.live a ha
  · by_cases hi : i < m.length
    · rw [List.getElem?_append_left hi] at e1
      rw [List.getElem?_append_left (by rw [← S.len]; exact hi)] at e2
      exact (U.at_ i a o e1 e2).mono ⟨fun _ _ q => q, List.prefix_append _ _⟩ rfl id
    · have hi : m.length ≤ i := Nat.le_of_not_lt hi
      rw [List.getElem?_append_right hi] at e1
      rw [List.getElem?_append_right (by rw [← S.len]; exact hi), List.getElem?_map, Option.map_eq_some_iff] at e2
      obtain ⟨o1, q1, rfl⟩ := e2
      rw [← S.len] at q1 ⊢
      exact (S'.at_ _ a o1 e1 q1).sh
  · obtain ⟨h1, h2, h3⟩ := S'.pin p (List.mem_append_right _ hp)
    refine ⟨h1, h2, fun z => ?_⟩
    rcases List.mem_append.mp z with z | z
    · exact (S.pin p hp).2.2 z
    · exact h3 z
def freshF (f : FN) : FN := fun ds h => if D.pureL ds then (match f ds [] with
  | .ok d h1 => if h1.all aliveO then .ok (shD h.length d) (h ++ h1.map (shO h.length)) else .bad
  | .exc C none _ => .exc C none h
  | .exc C (some q) _ => if q.2.pure then .exc C (some q) h else .bad
  | .bad => .bad) else .bad
theorem fresh_sp {np : Nat} {f : FN} {vs : List V} {Q : VK} {E : XK} (q : spN K np (freshF f) vs H Q E) : spN K np f vs H Q E := by
  obtain ⟨hl, P, F, m, ds, h, S, r, fin⟩ := q
  unfold freshF at fin
  by_cases hp : D.pureL ds = true
  · rw [if_pos hp] at fin
    refine ⟨hl, _, F, [], ds, [], S.hide, r.pureM hp, ?_⟩
    cases q : f ds [] with
    | ok d h' =>
      rw [q] at fin
      dsimp only at fin
      by_cases hd : h'.all aliveO = true
      · rw [if_pos hd] at fin
        intro v F' m' H' x S' rv
        have rv' := rv.sh (m := m)
        rw [S.len] at rv'
        exact fin v F' (m ++ m') H' ⟨x.s, List.prefix_append _ _⟩ (S.join x.s S' hd) rv'
      · rw [if_neg hd] at fin
        exact fin.elim
    | exc C p h' =>
      rw [q] at fin
      cases p with
      | none =>
        intro od F' m' H' x S' pd
        exact fin od F' m H' ⟨x.s, List.prefix_rfl⟩ (S.unhide x.s S') pd
      | some z =>
        dsimp only at fin
        by_cases hd : z.2.pure = true
        · rw [if_pos hd] at fin
          intro od F' m' H' x S' pd
          obtain ⟨a, v, e1, e2, e3⟩ := pd
          exact fin od F' m H' ⟨x.s, List.prefix_rfl⟩ (S.unhide x.s S') ⟨a, v, e1, e2, e3.pureM hd⟩
        · rw [if_neg hd] at fin
          exact fin.elim
    | bad => rw [q] at fin; exact fin
  · rw [if_neg hp] at fin
    exact fin.elim
end
theorem FnOk.fresh {P : Program} {w : World} {K : PySem.W.Frag} {mg : Str → Option Value} {base : Heap} {CX : CXT} {k : Nat} {f : Addr} {fd : FuncData} {ps : List Str} {g : FN} (F : FnOk P w K mg base CX k f fd ps (spN K ps.length g)) : FnOk P w K mg base CX k f fd ps (spN K ps.length (freshF g)) := L2.FnOk.imp F fun _ _ _ _ h => fresh_sp h
theorem Def.fresh {P : Program} {w : World} {K : PySem.W.Frag} {mg : Str → Option Value} {base : Heap} {CX : CXT} {k : Nat} {f : Addr} {ps : List Str} {dvs : List V} {g : FN} (d : Def P w K mg base CX k f ps dvs g) : Def P w K mg base CX k f ps dvs (freshF g) := let ⟨fd, dus, a, b, c⟩ := d.ex; ⟨⟨fd, dus, FnOk.fresh a, b, c⟩, d.kp⟩
end HR
set_option Elab.async false
set_option linter.all false
set_option maxRecDepth 100000
set_option maxHeartbeats 2000000
/-! while an exception is handled: the ends of walks, tuples taken apart, comprehensions over own lists, a def called in an except suite -/
set_option Elab.async false
set_option linter.all false
set_option maxRecDepth 100000
set_option maxHeartbeats 2000000
set_option Elab.async false
set_option linter.all false
set_option maxRecDepth 100000
set_option maxHeartbeats 2000000
namespace HR
open PySem L2 RZ PySem.Spec PyProof.Rows HotX
/-! ### defs called while an exception is handled -/
structure FnHot (P : Program) (w : World) (K : PySem.W.Frag) (mg : Str → Option Value) (base : Heap) (k : Nat) (f : Addr) (fd : FuncData) (ps : List Str) (sp : Sp) : Prop where
  len : ∀ vs H Q E, sp vs H Q E → vs.length = ps.length
  run : ∀ (A : Around) (outer : List Env) (s : Shared) (H : Hp) (args : Args) (us : List Value) (vs : List V) (Q : VK) (E : XK) (a : Addr) (ob : Obj) (u : HO) (ws : Array Value), L2H.RoomH k A → A.handled = some (.ref a) → H a = some (.frz ob u) → ob.data = .fields ws → ws[2]? = some .none →
    Env0 P w K mg base A outer s H → BindsTo s fd args (ps.zip us) → Vals vs us → sp vs H Q E → codeAny (model P w) A (.call (.ref f) args) (CR CX0 outer P w H s Q E) s
structure DefHot (P : Program) (w : World) (K : PySem.W.Frag) (mg : Str → Option Value) (base : Heap) (k : Nat) (f : Addr) (ps : List Str) (g : FN) : Prop where
  ex : ∃ fd, FnHot P w K mg base k f fd ps (spN K ps.length g) ∧ Binds K fd ps []
  kp : PySem.W.keepIn K (.ref f) = true
/-! ### try: body, except X as n: m = f(n) -/
/-! ### raise, where the context is known to be None -/
section
variable {P : Program} {w : World} {K : PySem.W.Frag} {mg : Str → Option Value} {base : Heap} {k j : Nat} {f : Addr} {fd : FuncData} {ps : List Str} {g : FN}
theorem FnHot.mono {sp : Sp} (F : FnHot P w K mg base j f fd ps sp) (h : j ≤ k) : FnHot P w K mg base k f fd ps sp := ⟨F.len, fun A out s H args us vs Q E a ob u ws hr => F.run A out s H args us vs Q E a ob u ws (hr.mono h)⟩
theorem DefHot.up (d : DefHot P w K mg base j f ps g) (h : j ≤ k) : DefHot P w K mg base k f ps g := let ⟨fd, a, b⟩ := d.ex; ⟨⟨fd, a.mono h, b⟩, d.kp⟩
end
end HR
set_option Elab.async false
set_option linter.all false
set_option maxRecDepth 20000
set_option exponentiation.threshold 5000
set_option Elab.async false
set_option linter.all false
set_option maxRecDepth 20000
set_option exponentiation.threshold 5000
namespace HR
open PySem PySem.Spec PyProof.Rows L2
/-! ### sorted(ints); list(range(a, b)) -/
def insI (x : Int) : List Int → List Int
  | [] => [x]
  | y :: ys => if x ≤ y then x :: y :: ys else y :: insI x ys
def sortI : List Int → List Int
  | [] => []
  | x :: xs => insI x (sortI xs)
def opSortI : D → OH → Res D := fun d h => match (lsqAt h d).bind intsOf with
  | some ns => .ok (.lst ((sortI ns).map .int)) h
  | none => .bad
section
variable {X : Cx} {W : WX}
/-- list(range(a, b)) -/
def sLstRg (fa fb : SE) : SE := fun e h => (fa e h).bind fun x h1 => (fb e h1).bind fun y h2 => match x, y with
  | .int i, .int j => if 0 ≤ i ∧ i ≤ 1000000 ∧ 0 ≤ j ∧ j ≤ 1000000 then .ok (.lst ((List.range (j - i).toNat).map fun k => .int (i + (k : Nat)))) h2 else .bad
  | _, _ => .bad
end
section
variable {PD : D → OH → Prop}
@[simp] theorem W_sortI (d : D) (h : OH) : (opSortI d h).W PD = match (lsqAt h d).bind intsOf with
  | some ns => PD (.lst ((sortI ns).map .int)) h
  | none => False := by
  unfold opSortI
  cases (lsqAt h d).bind intsOf <;> rfl
end
end HR
set_option Elab.async false
set_option linter.all false
set_option maxRecDepth 100000
namespace HR
open PySem
/-! ### list(zip(a, b)), two lists: on the heap -/
section
variable {prog : Program} {w : World} {A : Around}
/-- a zip of two lists, i items given -/
def ZipSt (z TI TO i1 i2 l1 l2 S : Addr) (xs ys : Array Value) (i : Nat) (h : Heap) : Prop :=
  IsPair h TI (.ref i1) (.ref i2) ∧ h.IsListIter i1 l1 i ∧ h.IsListIter i2 l2 i ∧ h.IsList l1 xs ∧ h.IsList l2 ys ∧ (∃ o, h.get? TO = some o) ∧
    ((IsZip h z TI TO .none ∧ ∃ a b, IsPair h TO a b) ∨ ∃ T f oT, IsZipHeld h z TI TO T f ∧ h.get? T = some oT ∧ T ≠ z ∧ T ≠ i1 ∧ T ≠ i2 ∧ T ≠ S)
/-- the pairs that lie in the list -/
def ZipAcc (z TO i1 i2 S B : Addr) (xs ys : Array Value) (acc : Array Value) (i : Nat) (h : Heap) : Prop :=
  acc.size = i ∧ ∀ (j : Nat) (v : Value), acc[j]? = some v → ∃ (T : Addr) (x y : Value), v = Value.ref T ∧ xs[j]? = some x ∧ ys[j]? = some y ∧ IsPair h T x y ∧ B ≤ T ∧ T ≠ z ∧ T ≠ TO ∧ T ≠ i1 ∧ T ≠ i2 ∧ T ≠ S ∧ ∀ k : Nat, acc[k]? = some v → k = j
variable {z TI TO i1 i2 l1 l2 S B : Addr} {xs ys : Array Value}
theorem ZipSt.at {i : Nat} {h h' : Heap} (q : ZipSt z TI TO i1 i2 l1 l2 S xs ys i h) (dS : S ≠ z ∧ S ≠ TI ∧ S ≠ TO ∧ S ≠ i1 ∧ S ≠ i2 ∧ S ≠ l1 ∧ S ≠ l2) (hk : ∀ b o, b ≠ S → h.get? b = some o → h'.get? b = some o) : ZipSt z TI TO i1 i2 l1 l2 S xs ys i h' := by
  obtain ⟨dz, dTI, dTO, di1, di2, dl1, dl2⟩ := dS
  obtain ⟨hTI, h1, h2, hl1, hl2, ⟨oO, hO⟩, hz⟩ := q
  refine ⟨hk _ _ (Ne.symm dTI) hTI, h1.at fun o e => hk _ o (Ne.symm di1) e, h2.at fun o e => hk _ o (Ne.symm di2) e, hl1.at fun o e => hk _ o (Ne.symm dl1) e, hl2.at fun o e => hk _ o (Ne.symm dl2) e, ⟨oO, hk _ _ (Ne.symm dTO) hO⟩, ?_⟩
  rcases hz with ⟨hz, a, b, hTO⟩ | ⟨T, f, oT, hz, hT, r1, r2, r3, r4⟩
  · exact .inl ⟨hk _ _ (Ne.symm dz) hz, a, b, hk _ _ (Ne.symm dTO) hTO⟩
  · exact .inr ⟨T, f, oT, hk _ _ (Ne.symm dz) hz, hk _ _ r4 hT, r1, r2, r3, r4⟩
theorem ZipAcc.at {i : Nat} {acc : Array Value} {h h' : Heap} (q : ZipAcc z TO i1 i2 S B xs ys acc i h) (hk : ∀ b o, b ≠ z → b ≠ TO → b ≠ i1 → b ≠ i2 → b ≠ S → h.get? b = some o → h'.get? b = some o) : ZipAcc z TO i1 i2 S B xs ys acc i h' :=
  ⟨q.1, fun j v e => by
    obtain ⟨T, x, y, a1, a2, a3, a4, a5, a6, a7, a8, a9, a10, a11⟩ := q.2 j v e
    exact ⟨T, x, y, a1, a2, a3, hk _ _ a6 a7 a8 a9 a10 a4, a5, a6, a7, a8, a9, a10, a11⟩⟩
theorem ZipAcc.push {i : Nat} {acc : Array Value} {h : Heap} {T : Addr} {x y : Value} (q : ZipAcc z TO i1 i2 S B xs ys acc i h) (hx : xs[i]? = some x) (hy : ys[i]? = some y) (hp : IsPair h T x y) (hB : B ≤ T) (hT : T ≠ z ∧ T ≠ TO ∧ T ≠ i1 ∧ T ≠ i2 ∧ T ≠ S) (hn : ∀ k : Nat, acc[k]? ≠ some (Value.ref T)) : ZipAcc z TO i1 i2 S B xs ys (acc.push (.ref T)) (i + 1) h := by
  obtain ⟨q1, q2⟩ := q
  refine ⟨by rw [Array.size_push, q1], fun j v e => ?_⟩
  rw [Array.getElem?_push] at e
  split at e
  · rename_i ej
    cases e
    rw [q1] at ej
    subst ej
    refine ⟨T, x, y, rfl, hx, hy, hp, hB, hT.1, hT.2.1, hT.2.2.1, hT.2.2.2.1, hT.2.2.2.2, fun k ek => ?_⟩
    rw [Array.getElem?_push] at ek
    split at ek
    · rename_i e2
      rw [e2, q1]
    · exact absurd ek (hn k)
  · obtain ⟨T2, x2, y2, a1, a2, a3, a4, a5, a6, a7, a8, a9, a10, a11⟩ := q2 j v e
    refine ⟨T2, x2, y2, a1, a2, a3, a4, a5, a6, a7, a8, a9, a10, fun k ek => ?_⟩
    rw [Array.getElem?_push] at ek
    split at ek
    · cases ek
      exact absurd e (hn j)
    · exact a11 k ek
end
end HR
set_option Elab.async false
set_option linter.all false
set_option maxRecDepth 20000
set_option exponentiation.threshold 5000
set_option Elab.async false
set_option linter.all false
set_option maxRecDepth 20000
set_option exponentiation.threshold 5000
namespace HR
open PySem PySem.Spec PyProof.Rows L2
/-! ### list(zip(a, b)), as a value -/
def sLstZip (fa fb : SE) : SE := fun e h => (fa e h).bind fun x h1 => (fb e h1).bind fun y h2 => match lsqAt h2 x, lsqAt h2 y with
  | some xs, some ys => .ok (.lst ((xs.zip ys).map fun p => .tup [p.1, p.2])) h2
  | _, _ => .bad
section
variable {PD : D → OH → Prop}
@[simp] theorem W_lstZip (fa fb : SE) (e : Env') (h : OH) : (sLstZip fa fb e h).W PD = (fa e h).W fun x h1 => (fb e h1).W fun y h2 => match lsqAt h2 x, lsqAt h2 y with
  | some xs, some ys => PD (.lst ((xs.zip ys).map fun p => .tup [p.1, p.2])) h2
  | _, _ => False := by
  unfold sLstZip; rw [W_bind]; congr; funext d h1
  rw [W_bind]; congr; funext d2 h2
  cases lsqAt h2 d with
  | none => rfl
  | some xs => cases lsqAt h2 d2 <;> rfl
@[simp] theorem W_lstRg (fa fb : SE) (e : Env') (h : OH) : (sLstRg fa fb e h).W PD = (fa e h).W fun x h1 => (fb e h1).W fun y h2 => match x, y with
  | .int i, .int j => if 0 ≤ i ∧ i ≤ 1000000 ∧ 0 ≤ j ∧ j ≤ 1000000 then PD (.lst ((List.range (j - i).toNat).map fun k => .int (i + (k : Nat)))) h2 else False
  | _, _ => False := by
  unfold sLstRg; rw [W_bind]; congr; funext d h1
  rw [W_bind]; congr; funext d2 h2
  cases d <;> cases d2 <;> first | rfl | (dsimp only; split <;> rfl)
end
end HR
set_option Elab.async false
set_option linter.all false
set_option maxRecDepth 20000
set_option exponentiation.threshold 5000
set_option Elab.async false
set_option linter.all false
set_option maxRecDepth 20000
set_option exponentiation.threshold 5000
namespace HR
open PySem PySem.Spec PyProof.Rows L2
/-! ### sorted(triples of small ints) -/
abbrev T3 := Int × Int × Int
def B6 : Int := 1000000
def ns3 (p : T3) : List Int := [p.1, p.2.1, p.2.2]
def cd3 (p : T3) : Int := TS.code B6 (ns3 p)
def ok3 (p : T3) : Bool := decide (0 ≤ p.1 ∧ p.1 < B6 ∧ 0 ≤ p.2.1 ∧ p.2.1 < B6 ∧ 0 ≤ p.2.2 ∧ p.2.2 < B6)
def d3 (p : T3) : D := .tup [.int p.1, .int p.2.1, .int p.2.2]
def ins3 (x : T3) : List T3 → List T3
  | [] => [x]
  | y :: ys => if cd3 x ≤ cd3 y then x :: y :: ys else y :: ins3 x ys
def sort3 : List T3 → List T3
  | [] => []
  | x :: xs => ins3 x (sort3 xs)
def tripOf : D → Option T3
  | .tup [.int a, .int b, .int c] => some (a, b, c)
  | _ => none
def tripsOf : List D → Option (List T3)
  | [] => some []
  | x :: xs => match tripOf x, tripsOf xs with
    | some p, some ps => some (p :: ps)
    | _, _ => none
@[simp] theorem tripsOf_map (ps : List T3) : tripsOf (ps.map d3) = some ps := by
  induction ps with
  | nil => rfl
  | cons p ps ih => simp only [List.map_cons, tripsOf, ih]; rfl
def opSort3 : D → OH → Res D := fun d h => match (lsqAt h d).bind tripsOf with
  | some ts => if ts.all ok3 = true ∧ ts.length < 64 then .ok (.lst ((sort3 ts).map d3)) h else .bad
  | none => .bad
section
variable {PD : D → OH → Prop}
@[simp] theorem W_sort3 (d : D) (h : OH) : (opSort3 d h).W PD = match (lsqAt h d).bind tripsOf with
  | some ts => if ts.all ok3 = true ∧ ts.length < 64 then PD (.lst ((sort3 ts).map d3)) h else False
  | none => False := by
  unfold opSort3
  cases (lsqAt h d).bind tripsOf with
  | none => rfl
  | some ts => dsimp only; split <;> rfl
end
end HR
set_option Elab.async false
set_option linter.all false
set_option maxRecDepth 20000
set_option exponentiation.threshold 5000
namespace HR
open PySem PySem.Spec PyProof.Rows L2
/-! ### a[i], b[j] = x, y for own lists -/
section
variable {X : Cx} {W : WX}
def putL (o i : SE) (y : D) (k : SS) : SS := fun e h => (o e h).toS e fun x h2 => (i e h2).toS e fun kk h3 => match x, kk with
  | .ref n, .int j => (match h3[n]? with
    | some (.lst xs) => (match ixN xs.length j with
      | some q => k e (h3.set n (.lst (xs.set q y)))
      | none => .bad)
    | _ => .bad)
  | _, _ => .bad
def sSubL (o1 i1 o2 i2 v : SE) : SS := fun e h => (v e h).toS e fun y h1 => match y with
  | .tup [y1, y2] => putL o1 i1 y1 (putL o2 i2 y2 fun e h => .nx e h) e h1
  | _ => .bad
end
section
variable {N C B : Env' → OH → Prop} {R : D → OH → Prop}
@[simp] theorem SW_putL (o i : SE) (y : D) (k : SS) (e : Env') (h : OH) : (putL o i y k e h).W N C B R = (o e h).W fun x h2 => (i e h2).W fun kk h3 => match x, kk with
  | .ref n, .int j => lkL h3[n]? fun xs => lkS (ixN xs.length j) fun q => (k e (h3.set n (.lst (xs.set q y)))).W N C B R
  | _, _ => False := by
  unfold putL
  simp only [W_toS]
  congr; funext x h2; congr; funext kk h3
  cases x <;> cases kk <;> first | rfl | skip
  rename_i n j
  dsimp only
  cases h3[n]? with
  | none => rfl
  | some o => cases o with
    | lst xs => simp only [lkL_lst]; cases ixN xs.length j <;> rfl
    | _ => rfl
@[simp] theorem SW_subL (o1 i1 o2 i2 v : SE) (e : Env') (h : OH) : (sSubL o1 i1 o2 i2 v e h).W N C B R = (v e h).W fun y h1 => match y with
  | .tup [y1, y2] => (putL o1 i1 y1 (putL o2 i2 y2 fun e h => .nx e h) e h1).W N C B R
  | _ => False := by
  unfold sSubL
  simp only [W_toS]
  congr; funext y h1
  split <;> rfl
end
end HR
set_option Elab.async false
set_option linter.all false
set_option maxRecDepth 20000
set_option maxHeartbeats 1000000
/-! enumerate over an own list, which keeps its length meanwhile -/
namespace HR
open PySem L2 RZ
section
variable {X : Cx} {W : WX}
/-- j rounds are left of n -/
def forE (g : TF) (b : SS) (i n : Nat) : Nat → SS
  | 0 => fun e h => match h[i]? with
    | some (.lst ys) => if ys.length = n then .nx e h else .bad
    | _ => .bad
  | j + 1 => fun e h => match h[i]? with
    | some (.lst ys) => if ys.length = n then (match ys[n - (j + 1)]? with
      | some d => (match g (.tup [.int ((n - (j + 1) : Nat) : Int), d]) e h with
        | none => .bad
        | some e1 => (match b e1 h with
          | .nx e2 h2 => forE g b i n j e2 h2
          | .ct e2 h2 => forE g b i n j e2 h2
          | .bk e2 h2 => .nx e2 h2
          | r => r))
      | none => .bad) else .bad
    | _ => .bad
def sForE (f : SE) (g : TF) (b : SS) : SS := fun e h => (sRefL f e h).toS e fun i h1 => match h1[i]? with
  | some (.lst xs) => forE g b i xs.length xs.length e h1
  | _ => .bad
end
section
variable {N C B : Env' → OH → Prop} {R : D → OH → Prop}
@[simp] theorem SW_forE (f : SE) (g : TF) (b : SS) (e : Env') (h : OH) : (sForE f g b e h).W N C B R = (f e h).W fun d h1 => isR d fun i => lkO h1[i]? fun xs => (forE g b i xs.length xs.length e h1).W N C B R := by
  unfold sForE
  rw [W_toS, W_refL]
  congr; funext d h1; congr; funext i
  rcases h1[i]? with _ | o
  · rfl
  · cases o <;> rfl
end
end HR
set_option Elab.async false
set_option linter.all false
set_option maxRecDepth 20000
set_option maxHeartbeats 1000000
/-! d.get(k, x), k None too; range(a, b, c) with c above 0 -/
namespace HR
open PySem L2 RZ PySem.Spec PyProof.Rows
section
variable {X : Cx} {W : WX}
def sGet2 (fo fe ff : SE) : SE := fun e h => (fo e h).bind fun x h1 => match x with
  | .dct ks => (fe e h1).bind fun k h2 => (ff e h2).bind fun z h3 => match k with
    | .non => .ok z h3
    | k => (match keyD k with
      | some q => .ok ((getK ks q).getD z) h3
      | none => .bad)
  | _ => .bad
/-- range(a, b, c), c above 0 -/
def sRngP (a : SA) : SA := fun e h => (a e h).bind fun ds h1 => match ds with
  | [.int i, .int j, .int k] => if 0 ≤ i ∧ i ≤ 1000000 ∧ 0 ≤ j ∧ j ≤ 1000000 ∧ 0 < k ∧ k ≤ 1000 then .ok (rngS i k (if i < j then (j - i - 1) / k + 1 else 0).toNat) h1 else .bad
  | _ => .bad
end
section
variable {PD : D → OH → Prop} {PL : List D → OH → Prop}
@[simp] theorem W_get2 (fo fe ff : SE) (e : Env') (h : OH) : (sGet2 fo fe ff e h).W PD = (fo e h).W fun x h1 => match x with
  | .dct ks => (fe e h1).W fun k h2 => (ff e h2).W fun z h3 => match k with
    | .non => PD z h3
    | k => (match keyD k with
      | some q => PD ((getK ks q).getD z) h3
      | none => False)
  | _ => False := by
  unfold sGet2; rw [W_bind]; congr; funext x h1
  cases x <;> first | rfl | skip
  rename_i ks
  dsimp only
  rw [W_bind]; congr; funext k h2
  rw [W_bind]; congr; funext z h3
  cases k <;> rfl
@[simp] theorem W_rngP (f g k : SE) (e : Env') (h : OH) : (sRngP (sCons f (sCons g (sCons k sNil))) e h).W PL = (f e h).W fun x h1 => (g e h1).W fun y h2 => (k e h2).W fun z h3 => match x, y, z with
  | .int i, .int j, .int k => if 0 ≤ i ∧ i ≤ 1000000 ∧ 0 ≤ j ∧ j ≤ 1000000 ∧ 0 < k ∧ k ≤ 1000 then PL (rngS i k (if i < j then (j - i - 1) / k + 1 else 0).toNat) h3 else False
  | _, _, _ => False := by
  unfold sRngP
  simp only [sCons, sNil]
  cases f e h with
  | ok x h1 =>
    simp only [Res.bind_ok, W_ok]
    cases g e h1 with
    | ok y h2 =>
      simp only [Res.bind_ok, W_ok]
      cases k e h2 with
      | ok z h3 =>
        simp only [Res.bind_ok, W_ok]
        cases x <;> first | rfl | skip
        cases y <;> first | rfl | skip
        cases z <;> first | rfl | skip
        dsimp only
        split <;> rfl
      | _ => rfl
    | _ => rfl
  | _ => rfl
end
end HR
set_option Elab.async false
set_option linter.all false
set_option maxRecDepth 20000
set_option maxHeartbeats 1000000
/-! {k: list(v) for k, v in d.items()} of an own dict: the dict is locked meanwhile -/
set_option Elab.async false
set_option linter.all false
set_option maxRecDepth 20000
set_option maxHeartbeats 1000000
/-! sorted(d.items()) of an own dict with int keys in rising order, whose values are lists -/
namespace HR
namespace SI
open PySem PySem.W PySem.Calls PyProof.Rows PyProof.V PySem.Spec
def IPair (h : Heap) (v : Value) (i : Int) (c : Addr) : Prop := ∃ (a : Addr) (t : Tok), v = .ref a ∧ IsTup h a #[.int i t, .ref c]
def intOf : Option Value → Int
  | some (.int i _) => i
  | _ => 0
def keyN (h : Heap) (v : Value) : Int := intOf (DT.seqAt0 h (DT.refOf (some v)))
theorem IPair.key {h : Heap} {v : Value} {i : Int} {c : Addr} (x : IPair h v i c) : keyN h v = i := by
  obtain ⟨a, t, rfl, h1⟩ := x
  show intOf (DT.seqAt0 h a) = i
  rw [DT.seqAt0_of h1]
  rfl
end SI
open PySem PySem.Spec PyProof.Rows L2
end HR
set_option Elab.async false
set_option linter.all false
set_option maxRecDepth 20000
set_option maxHeartbeats 1000000
/-! sorted(d.items()) as a value -/
set_option Elab.async false
set_option linter.all false
set_option maxRecDepth 20000
set_option maxHeartbeats 1000000
/-! o.f, p.g, .. = a tuple, for own objects -/
set_option Elab.async false
set_option linter.all false
set_option maxRecDepth 20000
set_option maxHeartbeats 1000000
/-! name = {k: list(v) for k, v in d.items()} -/
set_option Elab.async false
set_option linter.all false
set_option maxRecDepth 20000
set_option maxHeartbeats 1000000
/-! own instances made with defaults; a default that is the empty tuple -/
set_option Elab.async false
set_option linter.all false
set_option maxRecDepth 20000
set_option maxHeartbeats 1000000
/-! C(k = v): an own instance made with one keyword argument -/
set_option Elab.async false
set_option linter.all false
set_option maxRecDepth 20000
set_option maxHeartbeats 1000000
/-! a, b, c = x, y, z -/
namespace HR
open PySem PySem.Spec PyProof.Rows L2
def sPar3 (i j l : Nat) (f : SA) : SS := fun e h => (f e h).toS e fun ds h1 => match ds with
  | [x, y, z] => .nx (((e.set i (some x)).set j (some y)).set l (some z)) h1
  | _ => .bad
section
variable {N C B : Env' → OH → Prop} {R : D → OH → Prop}
@[simp] theorem SW_par3 (i j l : Nat) (f : SA) (e : Env') (h : OH) : (sPar3 i j l f e h).W N C B R = (f e h).W fun ds h1 => match ds with
  | [x, y, z] => N (((e.set i (some x)).set j (some y)).set l (some z)) h1
  | _ => False := by
  unfold sPar3
  simp only [W_toS]
  congr; funext ds h1
  split <;> rfl
end
end HR
set_option Elab.async false
set_option linter.all false
set_option maxRecDepth 20000
set_option maxHeartbeats 1000000
/-! dict([pairs]) as an own dict -/
set_option Elab.async false
set_option linter.all false
set_option maxRecDepth 20000
set_option maxHeartbeats 1000000
/-! an own list is frozen, any other value stays -/
set_option Elab.async false
set_option linter.all false
set_option maxRecDepth 20000
set_option maxHeartbeats 1000000
/-! == of two own dicts, value by value -/
set_option Elab.async false
set_option linter.all false
set_option maxRecDepth 20000
set_option maxHeartbeats 1000000
/-! len(x) of an instance whose class has __len__ -/
set_option Elab.async false
set_option linter.all false
set_option maxRecDepth 20000
set_option maxHeartbeats 1000000
/-! x == y of two instances of a class with its own __eq__ -/
set_option Elab.async false
set_option linter.all false
set_option maxRecDepth 20000
set_option maxHeartbeats 1000000
/-! == of two tuples that hold own lists and own dicts -/
set_option Elab.async false
set_option linter.all false
set_option maxRecDepth 20000
set_option maxHeartbeats 1000000
/-! isinstance(x, C) for an own class C, x an instance of C or a value of a built-in type -/
namespace HR
open PySem PySem.Spec PyProof.Rows L2
def sIsO (C : String) (f : SE) : SE := fun e h => (f e h).bind fun d h1 => match insAt h1 d with
  | some p => if p.1 = C then .ok (.bl true) h1 else .bad
  | none => (match tyAt h1 d with
    | some t => if t ∈ tysB then .ok (.bl false) h1 else .bad
    | none => .bad)
section
variable {PD : D → OH → Prop}
@[simp] theorem W_sIsO (C : String) (f : SE) (e : Env') (h : OH) : (sIsO C f e h).W PD = (f e h).W fun d h1 => match insAt h1 d with
    | some p => if p.1 = C then PD (.bl true) h1 else False
    | none => (match tyAt h1 d with
      | some t => if t ∈ tysB then PD (.bl false) h1 else False
      | none => False) := by
  unfold sIsO
  rw [W_bind]
  congr; funext d h1
  cases insAt h1 d with
  | some p => dsimp only; split <;> rfl
  | none =>
    dsimp only
    cases tyAt h1 d with
    | none => rfl
    | some t => dsimp only; split <;> rfl
end
end HR
set_option Elab.async false
set_option linter.all false
set_option maxRecDepth 20000
set_option maxHeartbeats 1000000
/-! dict(d) of an own dict; [(k, list(m[f][k])) for k in m[f]]: the dict m[f] is locked meanwhile -/
set_option Elab.async false
set_option linter.all false
set_option maxRecDepth 20000
set_option maxHeartbeats 1000000
/-! x == y, x an instance of a class with its own __eq__, y one of them or a value of a built-in type; x != y by the same __eq__ -/
set_option Elab.async false
set_option linter.all false
set_option maxRecDepth 20000
namespace HR
open PySem L2
/-! ### methods that may raise -/
section
variable {X : Cx} {W : WX} {CX : CXT} {k : Nat} {f : Addr} {fd : FuncData} {ps : List Str} {g : FN}
/-- o.m(e, ..), the class written; what is raised goes out -/
def sMethX (C mt : String) (g : FN) (o : SE) (a : SA) : SE := fun e h => (o e h).bind fun x h1 => match insAt h1 x with
  | some q => if q.1 = C ∧ q.2.lookup mt = none then (a e h1).bind fun ys h2 => g (x :: ys) h2 else .bad
  | none => .bad
end
section
variable {PD : D → OH → Prop}
@[simp] theorem W_sMethX (K mt : String) (g : FN) (o : SE) (a : SA) (e : Env') (h : OH) : (sMethX K mt g o a e h).W PD = (o e h).W fun x h1 => lkS (insAt h1 x) fun q => q.1 = K ∧ hasNo q.2 mt ∧ (a e h1).W fun ys h2 => (g (x :: ys) h2).W PD := by
  unfold sMethX
  rw [W_bind]; congr; funext x h1
  cases insAt h1 x with
  | none => rfl
  | some q =>
    simp only [lkS_some]
    by_cases hz : q.1 = K ∧ q.2.lookup mt = none
    · have h1 : q.1 = K := hz.1
      have h2 : hasNo q.2 mt := hz.2
      rw [if_pos hz]
      simp [h1, h2]
    · rw [if_neg hz]
      exact propext ⟨fun z => z.elim, fun z => absurd ⟨z.1, z.2.1⟩ hz⟩
end
end HR
set_option Elab.async false
set_option linter.all false
set_option maxRecDepth 20000
set_option Elab.async false
set_option linter.all false
set_option maxRecDepth 100000
set_option maxHeartbeats 2000000
namespace HR
open PySem L2
/-! ### C(e, ..), what __init__ raises goes out -/
/-- C(e, ..): __init__ may raise -/
def sMakeX (C : String) (g : FN) (a : SA) : SE := fun e h => (a e h).bind fun ys h1 => match g (.ref h1.length :: ys) (h1 ++ [.ins C []]) with
  | .ok .non h2 => .ok (.ref h1.length) h2
  | .exc D p h2 => .exc D p h2
  | _ => .bad
section
variable {PD : D → OH → Prop}
@[simp] theorem W_sMakeX (C : String) (g : FN) (a : SA) (e : Env') (h : OH) : (sMakeX C g a e h).W PD = (a e h).W fun ys h1 => (g (.ref h1.length :: ys) (h1 ++ [.ins C []])).W fun d h2 => d = .non ∧ PD (.ref h1.length) h2 := by
  unfold sMakeX
  rw [W_bind]; congr; funext ys h1
  cases g (.ref h1.length :: ys) (h1 ++ [.ins C []]) with
  | ok d h2 => cases d <;> simp
  | exc D p h2 => rfl
  | bad => rfl
end
end HR
set_option Elab.async false
set_option linter.all false
set_option maxRecDepth 100000
set_option maxHeartbeats 2000000
set_option Elab.async false
set_option linter.all false
set_option maxRecDepth 100000
set_option maxHeartbeats 2000000
/-! a chain of three comparisons, xs.count(text), slices of texts, xs.index(x) of deep values, an except suite with a choice -/
set_option Elab.async false
set_option linter.all false
set_option maxRecDepth 100000
set_option maxHeartbeats 2000000
/-! min, max of a tuple of ints; str(None) -/
set_option Elab.async false
set_option linter.all false
set_option maxRecDepth 20000
set_option maxHeartbeats 1000000
/-! a dict that gets None as a key at the end: d[None] = v, then d[k], k a text or None -/
namespace HR
open PySem L2 RZ PySem.Spec PyProof.Rows
def leafK : Key → PySem.Leaf
  | .inl i => .num i
  | .inr x => .text x
theorem leafK_ne (k : Key) : leafK k ≠ .none := by cases k <;> simp [leafK]
/-- the dict at a: kvs and None: v -/
def hexN (P : Program) (w : World) (a : Addr) (kvs : List (Key × V)) (v : V) : HO := .ext fun hp => (a == sysModules) = false ∧ ∃ f : PySem.Leaf → Option Value, hp.MapOf (leafKind P w) a f ∧ (∀ k, RelO (valV kvs k) (f (leafK k))) ∧ RelO (some v) (f .none)
theorem leaf_is {k k' : Key} {v : Value} (h : keyIs k' v = true) : (PySem.Leaf.isOf (leafK k) v) = keyIs k v := by
  rcases keyIs_shape h with ⟨i, t, rfl, rfl⟩ | ⟨x, t, rfl, rfl⟩
  · cases k with
    | inl j =>
      show decide (i = j) = Value.isInt j (.int i t)
      by_cases e : i = j
      · subst e; simp [Value.isInt]
      · simp [Value.isInt, e]
        try (first | exact fun z => e z | exact fun z => e z.symm)
    | inr y => rfl
  · cases k with
    | inl j => rfl
    | inr y => rfl
theorem find_same {α : Type} {p q : α → Bool} : ∀ {l : List α}, (∀ e ∈ l, p e = q e) → l.find? p = l.find? q
  | [], _ => rfl
  | x :: l, h => by
    rw [List.find?_cons, List.find?_cons, h x List.mem_cons_self, find_same fun e he => h e (List.mem_cons_of_mem _ he)]
theorem mapOf_leaf {P : Program} {w : World} {h : Heap} {a : Addr} {vs : List (Key × Value)} (dd : h.DictOf (mixKind P w) a vs) : ∃ f, h.MapOf (leafKind P w) a f ∧ ∀ k, f (leafK k) = valueAt vs k := by
  obtain ⟨o, es, ep, h1, h2, h3, h4, hf⟩ := dd.mapOf
  refine ⟨findBy (leafKind P w).is es, ⟨o, es, ep, h1, h2, h3, fun e he => ?_, fun k => rfl⟩, fun k => ?_⟩
  · obtain ⟨k, q1, q2⟩ := h4 e he
    have q1' : keyIs k e.key = true := q1
    refine ⟨leafK k, (leaf_is q1').trans q1', q2.trans ?_⟩
    cases k <;> rfl
  · rw [← hf k]
    obtain ⟨l⟩ := es
    unfold findBy
    rw [List.find?_toArray, List.find?_toArray, find_same fun e he => ?_]
    obtain ⟨k', q1, _⟩ := h4 e (by simpa using he)
    exact leaf_is (show keyIs k' e.key = true from q1)
section
variable {X : Cx} {pins : List (Addr × Obj)} {σ : L2.St} {H : Hp} {s : Shared} {a : Addr} {kvs : List (Key × V)} {v : V} {r : Value} {A : Around} {E : Value → Shared → Prop}
theorem d_setNone {Q : Unit → Shared → Prop} (I : Inv X pins σ H s) (e : H a = some (.dK kvs)) (rv : RelV v r) (h : ∀ s', Inv X pins σ (upd H a (hexN X.prog X.w a kvs v)) s' → Q () s') : wpAny (model X.prog X.w) A (setItem (.ref a) .none r) Q E s := by
  obtain ⟨z, hd, vs, rel, dd⟩ := dk_of I.hok e
  obtain ⟨f, mf, hf⟩ := mapOf_leaf dd
  have sz : s.heap.DictLe a sizeLine := fun o es ep ho hdat => by
    obtain ⟨o', es', ep', h1, h2, h3, h4, h5, h6⟩ := dd
    rw [ho] at h1
    cases h1
    rw [hdat] at h3
    cases h3
    have := h5.length
    rw [← Array.length_toList, this, ← rel.length]
    exact z
  refine wpAny_setItem_of (knd := leafKind X.prog X.w) (k := PySem.Leaf.none) rfl mf (fun h' mf' hs => h _ ?_) sz
  have he : ∃ q, h'.get? a = some q := let ⟨q, _, _, hq, _⟩ := mf'; ⟨q, hq⟩
  refine d_write I (by rw [e]; exact True.intro) hs he ⟨⟨hd, _, mf', fun k => ?_, ?_⟩, he, ?_⟩
  · rw [if_neg (leafK_ne k), hf]
    exact rel.val k
  · rw [if_pos rfl]
    exact rv
  · rintro h1 h2 ⟨hd, f, ⟨o, es, ep, q1, q2⟩, q3⟩ k
    exact ⟨hd, f, ⟨o, es, ep, k _ q1, q2⟩, q3⟩
/-- what it holds at None, at a text or a number -/
def NAt (kvs : List (Key × V)) (v : V) (y r : V) : Prop := (y = .non ∧ r = v) ∨ ∃ k, y = kV k ∧ valV kvs k = some r
theorem d_getN {y z : V} {u : Value} {Q : Value → Shared → Prop} (I : Inv X pins σ H s) (e : Rd H a (hexN X.prog X.w a kvs v)) (g : NAt kvs v y z) (ry : RelV y u) (h : ∀ w' s', Inv X pins σ H s' → RelV z w' → Q w' s') : s.TypeIs (.ref a) "dict" ∧ wpAny (model X.prog X.w) A (getItem (.ref a) u) Q E s := by
  have o : ObjOk X.prog X.w H s.heap a (hexN X.prog X.w a kvs v) := rd_of I.hok e
  obtain ⟨⟨hd, f, mf, q1, q2⟩, _⟩ := o
  refine ⟨mf.typeIs, ?_⟩
  rcases g with ⟨rfl, rfl⟩ | ⟨k, rfl, l⟩
  · obtain rfl : u = Value.none := ry
    obtain ⟨w', hw, rw'⟩ := RelO.some_of q2
    exact wpAny_getItem_of (knd := leafKind X.prog X.w) (k := PySem.Leaf.none) rfl mf hw (h w' _ (I.tok _) rw')
  · obtain ⟨w', hw, rw'⟩ := RelO.some_of (v := z) (o := f (leafK k)) (by rw [← l]; exact q1 k)
    have ku : keyIs k u = true := kV_is (P := X.prog) (w := X.w) ry
    exact wpAny_getItem_of (knd := leafKind X.prog X.w) (k := leafK k) ((leaf_is ku).trans ku) mf hw (h w' _ (I.tok _) rw')
end
def tNGet (P : Program) (w : World) (td ty : TE) : TE := fun σ H Q => td σ H fun x H1 => ty σ H1 fun y H2 => ∃ a kvs v z, x = .ref a ∧ Rd H2 a (hexN P w a kvs v) ∧ NAt kvs v y z ∧ Q z H2
def sNPut (P : Program) (w : World) (td ty tv : TE) : TS := fun D σ H => tv σ H fun v H1 => td σ H1 fun x H2 => ty σ H2 fun y H3 => ∃ a kvs, x = .ref a ∧ y = .non ∧ H3 a = some (.dK kvs) ∧ D.nx σ (upd H3 a (hexN P w a kvs v))
section
variable {X : Cx} {W : WX} {o i value : Expr} {pos pos' : Pos} {td ty tv : TE}
theorem pe_nget (ho : PE X o td) (hi : PE X i ty) (hs : NoSl i) : PE X (.Subscript o i pos) (tNGet X.prog X.w td ty) := by
  refine ⟨fun pins s σ H Q I h => ?_⟩
  refine subD_of PySem.F.slot_dict_getitem.lookup hs (thn (ho.run pins s σ H _ I h) fun u s1 ⟨x, H1, I1, rx, q1⟩ => thn (hi.run pins s1 σ H1 _ I1 q1) fun iv s2 ⟨y, H2, I2, ry, a, kvs, v, z, ex, g, na, q2⟩ => ?_)
  subst ex
  obtain rfl : u = Value.ref a := rx
  exact d_getN I2 g na ry fun w' s3 I3 rw' => ⟨z, H2, I3, rw', q2⟩
theorem ps_nput (ho : PE X o td) (hi : PE X i ty) (hv : PE X value tv) (hs : swapsWith value (some (.Subscript o i pos')) pos.line X.env = pure false) : PS X (.Assign [.Subscript o i pos'] value pos) (sNPut X.prog X.w td ty tv) := by
  refine ⟨fun pins s σ H D I h => ?_⟩
  refine wpAny_Assign_Subscript (thn (hv.run pins s σ H _ I h) fun r s1 ⟨v, H1, I1, rv, q1⟩ => thn (ho.run pins s1 σ H1 _ I1 q1) fun u s2 ⟨x, H2, I2, rx, q2⟩ => thn (hi.run pins s2 σ H2 _ I2 q2) fun iv s3 ⟨y, H3, I3, ry, a, kvs, ex, ey, g, q3⟩ => ?_) hs
  subst ex ey
  obtain rfl : u = Value.ref a := rx
  obtain rfl : iv = Value.none := ry
  exact d_setNone I3 g rv fun s4 I4 => ⟨σ, _, I4, q3⟩
end
abbrev HexK := Addr → List (Key × V) → V → HO
open Classical in
noncomputable def opGetN (ψ : HexK) : D → D → OH → Res D := fun a b h => match a with
  | .ref n => (match h[n]? with
    | some (.nd φ ks d) => if φ = ψ then (match b with
      | .non => .ok d h
      | b => (match keyD b with
        | some k => (match getK ks k with
          | some z => .ok z h
          | none => .bad)
        | none => .bad)) else .bad
    | _ => .bad)
  | _ => .bad
def sPutN (ψ : HexK) (o i v : SE) : SS := fun e h => (v e h).toS e fun y h1 => (o e h1).toS e fun x h2 => (i e h2).toS e fun k h3 => match x, k with
  | .ref n, .non => (match h3[n]? with
    | some (.dct ks) => .nx e (h3.set n (.nd ψ ks y))
    | _ => .bad)
  | _, _ => .bad
section
variable {X : Cx} {W : WX}
theorem getN_h {P : Pins} {F : Hp} {m : List Addr} {h : OH} {H : Hp} {σ : L2.St} {Q : VK} {x y : V} {dx dy : D} (S : Sim X.K P F m h H) (r1 : Den X.K F m x dx) (r2 : Den X.K F m y dy) (fin : FinG X.K P W σ (Den X.K) Q F m (opGetN (hexN X.prog X.w) dx dy h)) :
    ∃ a kvs v z, x = .ref a ∧ Rd H a (hexN X.prog X.w a kvs v) ∧ NAt kvs v y z ∧ Q z H := by
  unfold opGetN at fin
  cases r1 with
  | @ref a n e1 =>
    obtain ⟨ob, k1, k2⟩ := S.own e1
    simp only [k1] at fin
    cases ob with
    | nd φ ks d =>
      dsimp only at fin
      by_cases hφ : φ = hexN X.prog X.w
      · rw [if_pos hφ] at fin
        subst hφ
        obtain ⟨kvs, v, h1, h2, h3, h4⟩ := k2
        have key : ∀ k, keyD dy = some k → ∀ z, getK ks k = some z → FinG X.K P W σ (Den X.K) Q F m (.ok z h) → ∃ a' kvs v z, V.ref a = .ref a' ∧ Rd H a' (hexN X.prog X.w a' kvs v) ∧ NAt kvs v y z ∧ Q z H := fun k ek z ez fin => by
          obtain ⟨u, q1, q2⟩ := denK_get h2 ez
          exact ⟨a, kvs, v, u, rfl, .inl h1, .inr ⟨k, keyD_den r2 ek, q1⟩, fin.ok S q2⟩
        cases r2 with
        | non => exact ⟨a, kvs, v, v, rfl, .inl h1, .inl ⟨rfl, rfl⟩, fin.ok S h3⟩
        | int i =>
          dsimp only [keyD] at fin
          cases ez : getK ks (.inl i) with
          | none => rw [ez] at fin; exact fin.bad_elim
          | some z => rw [ez] at fin; exact key _ rfl z ez fin
        | str x =>
          dsimp only [keyD] at fin
          cases ez : getK ks (.inr x) with
          | none => rw [ez] at fin; exact fin.bad_elim
          | some z => rw [ez] at fin; exact key _ rfl z ez fin
        | _ => exact fin.bad_elim
      · rw [if_neg hφ] at fin
        exact fin.bad_elim
    | _ => exact fin.bad_elim
  | _ => exact fin.bad_elim
theorem de_getN {a b : Expr} {pos : Pos} {fa fb : SE} (ha : DE X W a fa) (hb : DE X W b fb) (hs : NoSl b := by exact fun _ _ => rfl) : DE X W (.Subscript a b pos) (sBin (opGetN (hexN X.prog X.w)) fa fb) := PE.of (pe_nget ha hb hs) fun σ H Q => by
  rintro ⟨P, F, m, e, h, S, E, fin⟩
  refine rd_seq S E fin fun F1 m1 h1 H1 x dx x1 S1 E1 r1 fin1 => ?_
  refine rd_seq S1 E1 fin1 fun F2 m2 h2 H2 y dy x2 S2 E2 r2 fin2 => ?_
  exact getN_h S2 (r1.mono x2) r2 fin2
theorem ds_putN {o i a : Expr} {fo fi fa : SE} {pos pos' : Pos} (ho : DE X W o fo) (hi : DE X W i fi) (ha : DE X W a fa) (hs : swapsWith a (some (.Subscript o i pos')) pos.line X.env = pure false := by rfl) :
    DS X W (.Assign [.Subscript o i pos'] a pos) (sPutN (hexN X.prog X.w) fo fi fa) := PS.of (ps_nput ho hi ha hs) fun Dn σ H => by
  rintro ⟨P, F, m, e, h, S, E, fin⟩
  refine st_seq S E fin fun F1 m1 h1 H1 y dy x1 S1 E1 ry fin1 => ?_
  refine st_seq S1 E1 fin1 fun F2 m2 h2 H2 x dx x2 S2 E2 rx fin2 => ?_
  refine st_seq S2 E2 fin2 fun F3 m3 h3 H3 z dz x3 S3 E3 rz fin3 => ?_
  cases rx with
  | @ref b n e1 =>
    cases rz with
    | non =>
      have e2 := pre_get x3.p e1
      obtain ⟨ob, k1, k2⟩ := S3.own e2
      simp only [k1] at fin3
      cases ob with
      | dct ks =>
        dsimp only at fin3
        obtain ⟨kvs, k3, k4, k5⟩ := k2
        exact ⟨b, kvs, rfl, rfl, k3, fin3 σ F3 m3 _ .refl (S3.write e2 k1 k5 ⟨kvs, y, upd_same, k4, ry.mono (x2.trans x3), k5⟩) E3⟩
      | _ => exact fin3.elim
    | _ => exact fin3.elim
  | _ => exact fin3.elim
/-! ### defs as values: (f, g), and a call of the name that holds one of them -/
end
section
variable {PD : D → OH → Prop} {N C B : Env' → OH → Prop} {R : D → OH → Prop}
theorem W_getN0 {ψ : HexK} {n : Nat} {ks : List (Key × D)} {d : D} {h : OH} (e : h[n]? = some (.nd ψ ks d)) : (opGetN ψ (.ref n) .non h).W PD = PD d h := by
  simp only [opGetN, e, if_true]
  rfl
theorem W_getN1 {ψ : HexK} {n : Nat} {ks : List (Key × D)} {d z : D} {x : Str} {h : OH} (e : h[n]? = some (.nd ψ ks d)) (g : getK ks (.inr x) = some z) : (opGetN ψ (.ref n) (.str x) h).W PD = PD z h := by
  simp only [opGetN, e, if_true, keyD, g]
  rfl
def isNon (k : D) (P : Prop) : Prop := match k with
  | .non => P
  | _ => False
@[simp] theorem isNon_non (P : Prop) : isNon .non P = P := rfl
@[simp] theorem SW_putN (ψ : HexK) (o i v : SE) (e : Env') (h : OH) : (sPutN ψ o i v e h).W N C B R = (v e h).W fun y h1 => (o e h1).W fun x h2 => (i e h2).W fun k h3 => isR x fun n => isNon k (lkD h3[n]? fun ks => N e (h3.set n (.nd ψ ks y))) := by
  unfold sPutN
  simp only [W_toS]
  congr; funext y h1; congr; funext x h2; congr; funext k h3
  cases x with
  | ref n =>
    simp only [isR_ref]
    cases k with
    | non =>
      simp only [isNon_non]
      cases h3[n]? with
      | none => rfl
      | some ob => cases ob <;> rfl
    | _ => rfl
  | _ => rfl
end
/-! ### x *= e -/
section
variable {X : Cx} {W : WX}
def ipM : TIp := fun x y H Q => ∃ i j, x = .int i ∧ y = .int j ∧ (CMul i j ∨ CMulW i j) ∧ Q (.int (i * j)) H
theorem ip_mulM : PIp X .Mult ipM := by
  intro pins s σ H x y v u Q I r1 r2 h
  obtain ⟨i, j, e1, e2, c, q⟩ := h
  subst e1; subst e2
  obtain ⟨t, rfl⟩ := r1
  obtain ⟨t', rfl⟩ := r2
  refine imul_int ⟨.int _, H, I.tok _, ⟨_, rfl⟩, q⟩ ?_
  rcases c with c | c
  · exact c.ok
  · exact c.ok
def opMulI : D → D → OH → Res D
  | .int i, .int j, h => if mulOk i j then .ok (.int (i * j)) h else .bad
  | _, _, _ => .bad
theorem ds_augM (i : Nat) {x : Str} {a : Expr} {f : SE} {pos pos' : Pos} (hN : X.N.Nodup) (ha : DE X W a f) (hi : X.N[i]? = some x := by rfl) (hx : Loc X.env.scope x := by first | exact Or.inl rfl | exact Or.inr rfl)
    (hf : X.fn x = true ∨ X.env.scope.names.lookup x = some .local := by first | exact .inl rfl | exact .inr rfl | assumption) : DS X W (.AugAssign (.Name x pos') .Mult a pos) (sAug i opMulI f) := PS.of (ps_aug hN hi hx ha ip_mulM hf) fun Dn σ H => by
  rintro ⟨P, F, m, e, h, S, E, fin⟩
  unfold sAug at fin
  cases q : e[i]? with
  | none => rw [q] at fin; exact fin.elim
  | some o =>
    cases o with
    | none => rw [q] at fin; exact fin.elim
    | some d =>
      rw [q] at fin
      obtain ⟨v, e1, r⟩ := E.at_ i d q
      refine ⟨v, e1, st_seq S E fin fun F1 m1 h1 H1 w d2 x S1 E1 r2 fin1 => ?_⟩
      cases r with
      | int n =>
        cases r2 with
        | int n2 =>
          simp only [opMulI] at fin1
          by_cases hm : mulOk n n2 = true
          · rw [if_pos hm] at fin1
            exact ⟨n, n2, rfl, rfl, mulOk_c hm, fin1 _ F1 m1 H1 .refl S1 (E1.set i (.int _))⟩
          · rw [if_neg hm] at fin1
            exact fin1.elim
        | _ => exact fin1.elim
      | _ => exact fin1.elim
end
section
variable {PD : D → OH → Prop}
@[simp] theorem W_mulII (i j : Int) (h : OH) : (opMulI (.int i) (.int j) h).W PD = if mulOk i j then PD (.int (i * j)) h else False := by
  simp only [opMulI]
  split <;> rfl
end
/-! ### a call of a name that holds one of some defs -/
end HR
set_option Elab.async false
set_option linter.all false
set_option maxRecDepth 20000
set_option maxHeartbeats 1000000
/-! an own dict that is not changed any more: walked over by keys, d[k], list(d.values()) -/
set_option Elab.async false
set_option linter.all false
set_option maxRecDepth 20000
set_option maxHeartbeats 1000000
/-! an own instance is frozen -/
namespace HR
open PySem L2
def frzI (f : SE) : SE := fun e h => (f e h).bind fun d h1 => match d with
  | .ref i => (match h1[i]? with
    | some (.ins C fs) => .ok (.obj C fs) (h1.set i .dead)
    | _ => .bad)
  | _ => .bad
section
variable {PD : D → OH → Prop}
@[simp] theorem W_frzI (f : SE) (e : Env') (h : OH) : (frzI f e h).W PD = (f e h).W fun d h1 => match d with
  | .ref i => (match h1[i]? with
    | some (.ins C fs) => PD (.obj C fs) (h1.set i .dead)
    | _ => False)
  | _ => False := by
  unfold frzI; rw [W_bind]; congr; funext d h1
  cases d with
  | ref i => dsimp only; split <;> simp_all
  | _ => rfl
end
end HR
set_option Elab.async false
set_option linter.all false
/-! the plain functions -/
namespace HR
open PySem L2
namespace Sh
/-- is_integer -/
def is_integer_b : SS := (sSeq (sIfS (sOr (sNot (sTest (sIsi ["int"] (sVar 0)))) (sTest (sIsi ["bool"] (sVar 0)))) (sRet (sC (.bl false))) sNext) (sRet (sAndV (sBin opGe (sVar 0) (sVar 1)) (sOrV (sBin (opIs false) (sVar 2) (sC .non)) (sBin opLe (sVar 0) (sVar 2))))))
def is_integer : FN := fnOf 3 is_integer_b
/-- is_sequence -/
def is_sequence_b : SS := (sRet (sIsi ["list", "tuple"] (sVar 0)))
def is_sequence : FN := fnOf 1 is_sequence_b
/-- is_name -/
def is_name_b : SS := (sRet (sAndV (sIsi ["str"] (sVar 0)) (sAndV (sChain opLe opLe (sC (.int 1)) (sCall bLen (sCons (sVar 0) sNil)) (sC (.int (8)))) (sCall (b1 opAll) (sCons (sLc false (sIt (sVar 0)) (gN 1) sYes (sBin (opInS false) (sVar 1) (sC (.str "abcdefghijklmnopqrstuvwxyz"))) [1]) sNil)))))
def is_name : FN := fnOf 2 is_name_b
/-- is_talk -/
def is_talk_b : SS := (sRet (sAndV (sCall (withD [] (pureF Sh.is_sequence)) (sCons (sVar 0) sNil)) (sAndV (sBin (opEq false) (sCall bLen (sCons (sVar 0) sNil)) (sC (.int 2))) (sCall (b1 opAll) (sCons (sLc false (sIt (sVar 0)) (gN 1) sYes (sCall (withD [] (pureF Sh.is_integer)) (sCons (sVar 1) (sCons (sC (.int 1)) (sCons (sC (.int (1000000000000000000000000000000))) sNil)))) [1]) sNil)))))
def is_talk : FN := fnOf 2 is_talk_b
/-- are_talks -/
def are_talks_b : SS := (sRet (sAndV (sCall (withD [] (pureF Sh.is_sequence)) (sCons (sVar 0) sNil)) (sAndV (sChain opLe opLe (sVar 1) (sCall bLen (sCons (sVar 0) sNil)) (sC (.int (8)))) (sCall (b1 opAll) (sCons (sLc false (sIt (sVar 0)) (gN 2) sYes (sCall (withD [] (pureF Sh.is_talk)) (sCons (sVar 2) sNil)) [2]) sNil)))))
def are_talks : FN := fnOf 3 are_talks_b
/-- is_talker -/
def is_talker_b : SS := (sSeq (sIfS (sOr (sNot (sTest (sCall (withD [] (pureF Sh.is_sequence)) (sCons (sVar 0) sNil)))) (sOr (sTest (sBin (opEq true) (sCall bLen (sCons (sVar 0) sNil)) (sC (.int 4)))) (sNot (sTest (sCall (withD [] (pureF Sh.is_name)) (sCons (sBin opIx (sVar 0) (sC (.int 0))) sNil)))))) (sRet (sC (.bl false))) sNext) (sRet (sAndV (sCall (withD [] (pureF Sh.is_integer)) (sCons (sBin opIx (sVar 0) (sC (.int 1))) (sCons (sC (.int 1)) (sCons (sC (.int (10))) sNil)))) (sAndV (sCall (withD [] (pureF Sh.are_talks)) (sCons (sBin opIx (sVar 0) (sC (.int 2))) (sCons (sC (.int 0)) sNil))) (sCall (withD [] (pureF Sh.are_talks)) (sCons (sBin opIx (sVar 0) (sC (.int 3))) (sCons (sC (.int 1)) sNil)))))))
def is_talker : FN := fnOf 1 is_talker_b
/-- is_hall -/
def is_hall_b : SS := (sSeq (sIfS (sOr (sNot (sTest (sCall (withD [] (pureF Sh.is_sequence)) (sCons (sVar 0) sNil)))) (sOr (sTest (sBin opGt (sCall bLen (sCons (sVar 0) sNil)) (sC (.int (10))))) (sNot (sTest (sCall (b1 opAll) (sCons (sLc false (sIt (sVar 0)) (gN 1) sYes (sCall (withD [] (pureF Sh.is_talker)) (sCons (sVar 1) sNil)) [1]) sNil)))))) (sRet (sC (.bl false))) sNext) (sRet (sBin (opEq false) (sLenSet (sLc false (sIt (sVar 0)) (gN 1) sYes (sBin opIx (sVar 1) (sC (.int 0))) [1])) (sCall bLen (sCons (sVar 0) sNil)))))
def is_hall : FN := fnOf 2 is_hall_b
/-- _law_draw -/
def l_draw_b : SS := (sSeq (sIfS (sTest (sBin opGt (sBin opIx (sVar 0) (sC (.int 0))) (sC (.int 0)))) (sSeq (sSet 2 (sBin opMod (sBin opIx (sVar 0) (sC (.int 0))) (sVar 1))) (sSeq (sIxS (sVar 0) (sC (.int 0)) (sBin opDiv (sBin opIx (sVar 0) (sC (.int 0))) (sVar 1))) (sRet (sVar 2)))) sNext) (sSeq (sIxS (sVar 0) (sC (.int 2)) (sBin opAdd (sBin opIx (sVar 0) (sC (.int 2))) (sC (.int 1)))) (sSeq (sSet 3 (sBin opMod (sBin opMul (sBin opIx (sVar 0) (sC (.int 1))) (sBin opIx (sVar 0) (sC (.int 1)))) (sC (.int 2305843009213693951)))) (sSeq (sIxS (sVar 0) (sC (.int 1)) (sBin opMod (sBin opAdd (sBin opAdd (sVar 3) (sBin opMul (sBin opMul (sC (.int 7919)) (sBin opIx (sVar 0) (sC (.int 2)))) (sBin opIx (sVar 0) (sC (.int 1))))) (sC (.int 104729))) (sC (.int 2305843009213693951)))) (sRet (sBin opMod (sBin opDiv (sBin opIx (sVar 0) (sC (.int 1))) (sC (.int 65537))) (sVar 1)))))))
def l_draw : FN := fnOf 4 l_draw_b
/-- _law_dressed -/
def l_dressed_b (rec_ : FN) : SS := (sSeq (sIfS (sNot (sTest (sIsi ["list", "tuple"] (sVar 1)))) (sRet (sVar 1)) sNext) (sSeq (sSet 2 (sLc false (sIt (sVar 1)) (gN 3) sYes (sCall (withD [] rec_) (sCons (sVar 0) (sCons (sVar 3) sNil))) [3])) (sRet (sIf (sTest (sBin (opEq false) (sCall (withD [] Sh.l_draw) (sCons (sVar 0) (sCons (sC (.int 2)) sNil))) (sC (.int 0)))) (sVar 2) (sCall (b1 opTuple) (sCons (sVar 2) sNil))))))
def l_dressed_n : Nat → FN
  | 0 => fun _ _ => .bad
  | j + 1 => fnOf 4 (l_dressed_b (l_dressed_n j))
/-- running_sums -/
def running_sums_b : SS := (sSeq (sSet 1 (sLstO (sCons (sC (.int 0)) sNil))) (sSeq (sFor (sIt (sVar 0)) (gN 2) (sExpr (sMtO gAppend (sVar 1) (sCons (sBin opAdd (sBin opIx (sVar 1) (sUn opNeg (sC (.int 1)))) (sVar 2)) sNil)))) (sRet (frzE (sVar 1)))))
def running_sums : FN := fnOf 3 running_sums_b
/-- Schedule.__init__ -/
def Schedule_init_b : SS := (sSeq (sFldS "Schedule" "prefix" (sVar 0) (sLc false (sIt (sVar 1)) (gN 3) sYes (sCall (b1 opTuple) (sCons (sVar 3) sNil)) [3])) (sSeq (sFldS "Schedule" "cycle" (sVar 0) (sLc false (sIt (sVar 2)) (gN 3) sYes (sCall (b1 opTuple) (sCons (sVar 3) sNil)) [3])) (sSeq (sFldS "Schedule" "prefix_silences" (sVar 0) (sCall (withD [] (pureF Sh.running_sums)) (sCons (sLc false (sIt (sUn (opFld "prefix") (sVar 0))) (gN 3) sYes (sBin opIx (sVar 3) (sC (.int 0))) [3]) sNil))) (sSeq (sFldS "Schedule" "prefix_lengths" (sVar 0) (sCall (withD [] (pureF Sh.running_sums)) (sCons (sLc false (sIt (sUn (opFld "prefix") (sVar 0))) (gN 3) sYes (sBin opIx (sVar 3) (sC (.int 1))) [3]) sNil))) (sSeq (sFldS "Schedule" "cycle_silences" (sVar 0) (sCall (withD [] (pureF Sh.running_sums)) (sCons (sLc false (sIt (sUn (opFld "cycle") (sVar 0))) (gN 3) sYes (sBin opIx (sVar 3) (sC (.int 0))) [3]) sNil))) (sFldS "Schedule" "cycle_lengths" (sVar 0) (sCall (withD [] (pureF Sh.running_sums)) (sCons (sLc false (sIt (sUn (opFld "cycle") (sVar 0))) (gN 3) sYes (sBin opIx (sVar 3) (sC (.int 1))) [3]) sNil))))))))
def Schedule_init : FN := fnOf 4 Schedule_init_b
/-- Schedule.nth_talk -/
def Schedule_nth_talk_b : SS := (sSeq (sIfS (sTest (sBin opLt (sVar 1) (sCall bLen (sCons (sUn (opFld "prefix") (sVar 0)) sNil)))) (sRet (sBin opIx (sUn (opFld "prefix") (sVar 0)) (sVar 1))) sNext) (sRet (sBin opIx (sUn (opFld "cycle") (sVar 0)) (sBin opMod (sBin opSub (sVar 1) (sCall bLen (sCons (sUn (opFld "prefix") (sVar 0)) sNil))) (sCall bLen (sCons (sUn (opFld "cycle") (sVar 0)) sNil))))))
def Schedule_nth_talk : FN := fnOf 2 Schedule_nth_talk_b
/-- Schedule.sum_of_first -/
def Schedule_sum_of_first_b : SS := (sSeq (sIfS (sTest (sBin opLe (sVar 1) (sCall bLen (sCons (sUn (opFld "prefix") (sVar 0)) sNil)))) (sRet (sBin opIx (sVar 2) (sVar 1))) sNext) (sSeq (sAsg (gT 2 (gCs (gN 4) (gCs (gN 5) gNl))) (sCall bDivmod (sCons (sBin opSub (sVar 1) (sCall bLen (sCons (sUn (opFld "prefix") (sVar 0)) sNil))) (sCons (sCall bLen (sCons (sUn (opFld "cycle") (sVar 0)) sNil)) sNil)))) (sRet (sBin opAdd (sBin opAdd (sBin opIx (sVar 2) (sUn opNeg (sC (.int 1)))) (sBin opMul (sVar 4) (sBin opIx (sVar 3) (sUn opNeg (sC (.int 1)))))) (sBin opIx (sVar 3) (sVar 5))))))
def Schedule_sum_of_first : FN := fnOf 6 Schedule_sum_of_first_b
/-- Schedule.nth_ready -/
def Schedule_nth_ready_b : SS := (sRet (sMeth "Schedule" "sum_of_first" (pureF Sh.Schedule_sum_of_first) (sVar 0) (sCons (sBin opAdd (sVar 1) (sC (.int 1))) (sCons (sUn (opFld "prefix_silences") (sVar 0)) (sCons (sUn (opFld "cycle_silences") (sVar 0)) sNil)))))
def Schedule_nth_ready : FN := fnOf 2 Schedule_nth_ready_b
/-- Member.__init__ -/
def Member_init_b : SS := (sSeq (sFldS "Member" "name" (sVar 0) (sBin opIx (sVar 1) (sC (.int 0)))) (sSeq (sFldS "Member" "rank" (sVar 0) (sBin opIx (sVar 1) (sC (.int 1)))) (sFldS "Member" "schedule" (sVar 0) (sMakeP "Schedule" Sh.Schedule_init (sCons (sBin opIx (sVar 1) (sC (.int 2))) (sCons (sBin opIx (sVar 1) (sC (.int 3))) sNil))))))
def Member_init : FN := fnOf 2 Member_init_b
/-- checked_hall -/
def checked_hall_b : SS := (sSeq (sIfS (sNot (sTest (sCall (withD [] (pureF Sh.is_hall)) (sCons (sVar 0) sNil)))) (sRaise "InvalidHall") sNext) (sRet (sLc false (sIt (sVar 0)) (gN 1) sYes (sMakeP "Member" Sh.Member_init (sCons (sVar 1) sNil)) [1])))
def checked_hall : FN := fnOf 2 checked_hall_b
/-- member_of -/
def member_of_b : SS := (sSeq (sSet 2 (sLc false (sIt (sVar 0)) (gN 3) (sAnd (sTest (sIsi ["str"] (sVar 1))) (sTest (sBin (opEq false) (sUn (opFld "name") (sVar 3)) (sVar 1)))) (sVar 3) [3])) (sSeq (sIfS (sTest (sBin (opNil false) (sVar 2) (sLst sNil))) (sRaise "UnknownTalker") sNext) (sRet (sBin opIx (sVar 2) (sC (.int 0))))))
def member_of : FN := fnOf 4 member_of_b
/-- check_number -/
def check_number_b : SS := (sIfS (sNot (sTest (sCall (withD [.non] (pureF Sh.is_integer)) (sCons (sVar 0) (sCons (sC (.int 0)) sNil))))) (sRaise "InvalidNumber") sNext)
def check_number : FN := fnOf 1 check_number_b
/-- Schedule.count_ready -/
def Schedule_count_ready_b : SS := (sSeq (sIfS (sTest (sBin opLt (sVar 1) (sBin opIx (sUn (opFld "prefix_silences") (sVar 0)) (sUn opNeg (sC (.int 1)))))) (sRet (sCall bLen (sCons (sLc false (sIt (sCut false (sUn (opFld "prefix_silences") (sVar 0)) (sPart (sC (.int 1))) sNoPart)) (gN 2) (sTest (sBin opLe (sVar 2) (sVar 1))) (sVar 2) [2]) sNil))) sNext) (sSeq (sAsg (gT 2 (gCs (gN 3) (gCs (gN 4) gNl))) (sCall bDivmod (sCons (sBin opSub (sVar 1) (sBin opIx (sUn (opFld "prefix_silences") (sVar 0)) (sUn opNeg (sC (.int 1))))) (sCons (sBin opIx (sUn (opFld "cycle_silences") (sVar 0)) (sUn opNeg (sC (.int 1)))) sNil)))) (sSeq (sSet 5 (sBin opAdd (sCall bLen (sCons (sUn (opFld "prefix") (sVar 0)) sNil)) (sBin opMul (sVar 3) (sCall bLen (sCons (sUn (opFld "cycle") (sVar 0)) sNil))))) (sRet (sBin opAdd (sVar 5) (sCall bLen (sCons (sLc false (sIt (sCut false (sUn (opFld "cycle_silences") (sVar 0)) (sPart (sC (.int 1))) sNoPart)) (gN 2) (sTest (sBin opLe (sVar 2) (sVar 4))) (sVar 2) [2]) sNil)))))))
def Schedule_count_ready : FN := fnOf 6 Schedule_count_ready_b
/-- Schedule.length_ready -/
def Schedule_length_ready_b : SS := (sRet (sMeth "Schedule" "sum_of_first" (pureF Sh.Schedule_sum_of_first) (sVar 0) (sCons (sMeth "Schedule" "count_ready" (pureF Sh.Schedule_count_ready) (sVar 0) (sCons (sVar 1) sNil)) (sCons (sUn (opFld "prefix_lengths") (sVar 0)) (sCons (sUn (opFld "cycle_lengths") (sVar 0)) sNil)))))
def Schedule_length_ready : FN := fnOf 2 Schedule_length_ready_b
/-- check_tick -/
def check_tick_b : SS := (sIfS (sNot (sTest (sCall (withD [.non] (pureF Sh.is_integer)) (sCons (sVar 0) (sCons (sC (.int 0)) sNil))))) (sRaise "InvalidTick") sNext)
def check_tick : FN := fnOf 1 check_tick_b
/-- rank_length -/
def rank_length_b : SS := (sRet (sCall (b1 opSum) (sCons (sLc false (sIt (sVar 0)) (gN 3) (sTest (sBin (opEq false) (sUn (opFld "rank") (sVar 3)) (sVar 1))) (sMeth "Schedule" "length_ready" (pureF Sh.Schedule_length_ready) (sUn (opFld "schedule") (sVar 3)) (sCons (sVar 2) sNil)) [3]) sNil)))
def rank_length : FN := fnOf 4 rank_length_b
/-- left_index -/
def left_index_b : SS := (sRet (sBin opAdd (sVar 2) (sCall (withD [] (pureF Sh.rank_length)) (sCons (sVar 0) (sCons (sVar 1) (sCons (sVar 2) sNil))))))
def left_index : FN := fnOf 3 left_index_b
/-- quiet_among -/
def quiet_among_b : SS := (sSeq (sPar 3 4 (sCons (sC (.int 0)) (sCons (sVar 2) sNil))) (sSeq (sWhile (sTest (sBin opLt (sVar 3) (sVar 4))) (sSeq (sSet 5 (sBin opDiv (sBin opAdd (sVar 3) (sVar 4)) (sC (.int 2)))) (sIfS (sTest (sBin opLt (sCall (withD [] (pureF Sh.left_index)) (sCons (sVar 0) (sCons (sVar 1) (sCons (sVar 5) sNil)))) (sVar 2))) (sSet 3 (sBin opAdd (sVar 5) (sC (.int 1)))) (sSet 4 (sVar 5))))) (sRet (sVar 3))))
def quiet_among : FN := fnOf 6 quiet_among_b
/-- left_among -/
def left_among_b : SS := (sSeq (sSet 3 (sVar 2)) (sSeq (sFor (sRng2 (sC (.int 1)) (sVar 1)) (gN 4) (sSet 3 (sCall (withD [] (pureF Sh.quiet_among)) (sCons (sVar 0) (sCons (sVar 4) (sCons (sVar 3) sNil)))))) (sRet (sVar 3))))
def left_among : FN := fnOf 5 left_among_b
/-- tick_of -/
def tick_of_b : SS := (sSeq (sSet 3 (sVar 2)) (sSeq (sFor (sRngN (sCons (sBin opSub (sVar 1) (sC (.int 1))) (sCons (sC (.int 0)) (sCons (sUn opNeg (sC (.int 1))) sNil)))) (gN 4) (sSet 3 (sCall (withD [] (pureF Sh.left_index)) (sCons (sVar 0) (sCons (sVar 4) (sCons (sVar 3) sNil)))))) (sRet (sVar 3))))
def tick_of : FN := fnOf 5 tick_of_b
/-- descent_by -/
def descent_by_b : SS := (sSeq (sSet 2 (sLstO sNil)) (sSeq (sSet 3 (sVar 1)) (sSeq (sFor (sRng2 (sC (.int 1)) (sBin opAdd (sC (.int (10))) (sC (.int 1)))) (gN 4) (sSeq (sSet 5 (sCall (withD [] (pureF Sh.quiet_among)) (sCons (sVar 0) (sCons (sVar 4) (sCons (sVar 3) sNil))))) (sSeq (sExpr (sMtO gAppend (sVar 2) (sCons (sTup (sCons (sVar 4) (sCons (sVar 3) (sCons (sVar 5) sNil)))) sNil))) (sSeq (sIfS (sTest (sBin (opEq true) (sVar 3) (sCall (withD [] (pureF Sh.left_index)) (sCons (sVar 0) (sCons (sVar 4) (sCons (sVar 5) sNil)))))) sBreak sNext) (sSet 3 (sVar 5)))))) (sRet (frzE (sVar 2))))))
def descent_by : FN := fnOf 6 descent_by_b
/-- offset_in_run -/
def offset_in_run_b : SS := (sRet (sBin opSub (sBin opSub (sVar 2) (sVar 3)) (sCall (withD [] (pureF Sh.rank_length)) (sCons (sVar 0) (sCons (sVar 1) (sCons (sBin opSub (sVar 3) (sC (.int 1))) sNil))))))
def offset_in_run : FN := fnOf 4 offset_in_run_b
/-- run_of -/
def run_of_b : SS := (sSeq (sSet 3 (sLstO sNil)) (sSeq (sFor (sIt (sVar 0)) (gN 4) (sSeq (sSet 5 (sMeth "Schedule" "count_ready" (pureF Sh.Schedule_count_ready) (sUn (opFld "schedule") (sVar 4)) (sCons (sVar 2) sNil))) (sIfS (sAnd (sTest (sBin (opEq false) (sUn (opFld "rank") (sVar 4)) (sVar 1))) (sAnd (sTest (sBin opGt (sVar 5) (sC (.int 0)))) (sTest (sBin (opEq false) (sMeth "Schedule" "nth_ready" (pureF Sh.Schedule_nth_ready) (sUn (opFld "schedule") (sVar 4)) (sCons (sBin opSub (sVar 5) (sC (.int 1))) sNil)) (sVar 2))))) (sExpr (sMtO gAppend (sVar 3) (sCons (sTup (sCons (sVar 4) (sCons (sBin opSub (sVar 5) (sC (.int 1))) (sCons (sBin opIx (sMeth "Schedule" "nth_talk" (pureF Sh.Schedule_nth_talk) (sUn (opFld "schedule") (sVar 4)) (sCons (sBin opSub (sVar 5) (sC (.int 1))) sNil)) (sC (.int 1))) sNil)))) sNil))) sNext))) (sRet (frzE (sVar 3)))))
def run_of : FN := fnOf 6 run_of_b
/-- talk_by -/
def talk_by_b : SS := (sSeq (sAsg (gT 3 (gCs (gN 2) (gCs (gN 3) (gCs (gN 4) gNl)))) (sBin opIx (sCall (withD [] (pureF Sh.descent_by)) (sCons (sVar 0) (sCons (sVar 1) sNil))) (sUn opNeg (sC (.int 1))))) (sSeq (sIfS (sTest (sBin (opEq false) (sVar 3) (sCall (withD [] (pureF Sh.left_index)) (sCons (sVar 0) (sCons (sVar 2) (sCons (sVar 4) sNil)))))) (sRet (sC .non)) sNext) (sSeq (sSet 5 (sCall (withD [] (pureF Sh.offset_in_run)) (sCons (sVar 0) (sCons (sVar 2) (sCons (sVar 3) (sCons (sVar 4) sNil)))))) (sSeq (sFor (sIt (sCall (withD [] (pureF Sh.run_of)) (sCons (sVar 0) (sCons (sVar 2) (sCons (sVar 4) sNil))))) (gT 3 (gCs (gN 6) (gCs (gN 7) (gCs (gN 8) gNl)))) (sSeq (sIfS (sTest (sBin opLt (sVar 5) (sVar 8))) (sRet (sTup (sCons (sUn (opFld "name") (sVar 6)) (sCons (sVar 7) (sCons (sVar 5) sNil))))) sNext) (sAug 5 (opI2 (fun i j => .int (i - j)) fun _ _ => true) (sVar 8)))) (sRet (sC .non))))))
def talk_by : FN := fnOf 9 talk_by_b
/-- talk_at -/
def talk_at_b : SS := (sSeq (sSet 2 (sCall (withD [] (pureF Sh.checked_hall)) (sCons (sVar 0) sNil))) (sSeq (sExpr (sCall (withD [] (pureF Sh.check_tick)) (sCons (sVar 1) sNil))) (sRet (sCall (withD [] (pureF Sh.talk_by)) (sCons (sVar 2) (sCons (sVar 1) sNil))))))
def talk_at : FN := fnOf 3 talk_at_b
/-- speaker_at -/
def speaker_at_b : SS := (sSeq (sSet 2 (sCall (withD [] (pureF Sh.talk_at)) (sCons (sVar 0) (sCons (sVar 1) sNil)))) (sRet (sIf (sTest (sBin (opIs false) (sVar 2) (sC .non))) (sC .non) (sBin opIx (sVar 2) (sC (.int 0))))))
def speaker_at : FN := fnOf 3 speaker_at_b
/-- member_state -/
def member_state_b : SS := (sSeq (sSet 4 (sCall (withD [] (pureF Sh.left_among)) (sCons (sVar 0) (sCons (sUn (opFld "rank") (sVar 1)) (sCons (sVar 2) sNil))))) (sSeq (sSet 5 (sCall (withD [] (pureF Sh.quiet_among)) (sCons (sVar 0) (sCons (sUn (opFld "rank") (sVar 1)) (sCons (sVar 4) sNil))))) (sSeq (sSet 6 (sCall (withD [] (pureF Sh.offset_in_run)) (sCons (sVar 0) (sCons (sUn (opFld "rank") (sVar 1)) (sCons (sVar 4) (sCons (sVar 5) sNil)))))) (sSeq (sFor (sIt (sCall (withD [] (pureF Sh.run_of)) (sCons (sVar 0) (sCons (sUn (opFld "rank") (sVar 1)) (sCons (sVar 5) sNil))))) (gT 3 (gCs (gN 7) (gCs (gN 8) (gCs (gN 9) gNl)))) (sSeq (sIfS (sAnd (sTest (sBin (opEq false) (sUn (opFld "name") (sVar 7)) (sUn (opFld "name") (sVar 1)))) (sTest (sBin opLt (sVar 6) (sVar 9)))) (sSeq (sSet 10 (sIf (sTest (sBin (opEq false) (sVar 3) (sUn (opFld "name") (sVar 1)))) (sC (.str "speaking")) (sC (.str "ready")))) (sRet (sTup (sCons (sVar 10) (sCons (sVar 8) (sCons (sBin opSub (sVar 9) (sCall bMax (sCons (sVar 6) (sCons (sC (.int 0)) sNil)))) sNil)))))) sNext) (sAug 6 (opI2 (fun i j => .int (i - j)) fun _ _ => true) (sVar 9)))) (sSeq (sSet 11 (sMeth "Schedule" "count_ready" (pureF Sh.Schedule_count_ready) (sUn (opFld "schedule") (sVar 1)) (sCons (sVar 5) sNil))) (sRet (sTup (sCons (sC (.str "silent")) (sCons (sVar 11) (sCons (sBin opSub (sMeth "Schedule" "nth_ready" (pureF Sh.Schedule_nth_ready) (sUn (opFld "schedule") (sVar 1)) (sCons (sVar 11) sNil)) (sVar 5)) sNil))))))))))
def member_state : FN := fnOf 12 member_state_b
/-- is_line -/
def is_line_b : SS := (sRet (sAndV (sCall (withD [] (pureF Sh.is_sequence)) (sCons (sVar 0) sNil)) (sAndV (sBin (opEq false) (sCall bLen (sCons (sVar 0) sNil)) (sC (.int 3))) (sCall (b1 opAll) (sCons (sLc false (sIt (sVar 0)) (gN 1) sYes (sCall (withD [.non] (pureF Sh.is_integer)) (sCons (sVar 1) (sCons (sC (.int 0)) sNil))) [1]) sNil)))))
def is_line : FN := fnOf 2 is_line_b
/-- state_at -/
def state_at_1_b : SS := (sSeq (sSet 2 (sCall (withD [] (pureF Sh.checked_hall)) (sCons (sVar 0) sNil))) (sSeq (sExpr (sCall (withD [] (pureF Sh.check_tick)) (sCons (sVar 1) sNil))) (sSeq (sSet 3 (sCall (withD [] (pureF Sh.talk_by)) (sCons (sVar 2) (sCons (sVar 1) sNil)))) (sSeq (sSet 4 (sIf (sTest (sBin (opIs false) (sVar 3) (sC .non))) (sC .non) (sBin opIx (sVar 3) (sC (.int 0))))) (sRet (sLc false (sIt (sVar 2)) (gN 5) sYes (sCall (withD [] (pureF Sh.member_state)) (sCons (sVar 2) (sCons (sVar 5) (sCons (sVar 1) (sCons (sVar 4) sNil))))) [5]))))))
def state_at_1 : FN := fnOf 6 state_at_1_b
/-- descent_of -/
def descent_of_1_b : SS := (sSeq (sSet 2 (sCall (withD [] (pureF Sh.checked_hall)) (sCons (sVar 0) sNil))) (sSeq (sExpr (sCall (withD [] (pureF Sh.check_tick)) (sCons (sVar 1) sNil))) (sRet (sCall (withD [] (pureF Sh.descent_by)) (sCons (sVar 2) (sCons (sVar 1) sNil))))))
def descent_of_1 : FN := fnOf 3 descent_of_1_b
/-- is_descent -/
def is_descent_1_b : SS := (sSeq (sSet 3 (sCall (withD [] (pureF Sh.descent_of_1)) (sCons (sVar 0) (sCons (sVar 1) sNil)))) (sSeq (sIfS (sOr (sNot (sTest (sCall (withD [] (pureF Sh.is_sequence)) (sCons (sVar 2) sNil)))) (sNot (sTest (sCall (b1 opAll) (sCons (sLc false (sIt (sVar 2)) (gN 4) sYes (sCall (withD [] (pureF Sh.is_line)) (sCons (sVar 4) sNil)) [4]) sNil))))) (sRet (sC (.bl false))) sNext) (sRet (sBin (opEq false) (sLc false (sIt (sVar 2)) (gN 4) sYes (sCall (b1 opTuple) (sCons (sVar 4) sNil)) [4]) (sVar 3)))))
def is_descent_1 : FN := fnOf 5 is_descent_1_b
/-- progress_of -/
def progress_of_b : SS := (sSeq (sSet 3 (sCall (withD [] (pureF Sh.left_among)) (sCons (sVar 0) (sCons (sUn (opFld "rank") (sVar 1)) (sCons (sVar 2) sNil))))) (sSeq (sSet 4 (sCall (withD [] (pureF Sh.quiet_among)) (sCons (sVar 0) (sCons (sUn (opFld "rank") (sVar 1)) (sCons (sVar 3) sNil))))) (sSeq (sSet 5 (sMeth "Schedule" "count_ready" (pureF Sh.Schedule_count_ready) (sUn (opFld "schedule") (sVar 1)) (sCons (sBin opSub (sVar 4) (sC (.int 1))) sNil))) (sSeq (sPar 6 7 (sCons (sVar 5) (sCons (sMeth "Schedule" "length_ready" (pureF Sh.Schedule_length_ready) (sUn (opFld "schedule") (sVar 1)) (sCons (sBin opSub (sVar 4) (sC (.int 1))) sNil)) sNil))) (sSeq (sSet 8 (sCall (withD [] (pureF Sh.offset_in_run)) (sCons (sVar 0) (sCons (sUn (opFld "rank") (sVar 1)) (sCons (sVar 3) (sCons (sVar 4) sNil)))))) (sSeq (sFor (sIt (sCall (withD [] (pureF Sh.run_of)) (sCons (sVar 0) (sCons (sUn (opFld "rank") (sVar 1)) (sCons (sVar 4) sNil))))) (gT 3 (gCs (gN 9) (gCs (gN 10) (gCs (gN 11) gNl)))) (sSeq (sIfS (sTest (sBin (opEq false) (sUn (opFld "name") (sVar 9)) (sUn (opFld "name") (sVar 1)))) (sSeq (sAug 6 (opI2 (fun i j => .int (i + j)) fun _ _ => true) (sCall (b1 opInt) (sCons (sBin opGt (sVar 8) (sC (.int 0))) sNil))) (sSeq (sAug 5 (opI2 (fun i j => .int (i + j)) fun _ _ => true) (sCall (b1 opInt) (sCons (sBin opGe (sVar 8) (sVar 11)) sNil))) (sAug 7 (opI2 (fun i j => .int (i + j)) fun _ _ => true) (sCall bMin (sCons (sCall bMax (sCons (sVar 8) (sCons (sC (.int 0)) sNil))) (sCons (sVar 11) sNil)))))) sNext) (sAug 8 (opI2 (fun i j => .int (i - j)) fun _ _ => true) (sVar 11)))) (sRet (sTup (sCons (sVar 6) (sCons (sVar 5) (sCons (sVar 7) sNil)))))))))))
def progress_of : FN := fnOf 12 progress_of_b
/-- progress_before -/
def progress_before_b : SS := (sSeq (sSet 3 (sCall (withD [] (pureF Sh.checked_hall)) (sCons (sVar 0) sNil))) (sSeq (sSet 4 (sCall (withD [] (pureF Sh.member_of)) (sCons (sVar 3) (sCons (sVar 1) sNil)))) (sSeq (sExpr (sCall (withD [] (pureF Sh.check_tick)) (sCons (sVar 2) sNil))) (sRet (sCall (withD [] (pureF Sh.progress_of)) (sCons (sVar 3) (sCons (sVar 4) (sCons (sVar 2) sNil))))))))
def progress_before : FN := fnOf 5 progress_before_b
/-- ticks_spoken -/
def ticks_spoken_b : SS := (sRet (sBin opIx (sCall (withD [] (pureF Sh.progress_before)) (sCons (sVar 0) (sCons (sVar 1) (sCons (sVar 2) sNil)))) (sC (.int 2))))
def ticks_spoken : FN := fnOf 3 ticks_spoken_b
/-- talks_before -/
def talks_before_b : SS := (sRet (sCut false (sCall (withD [] (pureF Sh.progress_before)) (sCons (sVar 0) (sCons (sVar 1) (sCons (sVar 2) sNil)))) sNoPart (sPart (sC (.int 2)))))
def talks_before : FN := fnOf 3 talks_before_b
/-- _law_draw -/
def l_draw_1_b : SS := (sSeq (sIfS (sTest (sBin (opNil true) (sBin opIx (sVar 0) (sC (.int 0))) (sLst sNil))) (sSeq (sSet 2 (sBin opIx (sBin opIx (sVar 0) (sC (.int 0))) (sC (.int 0)))) (sSeq (sIxS (sVar 0) (sC (.int 0)) (sBin opAdd (sBin opMul (sLst (sCons (sBin opDiv (sVar 2) (sVar 1)) sNil)) (sCall (b1 opInt) (sCons (sBin opGe (sVar 2) (sVar 1)) sNil))) (sCut false (sBin opIx (sVar 0) (sC (.int 0))) (sPart (sC (.int 1))) sNoPart))) (sRet (sBin opMod (sVar 2) (sVar 1))))) sNext) (sSeq (sIxS (sVar 0) (sC (.int 2)) (sBin opAdd (sBin opIx (sVar 0) (sC (.int 2))) (sC (.int 1)))) (sSeq (sSet 3 (sBin opIx (sBin opIx (sVar 0) (sC (.int 1))) (sBin opMod (sBin opIx (sVar 0) (sC (.int 2))) (sCall bLen (sCons (sBin opIx (sVar 0) (sC (.int 1))) sNil))))) (sSeq (sSet 4 (sBin opAdd (sBin opAdd (sBin opMul (sBin opIx (sVar 0) (sC (.int 3))) (sBin opIx (sVar 0) (sC (.int 3)))) (sBin opMul (sBin opAdd (sVar 3) (sC (.int 5))) (sC (.int 92821)))) (sBin opMul (sBin opIx (sVar 0) (sC (.int 2))) (sC (.int 1000039))))) (sSeq (sIxS (sVar 0) (sC (.int 3)) (sBin opMod (sVar 4) (sBin opSub (sBin opMul (sBin opPow (sC (.int 2)) (sC (.int 64))) (sBin opPow (sC (.int 2)) (sC (.int 63)))) (sC (.int 1))))) (sRet (sBin opMod (sBin opDiv (sBin opIx (sVar 0) (sC (.int 3))) (sBin opPow (sC (.int 2)) (sC (.int 41)))) (sVar 1))))))))
def l_draw_1 : FN := fnOf 5 l_draw_1_b
/-- _law_dressed -/
def l_dressed_1_b (rec_ : FN) : SS := (sSeq (sIfS (sNot (sTest (sIsi ["list", "tuple"] (sVar 1)))) (sRet (sVar 1)) sNext) (sSeq (sSet 2 (sLc false (sIt (sVar 1)) (gN 3) sYes (sCall (withD [] rec_) (sCons (sVar 0) (sCons (sVar 3) sNil))) [3])) (sRet (sIf (sTest (sBin (opEq false) (sCall (withD [] Sh.l_draw_1) (sCons (sVar 0) (sCons (sC (.int 2)) sNil))) (sC (.int 0)))) (sVar 2) (sCall (b1 opTuple) (sCons (sVar 2) sNil))))))
def l_dressed_1_n : Nat → FN
  | 0 => fun _ _ => .bad
  | j + 1 => fnOf 4 (l_dressed_1_b (l_dressed_1_n j))
/-- silent_among -/
def silent_among_b : SS := (sRet (sCall (withD [] (pureF Sh.left_among)) (sCons (sVar 0) (sCons (sBin opAdd (sC (.int (10))) (sC (.int 1))) (sCons (sVar 1) sNil)))))
def silent_among : FN := fnOf 2 silent_among_b
/-- silent_before -/
def silent_before_b : SS := (sSeq (sSet 2 (sCall (withD [] (pureF Sh.checked_hall)) (sCons (sVar 0) sNil))) (sSeq (sExpr (sCall (withD [] (pureF Sh.check_tick)) (sCons (sVar 1) sNil))) (sRet (sCall (withD [] (pureF Sh.silent_among)) (sCons (sVar 2) (sCons (sVar 1) sNil))))))
def silent_before : FN := fnOf 3 silent_before_b
/-- span_by -/
def span_by_b : SS := (sSeq (sSet 3 (sMeth "Schedule" "nth_ready" (pureF Sh.Schedule_nth_ready) (sUn (opFld "schedule") (sVar 1)) (sCons (sVar 2) sNil))) (sSeq (sSet 4 (sBin opAdd (sCall (withD [] (pureF Sh.left_index)) (sCons (sVar 0) (sCons (sUn (opFld "rank") (sVar 1)) (sCons (sBin opSub (sVar 3) (sC (.int 1))) sNil)))) (sC (.int 1)))) (sSeq (sFor (sIt (sCall (withD [] (pureF Sh.run_of)) (sCons (sVar 0) (sCons (sUn (opFld "rank") (sVar 1)) (sCons (sVar 3) sNil))))) (gT 3 (gCs (gN 5) (gCs (gN 6) (gCs (gN 7) gNl)))) (sSeq (sIfS (sTest (sBin (opEq false) (sUn (opFld "name") (sVar 5)) (sUn (opFld "name") (sVar 1)))) sBreak sNext) (sAug 4 (opI2 (fun i j => .int (i + j)) fun _ _ => true) (sVar 7)))) (sSeq (sSet 8 (sBin opSub (sBin opAdd (sVar 4) (sBin opIx (sMeth "Schedule" "nth_talk" (pureF Sh.Schedule_nth_talk) (sUn (opFld "schedule") (sVar 1)) (sCons (sVar 2) sNil)) (sC (.int 1)))) (sC (.int 1)))) (sRet (sTup (sCons (sCall (withD [] (pureF Sh.tick_of)) (sCons (sVar 0) (sCons (sUn (opFld "rank") (sVar 1)) (sCons (sVar 4) sNil)))) (sCons (sCall (withD [] (pureF Sh.tick_of)) (sCons (sVar 0) (sCons (sUn (opFld "rank") (sVar 1)) (sCons (sVar 8) sNil)))) sNil))))))))
def span_by : FN := fnOf 9 span_by_b
/-- located -/
def located_b : SS := (sSeq (sSet 3 (sCall (withD [] (pureF Sh.checked_hall)) (sCons (sVar 0) sNil))) (sSeq (sSet 4 (sCall (withD [] (pureF Sh.member_of)) (sCons (sVar 3) (sCons (sVar 1) sNil)))) (sSeq (sExpr (sCall (withD [] (pureF Sh.check_number)) (sCons (sVar 2) sNil))) (sRet (sTup (sCons (sVar 3) (sCons (sVar 4) (sCons (sCall (withD [] (pureF Sh.span_by)) (sCons (sVar 3) (sCons (sVar 4) (sCons (sVar 2) sNil)))) sNil))))))))
def located : FN := fnOf 5 located_b
/-- span_of -/
def span_of_b : SS := (sRet (sBin opIx (sCall (withD [] (pureF Sh.located)) (sCons (sVar 0) (sCons (sVar 1) (sCons (sVar 2) sNil)))) (sC (.int 2))))
def span_of : FN := fnOf 3 span_of_b
/-- common_divisor -/
def common_divisor_b : SS := (sSeq (sWhile (sTest (sBin opGt (sVar 1) (sC (.int 0)))) (sPar 0 1 (sCons (sVar 1) (sCons (sBin opMod (sVar 0) (sVar 1)) sNil)))) (sRet (sVar 0)))
def common_divisor : FN := fnOf 2 common_divisor_b
/-- common_multiple -/
def common_multiple_b : SS := (sRet (sBin opMul (sBin opDiv (sVar 0) (sCall (withD [] (pureF Sh.common_divisor)) (sCons (sVar 0) (sCons (sVar 1) sNil)))) (sVar 1)))
def common_multiple : FN := fnOf 2 common_multiple_b
/-- RankCycle.spoken_by -/
def RankCycle_spoken_by_b : SS := (sRet (sBin opMul (sBin opDiv (sUn (opFld "quiet") (sVar 0)) (sBin opIx (sUn (opFld "cycle_silences") (sUn (opFld "schedule") (sVar 1))) (sUn opNeg (sC (.int 1))))) (sBin opIx (sUn (opFld "cycle_lengths") (sUn (opFld "schedule") (sVar 1))) (sUn opNeg (sC (.int 1))))))
def RankCycle_spoken_by : FN := fnOf 2 RankCycle_spoken_by_b
/-- RankCycle.__init__ -/
def RankCycle_init_b : SS := (sSeq (sFldS "RankCycle" "members" (sVar 0) (sLc false (sIt (sVar 1)) (gN 3) (sTest (sBin (opEq false) (sUn (opFld "rank") (sVar 3)) (sVar 2))) (sVar 3) [3])) (sSeq (sFldS "RankCycle" "quiet" (sVar 0) (sC (.int 1))) (sSeq (sFor (sIt (sUn (opFld "members") (sVar 0))) (gN 3) (sFldS "RankCycle" "quiet" (sVar 0) (sCall (withD [] (pureF Sh.common_multiple)) (sCons (sUn (opFld "quiet") (sVar 0)) (sCons (sBin opIx (sUn (opFld "cycle_silences") (sUn (opFld "schedule") (sVar 3))) (sUn opNeg (sC (.int 1)))) sNil))))) (sFldS "RankCycle" "left" (sVar 0) (sBin opAdd (sUn (opFld "quiet") (sVar 0)) (sCall (b1 opSum) (sCons (sLc false (sIt (sUn (opFld "members") (sVar 0))) (gN 3) sYes (sMeth "RankCycle" "spoken_by" Sh.RankCycle_spoken_by (sVar 0) (sCons (sVar 3) sNil)) [3]) sNil)))))))
def RankCycle_init : FN := fnOf 4 RankCycle_init_b
/-- start_of -/
def start_of_b : SS := (sSeq (sSet 1 (sC (.int 0))) (sSeq (sFor (sIt (sVar 0)) (gN 2) (sSeq (sSet 3 (sCall bLen (sCons (sUn (opFld "prefix") (sUn (opFld "schedule") (sVar 2))) sNil))) (sIfS (sTest (sBin opGt (sVar 3) (sC (.int 0)))) (sSet 1 (sCall bMax (sCons (sVar 1) (sCons (sBin opAdd (sBin opIx (sCall (withD [] (pureF Sh.span_by)) (sCons (sVar 0) (sCons (sVar 2) (sCons (sBin opSub (sVar 3) (sC (.int 1))) sNil)))) (sC (.int 1))) (sC (.int 1))) sNil)))) sNext))) (sRet (sVar 1))))
def start_of : FN := fnOf 4 start_of_b
/-- cycle_of -/
def cycle_of_b : SS := (sSeq (sSet 1 (sCall (withD [] (pureF Sh.checked_hall)) (sCons (sVar 0) sNil))) (sSeq (sAsg (gT 2 (gCs (gN 2) (gCs (gN 3) gNl))) (sTup (sCons (sC (.int 1)) (sCons (sC (.int 1)) sNil)))) (sSeq (sFor (sRng2 (sC (.int 1)) (sBin opAdd (sC (.int (10))) (sC (.int 1)))) (gN 4) (sSeq (sSet 5 (sMakeP "RankCycle" Sh.RankCycle_init (sCons (sVar 1) (sCons (sVar 4) sNil)))) (sSeq (sSet 6 (sBin opDiv (sUn (opFld "left") (sVar 5)) (sCall (withD [] (pureF Sh.common_divisor)) (sCons (sVar 3) (sCons (sUn (opFld "left") (sVar 5)) sNil))))) (sSeq (sAug 2 opMulI (sVar 6)) (sSet 3 (sBin opMul (sBin opDiv (sBin opMul (sVar 3) (sVar 6)) (sUn (opFld "left") (sVar 5))) (sUn (opFld "quiet") (sVar 5)))))))) (sRet (sTup (sCons (sCall (withD [] (pureF Sh.start_of)) (sCons (sVar 1) sNil)) (sCons (sVar 2) sNil)))))))
def cycle_of : FN := fnOf 7 cycle_of_b
/-- shares_of -/
noncomputable def shares_of_1_b (P : Program) (w : World) : SS := (sSeq (sSet 1 (sCall (withD [] (pureF Sh.checked_hall)) (sCons (sVar 0) sNil))) (sSeq (sAsg (gT 2 (gCs (gN 2) (gCs (gN 3) gNl))) (sTup (sCons (sC (.int 1)) (sCons (sC (.int 1)) sNil)))) (sSeq (sSet 4 sDctO) (sSeq (sFor (sRng2 (sC (.int 1)) (sBin opAdd (sC (.int (10))) (sC (.int 1)))) (gN 5) (sSeq (sSet 6 (sMakeP "RankCycle" Sh.RankCycle_init (sCons (sVar 1) (sCons (sVar 5) sNil)))) (sSeq (sFor (sIt (sUn (opFld "members") (sVar 6))) (gN 7) (sIxK (sVar 4) (sUn (opFld "name") (sVar 7)) (sTup (sCons (sBin opMul (sVar 2) (sMeth "RankCycle" "spoken_by" (pureF Sh.RankCycle_spoken_by) (sVar 6) (sCons (sVar 7) sNil))) (sCons (sBin opMul (sVar 3) (sUn (opFld "left") (sVar 6))) sNil))))) (sPar 2 3 (sCons (sBin opMul (sVar 2) (sUn (opFld "quiet") (sVar 6))) (sCons (sBin opMul (sVar 3) (sUn (opFld "left") (sVar 6))) sNil)))))) (sSeq (sSet 8 (sBin opAdd (sLc false (sIt (sVar 1)) (gN 7) sYes (sUn (opFld "name") (sVar 7)) [7]) (sLst (sCons (sC .non) sNil)))) (sSeq (sPutN (hexN P w) (sVar 4) (sC .non) (sTup (sCons (sVar 2) (sCons (sVar 3) sNil)))) (sSeq (sSet 9 (sLstO sNil)) (sSeq (sFor (sIt (sVar 8)) (gN 10) (sSeq (sSet 11 (sCall (withD [] (pureF Sh.common_divisor)) (sCons (sBin opIx (sBin (opGetN (hexN P w)) (sVar 4) (sVar 10)) (sC (.int 0))) (sCons (sBin opIx (sBin (opGetN (hexN P w)) (sVar 4) (sVar 10)) (sC (.int 1))) sNil)))) (sExpr (sMtO gAppend (sVar 9) (sCons (sTup (sCons (sVar 10) (sCons (sBin opDiv (sBin opIx (sBin (opGetN (hexN P w)) (sVar 4) (sVar 10)) (sC (.int 0))) (sVar 11)) (sCons (sBin opDiv (sBin opIx (sBin (opGetN (hexN P w)) (sVar 4) (sVar 10)) (sC (.int 1))) (sVar 11)) sNil)))) sNil))))) (sRet (frzE (sVar 9)))))))))))
noncomputable def shares_of_1 (P : Program) (w : World) : FN := fnOf 12 (shares_of_1_b P w)
/-- copied_operation -/
def copied_operation_b : SS := (sSeq (sIfS (sTest (sBin (opEq true) (sBin opIx (sVar 0) (sC (.int 0))) (sC (.str "add_talker")))) (sRet (sVar 0)) sNext) (sSeq (sAsg (gT 4 (gCs (gN 1) (gCs (gN 2) (gCs (gN 3) (gCs (gN 4) gNl))))) (sBin opIx (sVar 0) (sC (.int 1)))) (sRet (sTup (sCons (sC (.str "add_talker")) (sCons (sTup (sCons (sVar 1) (sCons (sVar 2) (sCons (sCall (b1 (opList false)) (sCons (sVar 3) sNil)) (sCons (sCall (b1 (opList false)) (sCons (sVar 4) sNil)) sNil))))) sNil))))))
def copied_operation : FN := fnOf 5 copied_operation_b
/-- _law_stream -/
def l_stream_b : SS := (sRet (sLstO (sCons (sCall bAbs (sCons (sVar 0) sNil)) (sCons (sBin opMod (sBin opMul (sBin opAdd (sBin opMod (sCall bAbs (sCons (sVar 0) sNil)) (sC (.int 2147483629))) (sC (.int 1))) (sBin opAdd (sBin opMul (sC (.int 2)) (sVar 1)) (sC (.int 16807)))) (sC (.int 2147483647))) sNil))))
def l_stream : FN := fnOf 2 l_stream_b
/-- _law_draw -/
def l_draw_4_b : SS := (sSeq (sIfS (sTest (sBin opGe (sBin opIx (sVar 0) (sC (.int 0))) (sBin opPow (sC (.int 10)) (sC (.int 18))))) (sSeq (sSet 2 (sBin opMod (sBin opIx (sVar 0) (sC (.int 0))) (sVar 1))) (sSeq (sIxS (sVar 0) (sC (.int 0)) (sBin opDiv (sBin opIx (sVar 0) (sC (.int 0))) (sVar 1))) (sRet (sVar 2)))) sNext) (sSeq (sIxS (sVar 0) (sC (.int 1)) (sBin opMod (sBin opMul (sBin opAdd (sBin opIx (sVar 0) (sC (.int 1))) (sC (.int 1))) (sC (.int 48271))) (sC (.int 2147483647)))) (sSeq (sSet 3 (sBin opMod (sBin opMul (sBin opIx (sVar 0) (sC (.int 1))) (sBin opIx (sVar 0) (sC (.int 1)))) (sC (.int 2147483629)))) (sRet (sBin opMod (sBin opDiv (sBin opMod (sBin opMul (sVar 3) (sC (.int 69621))) (sC (.int 2147483587))) (sC (.int 8))) (sVar 1))))))
def l_draw_4 : FN := fnOf 4 l_draw_4_b
/-- _law_talk -/
def l_talk_1_b : SS := (sRet (sTup (sCons (sBin opAdd (sC (.int 1)) (sCall (withD [] Sh.l_draw_4) (sCons (sVar 0) (sCons (sVar 1) sNil)))) (sCons (sBin opAdd (sC (.int 1)) (sCall (withD [] Sh.l_draw_4) (sCons (sVar 0) (sCons (sVar 1) sNil)))) sNil))))
def l_talk_1 : FN := fnOf 2 l_talk_1_b
/-- _law_hall -/
def l_hall_5_b : SS := (sSeq (sSet 3 (sLstO sNil)) (sSeq (sSet 4 (sBin opIx (sVar 2) (sCall (withD [] Sh.l_draw_4) (sCons (sVar 0) (sCons (sCall bLen (sCons (sVar 2) sNil)) sNil))))) (sSeq (sFor (sRng1 (sBin opAdd (sC (.int 1)) (sCall (withD [] Sh.l_draw_4) (sCons (sVar 0) (sCons (sVar 1) sNil))))) (gN 5) (sSeq (sSet 6 (sBin opAdd (sC (.int 1)) (sCall (withD [] Sh.l_draw_4) (sCons (sVar 0) (sCons (sBin opIx (sLst (sCons (sC (.int 2)) (sCons (sC (.int 5)) (sCons (sC (.int 10)) sNil)))) (sCall (withD [] Sh.l_draw_4) (sCons (sVar 0) (sCons (sC (.int 3)) sNil)))) sNil))))) (sSeq (sSet 7 (sLc false (sRng1 (sBin opIx (sLst (sCons (sC (.int 0)) (sCons (sC (.int 0)) (sCons (sCall (withD [] Sh.l_draw_4) (sCons (sVar 0) (sCons (sC (.int 4)) sNil))) sNil)))) (sCall (withD [] Sh.l_draw_4) (sCons (sVar 0) (sCons (sC (.int 3)) sNil))))) (gN 8) sYes (sCall (withD [] Sh.l_talk_1) (sCons (sVar 0) (sCons (sVar 4) sNil))) [8])) (sSeq (sSet 9 (sLc false (sRng1 (sBin opAdd (sC (.int 1)) (sCall (withD [] Sh.l_draw_4) (sCons (sVar 0) (sCons (sC (.int 3)) sNil))))) (gN 8) sYes (sCall (withD [] Sh.l_talk_1) (sCons (sVar 0) (sCons (sVar 4) sNil))) [8])) (sExpr (sMtO gAppend (sVar 3) (sCons (sTup (sCons (sBin opIx (sC (.str "abcdefghij")) (sVar 5)) (sCons (sVar 6) (sCons (sVar 7) (sCons (sVar 9) sNil))))) sNil))))))) (sRet (frzE (sVar 3))))))
def l_hall_5 : FN := fnOf 10 l_hall_5_b
/-- _law_gcd -/
def l_gcd_b : SS := (sSeq (sWhile (sTest (sBin opGt (sVar 1) (sC (.int 0)))) (sPar 0 1 (sCons (sVar 1) (sCons (sBin opMod (sVar 0) (sVar 1)) sNil)))) (sRet (sVar 0)))
def l_gcd : FN := fnOf 2 l_gcd_b
/-- _law_same_state -/
def l_same_state_b : SS := (sSeq (sSet 3 (sLst (sCons (sCall (withD [] (noXF (pureF Sh.state_at_1))) (sCons (sVar 0) (sCons (sVar 1) sNil))) (sCons (sCall (withD [] (noXF (pureF Sh.state_at_1))) (sCons (sVar 0) (sCons (sVar 2) sNil))) sNil)))) (sSeq (sIfS (sTest (sBin (opEq true) (sLc false (sIt (sBin opIx (sVar 3) (sC (.int 0)))) (gN 4) sYes (sTup (sCons (sBin opIx (sVar 4) (sC (.int 0))) (sCons (sBin opIx (sVar 4) (sC (.int 2))) sNil))) [4]) (sLc false (sIt (sBin opIx (sVar 3) (sC (.int 1)))) (gN 4) sYes (sTup (sCons (sBin opIx (sVar 4) (sC (.int 0))) (sCons (sBin opIx (sVar 4) (sC (.int 2))) sNil))) [4]))) (sRet (sC (.bl false))) sNext) (sRet (sBin (opEq false) (sCall (withD [] (noXF (pureF Sh.speaker_at))) (sCons (sVar 0) (sCons (sVar 1) sNil))) (sCall (withD [] (noXF (pureF Sh.speaker_at))) (sCons (sVar 0) (sCons (sVar 2) sNil)))))))
def l_same_state : FN := fnOf 5 l_same_state_b
/-- _law_share -/
def l_share_b : SS := (sSeq (sSet 2 (sCall (withD [] (pureF Sh.l_gcd)) (sCons (sVar 0) (sCons (sVar 1) sNil)))) (sRet (sTup (sCons (sBin opDiv (sVar 0) (sVar 2)) (sCons (sBin opDiv (sVar 1) (sVar 2)) sNil)))))
def l_share : FN := fnOf 3 l_share_b
/-- _law_shares_hold -/
noncomputable def l_shares_hold_b (P : Program) (w : World) : SS := (sSeq (sSet 3 (sCall (withD [] (noXF (pureF (Sh.shares_of_1 P w)))) (sCons (sVar 0) sNil))) (sSeq (sIfS (sTest (sBin (opEq true) (sLc false (sIt (sVar 3)) (gN 4) sYes (sBin opIx (sVar 4) (sC (.int 0))) [4]) (sBin opAdd (sLc false (sIt (sVar 0)) (gN 5) sYes (sBin opIx (sVar 5) (sC (.int 0))) [5]) (sLst (sCons (sC .non) sNil))))) (sRet (sC (.bl false))) sNext) (sSeq (sSet 6 (sBin opAdd (sVar 1) (sVar 2))) (sSeq (sSet 7 (sLc false (sIt (sVar 0)) (gN 5) sYes (sBin opSub (sCall (withD [] (noXF (pureF Sh.ticks_spoken))) (sCons (sVar 0) (sCons (sBin opIx (sVar 5) (sC (.int 0))) (sCons (sVar 6) sNil)))) (sCall (withD [] (noXF (pureF Sh.ticks_spoken))) (sCons (sVar 0) (sCons (sBin opIx (sVar 5) (sC (.int 0))) (sCons (sVar 1) sNil))))) [5])) (sSeq (sSet 7 (sBin opAdd (sVar 7) (sLst (sCons (sBin opSub (sCall (withD [] (noXF (pureF Sh.silent_before))) (sCons (sVar 0) (sCons (sVar 6) sNil))) (sCall (withD [] (noXF (pureF Sh.silent_before))) (sCons (sVar 0) (sCons (sVar 1) sNil)))) sNil)))) (sSeq (sIfS (sTest (sBin (opEq true) (sCall (b1 opSum) (sCons (sVar 7) sNil)) (sVar 2))) (sRet (sC (.bl false))) sNext) (sRet (sBin (opEq false) (sLc false (sIt (sVar 3)) (gN 4) sYes (sCut false (sVar 4) (sPart (sC (.int 1))) sNoPart) [4]) (sLc false (sIt (sVar 7)) (gN 8) sYes (sCall (withD [] (pureF Sh.l_share)) (sCons (sVar 8) (sCons (sVar 2) sNil))) [8])))))))))
noncomputable def l_shares_hold (P : Program) (w : World) : FN := fnOf 9 (l_shares_hold_b P w)
/-- _law_talks_hold -/
def l_talks_hold_b : SS := (sSeq (sSet 5 (sBin opIx (sBin opIx (sVar 1) (sCall (withD [] Sh.l_draw_4) (sCons (sVar 0) (sCons (sCall bLen (sCons (sVar 1) sNil)) sNil)))) (sC (.int 0)))) (sSeq (sSet 6 (sBin opAdd (sVar 2) (sCall (withD [] Sh.l_draw_4) (sCons (sVar 0) (sCons (sBin opMul (sC (.int 2)) (sVar 3)) sNil))))) (sSeq (sAsg (gT 2 (gCs (gN 7) (gCs (gN 8) gNl))) (sCall (withD [] (noXF (pureF Sh.talks_before))) (sCons (sVar 1) (sCons (sVar 5) (sCons (sVar 6) sNil))))) (sSeq (sAsg (gT 2 (gCs (gN 9) (gCs (gN 10) gNl))) (sCall (withD [] (noXF (pureF Sh.talks_before))) (sCons (sVar 1) (sCons (sVar 5) (sCons (sBin opAdd (sVar 6) (sVar 3)) sNil))))) (sSeq (sSet 11 (sBin opMul (sVar 4) (sBin opSub (sVar 9) (sVar 7)))) (sSeq (sIfS (sTest (sBin (opEq true) (sCall (withD [] (noXF (pureF Sh.talks_before))) (sCons (sVar 1) (sCons (sVar 5) (sCons (sBin opAdd (sVar 6) (sBin opMul (sVar 4) (sVar 3))) sNil)))) (sTup (sCons (sBin opAdd (sVar 7) (sVar 11)) (sCons (sBin opAdd (sVar 8) (sBin opMul (sVar 4) (sBin opSub (sVar 10) (sVar 8)))) sNil))))) (sRet (sC (.bl false))) sNext) (sSeq (sAsg (gT 2 (gCs (gN 12) (gCs (gN 13) gNl))) (sCall (withD [] (noXF (pureF Sh.span_of))) (sCons (sVar 1) (sCons (sVar 5) (sCons (sVar 7) sNil))))) (sSeq (sIfS (sTest (sBin opLt (sVar 12) (sVar 2))) (sRet (sC (.bl false))) sNext) (sRet (sBin (opEq false) (sCall (withD [] (noXF (pureF Sh.span_of))) (sCons (sVar 1) (sCons (sVar 5) (sCons (sBin opAdd (sVar 7) (sVar 11)) sNil)))) (sTup (sCons (sBin opAdd (sVar 12) (sBin opMul (sVar 4) (sVar 3))) (sCons (sBin opAdd (sVar 13) (sBin opMul (sVar 4) (sVar 3))) sNil)))))))))))))
def l_talks_hold : FN := fnOf 14 l_talks_hold_b
/-- _law_holds -/
noncomputable def l_holds_1_b (P : Program) (w : World) : SS := (sSeq (sSet 1 (sCall (withD [] Sh.l_hall_5) (sCons (sVar 0) (sCons (sC (.int 4)) (sCons (sLst (sCons (sC (.int 3)) (sCons (sC (.int 6)) sNil))) sNil))))) (sSeq (sAsg (gT 2 (gCs (gN 2) (gCs (gN 3) gNl))) (sCall (withD [] (noXF (pureF Sh.cycle_of))) (sCons (sVar 1) sNil))) (sSeq (sIfS (sOr (sTest (sBin opLt (sVar 3) (sC (.int 1)))) (sTest (sBin opLt (sVar 2) (sC (.int 0))))) (sRet (sC (.bl false))) sNext) (sSeq (sSet 4 (sBin opAdd (sC (.int 1)) (sCall (withD [] Sh.l_draw_4) (sCons (sVar 0) (sCons (sBin opIx (sLst (sCons (sC (.int 3)) (sCons (sBin opPow (sC (.int 10)) (sC (.int 20))) sNil))) (sCall (withD [] Sh.l_draw_4) (sCons (sVar 0) (sCons (sC (.int 2)) sNil)))) sNil))))) (sSeq (sFor (sRng1 (sC (.int 3))) (gN 5) (sSeq (sSet 6 (sBin opAdd (sVar 2) (sCall (withD [] Sh.l_draw_4) (sCons (sVar 0) (sCons (sBin opMul (sC (.int 3)) (sVar 3)) sNil))))) (sSeq (sIfS (sNot (sTest (sCall (withD [] (pureF Sh.l_same_state)) (sCons (sVar 1) (sCons (sVar 6) (sCons (sBin opAdd (sVar 6) (sBin opMul (sVar 4) (sVar 3))) sNil)))))) (sRet (sC (.bl false))) sNext) (sSeq (sSet 7 (sBin opAdd (sVar 6) (sBin opMul (sVar 4) (sVar 3)))) (sSeq (sIfS (sNot (sTest (sCall (withD [] (noXF (pureF Sh.is_descent_1))) (sCons (sVar 1) (sCons (sVar 7) (sCons (sCall (withD [] (noXF (pureF Sh.descent_of_1))) (sCons (sVar 1) (sCons (sVar 7) sNil))) sNil)))))) (sRet (sC (.bl false))) sNext) (sSeq (sSet 8 (sBin opSub (sCall (withD [] (noXF (pureF Sh.silent_before))) (sCons (sVar 1) (sCons (sBin opAdd (sVar 6) (sVar 3)) sNil))) (sCall (withD [] (noXF (pureF Sh.silent_before))) (sCons (sVar 1) (sCons (sVar 6) sNil))))) (sIfS (sTest (sBin (opEq true) (sCall (withD [] (noXF (pureF Sh.silent_before))) (sCons (sVar 1) (sCons (sVar 7) sNil))) (sBin opAdd (sCall (withD [] (noXF (pureF Sh.silent_before))) (sCons (sVar 1) (sCons (sVar 6) sNil))) (sBin opMul (sVar 4) (sVar 8))))) (sRet (sC (.bl false))) sNext))))))) (sRet (sAndV (sCall (withD [] (pureF (Sh.l_shares_hold P w))) (sCons (sVar 1) (sCons (sVar 2) (sCons (sVar 3) sNil)))) (sCall (withD [] Sh.l_talks_hold) (sCons (sVar 0) (sCons (sVar 1) (sCons (sVar 2) (sCons (sVar 3) (sCons (sVar 4) sNil)))))))))))))
noncomputable def l_holds_1 (P : Program) (w : World) : FN := fnOf 9 (l_holds_1_b P w)
/-- law -/
noncomputable def law_k71_b (P : Program) (w : World) : SS := (sSeq (sSet 1 (sCut false (sBin opAdd (sCut false (sVar 0) sNoPart (sPart (sC (.int 4)))) (sLst (sCons (sC (.int 0)) sNil))) sNoPart (sPart (sCall bMax (sCons (sC (.int 1)) (sCons (sCall bMin (sCons (sC (.int 4)) (sCons (sCall bLen (sCons (sVar 0) sNil)) sNil))) sNil)))))) (sRet (sBin (opNil false) (sLc false (sEnum (sCons (sVar 1) sNil)) (gT 2 (gCs (gN 2) (gCs (gN 3) gNl))) (sNot (sTest (sCall (withD [] (Sh.l_holds_1 P w)) (sCons (sCall (withD [] Sh.l_stream) (sCons (sVar 3) (sCons (sVar 2) sNil))) sNil)))) (sVar 2) [2, 3]) (sLst sNil))))
noncomputable def law_k71 (P : Program) (w : World) : FN := fnOf 4 (law_k71_b P w)
end Sh
end HR
set_option Elab.async false
set_option linter.all false
set_option maxRecDepth 20000
namespace HR
open PySem L2
/-! ### the spring: draw -/
/-- the spring at i -/
def Spr (h : OH) (i : Nat) : Prop := ∃ a b c : Int, h[i]? = some (.lst [.int a, .int b, .int c]) ∧ 0 ≤ b ∧ b < 2305843009213693951
/-- nothing but i is changed; the heap may have grown -/
def Chg (i : Nat) (h h' : OH) : Prop := h.length ≤ h'.length ∧ ∀ j, j < h.length → j ≠ i → h'[j]? = h[j]?
theorem Chg.refl (i : Nat) (h : OH) : Chg i h h := ⟨Nat.le_refl _, fun _ _ _ => rfl⟩
theorem Chg.trans {i : Nat} {h1 h2 h3 : OH} (a : Chg i h1 h2) (b : Chg i h2 h3) : Chg i h1 h3 := ⟨Nat.le_trans a.1 b.1, fun j hj n => (b.2 j (Nat.lt_of_lt_of_le hj a.1) n).trans (a.2 j hj n)⟩
theorem Chg.set (i : Nat) (h : OH) (o : OO) : Chg i h (h.set i o) := ⟨by simp, fun j hj n => by rw [List.getElem?_set_ne (Ne.symm n)]⟩
theorem Chg.get {i : Nat} {h h' : OH} (c : Chg i h h') {j : Nat} {o : OO} (e : h[j]? = some o) (n : j ≠ i) : h'[j]? = some o := (c.2 j (List.getElem?_eq_some_iff.mp e).1 n).trans e
theorem Chg.app (i : Nat) (h t : OH) : Chg i h (h ++ t) := ⟨by simp, fun j hj _ => List.getElem?_append_left hj⟩
/-- an object made since is changed -/
theorem Chg.setNew {i : Nat} {h h' : OH} (c : Chg i h h') {j : Nat} (hj : h.length ≤ j) (o : OO) : Chg i h (h'.set j o) := ⟨by simpa using c.1, fun k hk n => by rw [List.getElem?_set_ne (by omega)]; exact c.2 k hk n⟩
theorem Spr.lt {h : OH} {i : Nat} (s : Spr h i) : i < h.length := by
  obtain ⟨a, b, c, e, _⟩ := s
  exact (List.getElem?_eq_some_iff.mp e).1
theorem Spr.app {h : OH} {i : Nat} (s : Spr h i) (t : OH) : Spr (h ++ t) i := by
  have := s.lt
  obtain ⟨a, b, c, e, r⟩ := s
  exact ⟨a, b, c, by rw [List.getElem?_append_left this]; exact e, r⟩
theorem Spr.set {h : OH} {i j : Nat} (s : Spr h i) (n : j ≠ i) (o : OO) : Spr (h.set j o) i := by
  obtain ⟨a, b, c, e, r⟩ := s
  exact ⟨a, b, c, by rw [List.getElem?_set_ne n]; exact e, r⟩
end HR
set_option Elab.async false
set_option linter.all false
set_option maxRecDepth 20000
namespace HR
open PySem L2
/-! ### halls: the talks, the talkers -/
def dT (p : Int × Int) : D := .tup [.int p.1, .int p.2]
structure Tk where
  name : Str
  rank : Int
  pre : List (Int × Int)
  cyc : List (Int × Int)
def dTk (t : Tk) : D := .tup [.str t.name, .int t.rank, .lst (t.pre.map dT), .lst (t.cyc.map dT)]
def In1 (m : Int) (p : Int × Int) : Prop := 1 ≤ p.1 ∧ p.1 ≤ m ∧ 1 ≤ p.2 ∧ p.2 ≤ m
theorem pickI {ns : List Int} {v : Int} {P : D → Prop} (h0 : 0 ≤ v) (h1 : v < ns.length) (q : ∀ n ∈ ns, P (.int n)) : lkS (atI (ns.map D.int) v) P := by
  have hl : v.toNat < ns.length := by omega
  refine lkS_of (x := .int ns[v.toNat]) ?_ (q _ (List.getElem_mem hl))
  rw [atI_z h0 (by simpa using h1)]
  simp [hl]
def WfN (x : Str) : Prop := 1 ≤ x.length ∧ x.length ≤ 8 ∧ ∀ c ∈ x.cps.toList, c ∈ ("abcdefghijklmnopqrstuvwxyz" : Str).cps.toList
structure WfTk (m : Int) (t : Tk) : Prop where
  name : WfN t.name
  r1 : 1 ≤ t.rank
  r2 : t.rank ≤ 10
  lp : t.pre.length ≤ 8
  lc1 : 1 ≤ t.cyc.length
  lc : t.cyc.length ≤ 8
  pre : ∀ p ∈ t.pre, In1 m p
  cyc : ∀ p ∈ t.cyc, In1 m p
structure WfHall (m : Int) (ts : List Tk) : Prop where
  len : ts.length ≤ 10
  tk : ∀ t ∈ ts, WfTk m t
  nd : (ts.map (·.name)).Nodup
end HR
set_option Elab.async false
set_option linter.all false
set_option maxRecDepth 20000
namespace HR
open PySem L2
/-! ### the checks of a hall -/
abbrev T30 : Int := 1000000000000000000000000000000
theorem pure_dT (p : Int × Int) : (dT p).pure = true := by simp [dT]
@[simp] theorem pureL_dT (ts : List (Int × Int)) : D.pureL (ts.map dT) = true := pureL_map _ pure_dT ts
theorem pure_dTk (t : Tk) : (dTk t).pure = true := by simp [dTk]
@[simp] theorem pureL_dTk (ts : List Tk) : D.pureL (ts.map dTk) = true := pureL_map _ pure_dTk ts
@[simp] theorem isseq_l (xs : List D) (h : OH) (hp : D.pureL xs = true) : pureF Sh.is_sequence [.lst xs] h = .ok (.bl true) h := by
  refine pure_eq h (by simp [hp]) rfl ?_
  unfold Sh.is_sequence; rw [W_fn]; unfold Sh.is_sequence_b; simp
@[simp] theorem isseq_t (xs : List D) (h : OH) (hp : D.pureL xs = true) : pureF Sh.is_sequence [.tup xs] h = .ok (.bl true) h := by
  refine pure_eq h (by simp [hp]) rfl ?_
  unfold Sh.is_sequence; rw [W_fn]; unfold Sh.is_sequence_b; simp
@[simp] theorem isint2 (v lo hi : Int) (h : OH) : pureF Sh.is_integer [.int v, .int lo, .int hi] h = .ok (.bl (decide (lo ≤ v) && decide (v ≤ hi))) h := by
  refine pure_eq h rfl rfl ?_
  unfold Sh.is_integer; rw [W_fn]; unfold Sh.is_integer_b; simp
  split
  · rename_i q; simp [q]
  · rename_i q; simp [q]
@[simp] theorem isint1 (v lo : Int) (h : OH) : pureF Sh.is_integer [.int v, .int lo, .non] h = .ok (.bl (decide (lo ≤ v))) h := by
  refine pure_eq h rfl rfl ?_
  unfold Sh.is_integer; rw [W_fn]; unfold Sh.is_integer_b; simp
theorem istalk (p : Int × Int) (h : OH) (w : In1 T30 p) : pureF Sh.is_talk [dT p] h = .ok (.bl true) h := by
  refine pure_eq h (by simp [pure_dT]) rfl ?_
  obtain ⟨a, b, c, d⟩ := w
  unfold Sh.is_talk; rw [W_fn]; unfold Sh.is_talk_b; simp [dT, wipeD, a, b, c, d]
theorem aretalks (ts : List (Int × Int)) (least : Int) (h : OH) (w : ∀ p ∈ ts, In1 T30 p) (l1 : least ≤ ts.length) (l2 : ts.length ≤ 8) : pureF Sh.are_talks [.lst (ts.map dT), .int least] h = .ok (.bl true) h := by
  refine pure_eq h (by simp) rfl ?_
  have l2' : (ts.length : Int) ≤ 8 := by omega
  unfold Sh.are_talks; rw [W_fn]; unfold Sh.are_talks_b; simp [wipeD, l1, l2']
  refine W_lcMap1 ts dT (fun _ => .bl true) [] (by simp [big]; omega) (fun x hx => ⟨_, rfl, ?_⟩) ?_
  · simp [istalk x _ (w x hx)]
  · rw [bs_mapF]; simp
theorem isname (x : Str) (h : OH) (w : WfN x) : pureF Sh.is_name [.str x] h = .ok (.bl true) h := by
  refine pure_eq h rfl rfl ?_
  obtain ⟨l1, l2, lc⟩ := w
  have l1' : (1 : Int) ≤ x.length := by omega
  have l2' : (x.length : Int) ≤ 8 := by omega
  have lb : x.length ≤ big := by simp [big]; omega
  have ln : x.cps.toList.length = x.length := by simp [Str.length]
  unfold Sh.is_name; rw [W_fn]; unfold Sh.is_name_b; simp [wipeD, W_lenS, lb, l1', l2', signsD]
  refine W_lcMap1 x.cps.toList (fun c => .str ⟨#[c]⟩) (fun _ => .bl true) [] (by simp only [big]; omega) (fun c hc => ⟨_, rfl, ?_⟩) ?_
  · simp
    exact Array.mem_toList_iff.mp (lc c hc)
  · rw [bs_mapF]; simp
theorem istalker (t : Tk) (h : OH) (w : WfTk T30 t) : pureF Sh.is_talker [dTk t] h = .ok (.bl true) h := by
  refine pure_eq h (by simp [pure_dTk]) rfl ?_
  have r1 := w.r1
  have r2 := w.r2
  have lc := w.lc1
  unfold Sh.is_talker; rw [W_fn]; unfold Sh.is_talker_b
  simp [dTk, isname t.name _ w.name, aretalks t.pre 0 _ w.pre (by omega) w.lp, aretalks t.cyc 1 _ w.cyc (by omega) w.lc, r1, r2]
theorem ishall (ts : List Tk) (h : OH) (w : WfHall T30 ts) : pureF Sh.is_hall [.lst (ts.map dTk)] h = .ok (.bl true) h := by
  refine pure_eq h (by simp) rfl ?_
  have hl := w.len
  have l10 : ¬ (10 : Int) < ts.length := by omega
  unfold Sh.is_hall; rw [W_fn]; unfold Sh.is_hall_b
  simp [wipeD, l10]
  refine W_lcMap1 ts dTk (fun _ => .bl true) [] (by simp [big]; omega) (fun x hx => ⟨_, rfl, ?_⟩) ?_
  · simp [istalker x _ (w.tk x hx)]
  · rw [bs_mapF]; simp [sLenSet, wipeD]
    refine W_lcMap1 ts dTk (fun t => .str t.name) [] (by simp [big]; omega) (fun x hx => ⟨_, rfl, ?_⟩) ?_
    · simp [dTk]
    · have e : ts.map (fun t => D.str t.name) = (ts.map (·.name)).map D.str := by simp
      rw [e]
      simp only [lsqAt, seqAt, Option.bind_some, keys_strs]
      have e2 : ((ts.map (·.name)).map (Sum.inr : Str → Key)).Nodup := by
        refine List.Pairwise.map _ (fun a b hab he => hab (Sum.inr.inj he)) w.nd
      rw [ddK_nodup _ [] e2 (by simp)]
      simp
      omega
end HR
set_option Elab.async false
set_option linter.all false
set_option maxRecDepth 20000
namespace HR
open PySem L2
/-! ### schedules -/
/-- 0, x0, x0 + x1, .. -/
def sums (l : List Int) : List Int := (List.range (l.length + 1)).map fun k => (l.take k).sum
theorem sums_at {l : List Int} {k : Nat} (h : k ≤ l.length) : (sums l)[k]? = some (l.take k).sum := by
  simp [sums, Nat.lt_succ_of_le h]
theorem sums_D (l : List Int) : (sums l).map D.int = (List.range l.length).map (fun k => D.int (l.take k).sum) ++ [.int l.sum] := by
  simp [sums, List.range_succ]
theorem sum_take (l : List Int) (k : Nat) (x : Int) (h : l[k]? = some x) : (l.take (k + 1)).sum = (l.take k).sum + x := by
  rw [List.take_succ, h]; simp
theorem running (l : List Int) (h : OH) (hl : l.length ≤ 1000) : pureF Sh.running_sums [.lst (l.map D.int)] h = .ok (.lst ((sums l).map D.int)) h := by
  refine pure_eq h (by simp) (by simp) ?_
  unfold Sh.running_sums; rw [W_fn]; unfold Sh.running_sums_b; simp
  refine W_forL (fun k e h' => h' = [.lst ((List.range k).map (fun j => D.int (l.take j).sum) ++ [.int (l.take k).sum])] ∧ ∃ c, e = [some (.lst (l.map D.int)), some (.ref 0), c]) _ _ _ ⟨rfl, none, rfl⟩ (fun k d hd e h' hI => ?_) (fun e h' hI => ?_)
  · obtain ⟨rfl, c, rfl⟩ := hI
    rw [List.getElem?_map, Option.map_eq_some_iff] at hd
    obtain ⟨x, hx, rfl⟩ := hd
    have hk := (List.getElem?_eq_some_iff.mp hx).1
    refine ⟨_, rfl, ?_⟩
    simp [L2.atI_last]
    refine ⟨by omega, ?_⟩
    first
      | exact (sum_take l k x hx).symm
      | (rw [sum_take l k x hx, List.range_succ]; simp)
  · obtain ⟨rfl, c, rfl⟩ := hI
    simp [sums_D]
def dSch (p c : List (Int × Int)) : D := .obj "Schedule" [("prefix", .lst (p.map dT)), ("cycle", .lst (c.map dT)), ("prefix_silences", .lst ((sums (p.map (·.1))).map D.int)), ("prefix_lengths", .lst ((sums (p.map (·.2))).map D.int)), ("cycle_silences", .lst ((sums (c.map (·.1))).map D.int)), ("cycle_lengths", .lst ((sums (c.map (·.2))).map D.int))]
@[simp] theorem pure_dSch (p c : List (Int × Int)) : (dSch p c).pure = true := by simp [dSch]
theorem map_dT1 (l : List (Int × Int)) : l.map (fun x => D.int x.1) = (l.map (·.1)).map D.int := by simp
theorem map_dT2 (l : List (Int × Int)) : l.map (fun x => D.int x.2) = (l.map (·.2)).map D.int := by simp
theorem mkSch {a : SA} {e : Env'} {h : OH} {PD : D → OH → Prop} (p c : List (Int × Int)) (lp : p.length ≤ 8) (lc : c.length ≤ 8) (w : (a e h).W fun ys h1 => ys = [.lst (p.map dT), .lst (c.map dT)] ∧ PD (dSch p c) h1) : (sMakeP "Schedule" Sh.Schedule_init a e h).W PD := by
  refine W_makeP (w.mono fun ys h1 z => ?_)
  obtain ⟨rfl, z⟩ := z
  refine ⟨by simp, ?_⟩
  unfold Sh.Schedule_init; rw [W_fn]; unfold Sh.Schedule_init_b
  simp [wipeD]
  refine W_lcMap1 p dT dT _ (by simp [big]; omega) (fun x hx => ⟨_, rfl, by simp [dT]⟩) ?_
  simp [wipeD]
  refine W_lcMap1 c dT dT _ (by simp [big]; omega) (fun x hx => ⟨_, rfl, by simp [dT]⟩) ?_
  simp [wipeD]
  refine W_lcMap1 p dT (fun x => .int x.1) _ (by simp [big]; omega) (fun x hx => ⟨_, rfl, by simp [dT]⟩) ?_
  rw [map_dT1, running _ _ (by simp; omega)]
  simp [wipeD]
  refine W_lcMap1 p dT (fun x => .int x.2) _ (by simp [big]; omega) (fun x hx => ⟨_, rfl, by simp [dT]⟩) ?_
  rw [map_dT2, running _ _ (by simp; omega)]
  simp [wipeD]
  refine W_lcMap1 c dT (fun x => .int x.1) _ (by simp [big]; omega) (fun x hx => ⟨_, rfl, by simp [dT]⟩) ?_
  rw [map_dT1, running _ _ (by simp; omega)]
  simp [wipeD]
  refine W_lcMap1 c dT (fun x => .int x.2) _ (by simp [big]; omega) (fun x hx => ⟨_, rfl, by simp [dT]⟩) ?_
  rw [map_dT2, running _ _ (by simp; omega)]
  simp
  exact z
def dMem (t : Tk) : D := .obj "Member" [("name", .str t.name), ("rank", .int t.rank), ("schedule", dSch t.pre t.cyc)]
@[simp] theorem pure_dMem (t : Tk) : (dMem t).pure = true := by simp [dMem]
@[simp] theorem pureL_dMem (ts : List Tk) : D.pureL (ts.map dMem) = true := pureL_map _ pure_dMem ts
theorem mkMem {a : SA} {e : Env'} {h : OH} {PD : D → OH → Prop} (t : Tk) (lp : t.pre.length ≤ 8) (lc : t.cyc.length ≤ 8) (w : (a e h).W fun ys h1 => ys = [dTk t] ∧ PD (dMem t) h1) : (sMakeP "Member" Sh.Member_init a e h).W PD := by
  refine W_makeP (w.mono fun ys h1 z => ?_)
  obtain ⟨rfl, z⟩ := z
  refine ⟨by simp [pure_dTk], ?_⟩
  unfold Sh.Member_init; rw [W_fn]; unfold Sh.Member_init_b
  simp [dTk]
  refine mkSch t.pre t.cyc lp lc ?_
  simp
  exact z
theorem checked (ts : List Tk) (h : OH) (w : WfHall T30 ts) : pureF Sh.checked_hall [.lst (ts.map dTk)] h = .ok (.lst (ts.map dMem)) h := by
  refine pure_eq h (by simp) (by simp) ?_
  have hl := w.len
  unfold Sh.checked_hall; rw [W_fn]; unfold Sh.checked_hall_b
  simp [wipeD, ishall ts _ w]
  refine W_lcMap1 ts dTk dMem _ (by simp [big]; omega) (fun x hx => ⟨_, rfl, ?_⟩) (by simp)
  simp
  exact mkMem x (w.tk x hx).lp (w.tk x hx).lc (by simp)
theorem checkNo (v : Int) (h : OH) (w : 0 ≤ v) : pureF Sh.check_number [.int v] h = .ok .non h := by
  refine pure_eq h rfl rfl ?_
  unfold Sh.check_number; rw [W_fn]; unfold Sh.check_number_b; simp [w]
end HR
set_option Elab.async false
set_option linter.all false
set_option maxRecDepth 20000
namespace HR
open PySem L2
/-! ### the talks of a schedule, their sums -/
def nth (p c : List (Int × Int)) (i : Nat) : Int × Int := if i < p.length then p.getD i (0, 0) else c.getD ((i - p.length) % c.length) (0, 0)
/-- the sum over the first n talks -/
def acc (f : Int × Int → Int) (p c : List (Int × Int)) : Nat → Int
  | 0 => 0
  | n + 1 => acc f p c n + f (nth p c n)
section
variable {f : Int × Int → Int} {p c : List (Int × Int)}
theorem acc_pre : ∀ {n : Nat}, n ≤ p.length → acc f p c n = ((p.map f).take n).sum
  | 0, _ => rfl
  | n + 1, h => by
    have hn : n < p.length := h
    rw [acc, acc_pre (by omega), sum_take _ n (f p[n]) (by simp [hn])]
    simp [nth, hn]
theorem acc_row (q : Nat) (e : acc f p c (p.length + q * c.length) = (p.map f).sum + q * (c.map f).sum) : ∀ r, r ≤ c.length → acc f p c (p.length + q * c.length + r) = (p.map f).sum + q * (c.map f).sum + ((c.map f).take r).sum
  | 0, _ => by simp [e]
  | r + 1, h => by
    have hr : r < c.length := h
    have ih := acc_row q e r (by omega)
    have em : (p.length + q * c.length + r - p.length) % c.length = r := by
      rw [show p.length + q * c.length + r - p.length = r + c.length * q from by rw [Nat.mul_comm]; omega, Nat.add_mul_mod_self_left, Nat.mod_eq_of_lt hr]
    have en : nth p c (p.length + q * c.length + r) = c[r] := by
      have : ¬ (p.length + q * c.length + r < p.length) := by omega
      simp only [nth, if_neg this, em]
      simp [hr]
    rw [← Nat.add_assoc, acc, ih, en, sum_take _ r (f c[r]) (by simp [hr])]
    omega
theorem acc_rows : ∀ q : Nat, acc f p c (p.length + q * c.length) = (p.map f).sum + q * (c.map f).sum
  | 0 => by
    rw [Nat.zero_mul, Nat.add_zero, acc_pre (Nat.le_refl _), List.take_of_length_le (by simp)]
    simp
  | q + 1 => by
    have e := acc_row q (acc_rows q) c.length (Nat.le_refl _)
    rw [List.take_of_length_le (by simp)] at e
    rw [Nat.add_mul, Nat.one_mul, ← Nat.add_assoc, e]
    push_cast
    rw [Int.add_mul]
    omega
theorem acc_cyc (q r : Nat) (h : r ≤ c.length) : acc f p c (p.length + q * c.length + r) = (p.map f).sum + q * (c.map f).sum + ((c.map f).take r).sum := acc_row q (acc_rows q) r h
/-- each talk's part is at least 1 -/
def Pos1 (f : Int × Int → Int) (p c : List (Int × Int)) : Prop := 1 ≤ c.length ∧ (∀ x ∈ p, 1 ≤ f x) ∧ ∀ x ∈ c, 1 ≤ f x
theorem nth_mem (hc : 1 ≤ c.length) (n : Nat) : nth p c n ∈ p ∨ nth p c n ∈ c := by
  unfold nth
  by_cases h : n < p.length
  · rw [if_pos h]; left; simp [h]
  · rw [if_neg h]; right
    have : (n - p.length) % c.length < c.length := Nat.mod_lt _ hc
    simp [this]
theorem nth_pos (h : Pos1 f p c) (n : Nat) : 1 ≤ f (nth p c n) := by
  rcases nth_mem (p := p) h.1 n with m | m
  · exact h.2.1 _ m
  · exact h.2.2 _ m
theorem acc_lt (h : Pos1 f p c) {a : Nat} : ∀ {b : Nat}, a < b → acc f p c a + (b - a : Nat) ≤ acc f p c b
  | 0, h0 => absurd h0 (Nat.not_lt_zero _)
  | b + 1, h0 => by
    have := nth_pos h b
    rcases Nat.lt_or_ge a b with h1 | h1
    · have := acc_lt h h1
      rw [acc]; omega
    · have : a = b := by omega
      subst this
      rw [acc]; omega
theorem acc_ge (h : Pos1 f p c) (n : Nat) : (n : Int) ≤ acc f p c n := by
  rcases Nat.eq_zero_or_pos n with h0 | h0
  · subst h0; exact Int.le_refl _
  · have := acc_lt h h0
    have e : acc f p c 0 = 0 := rfl
    omega
theorem acc_inj (h : Pos1 f p c) {a b : Nat} {q : Int} (a1 : acc f p c a ≤ q) (a2 : q < acc f p c (a + 1)) (b1 : acc f p c b ≤ q) (b2 : q < acc f p c (b + 1)) : a = b := by
  rcases Nat.lt_trichotomy a b with l | l | l
  · exfalso
    rcases Nat.lt_or_ge (a + 1) b with m | m
    · have := acc_lt h m; omega
    · have : a + 1 = b := by omega
      subst this; omega
  · exact l
  · exfalso
    rcases Nat.lt_or_ge (b + 1) a with m | m
    · have := acc_lt h m; omega
    · have : b + 1 = a := by omega
      subst this; omega
end
/-- how many of s 1, .., s m are at most q -/
theorem count_at (s : Nat → Int) (q : Int) (h0 : s 0 ≤ q) (m : Nat) (mono : ∀ a b, a < b → b ≤ m → s a < s b) : ∀ k, k ≤ m → s (((List.range k).filter fun j => decide (s (j + 1) ≤ q)).length) ≤ q ∧ ((List.range k).filter fun j => decide (s (j + 1) ≤ q)).length ≤ k ∧ (((List.range k).filter fun j => decide (s (j + 1) ≤ q)).length < k → q < s (((List.range k).filter fun j => decide (s (j + 1) ≤ q)).length + 1))
  | 0, _ => ⟨h0, Nat.le_refl _, fun z => absurd z (Nat.not_lt_zero _)⟩
  | k + 1, hk => by
    obtain ⟨i1, i2, i3⟩ := count_at s q h0 m mono k (by omega)
    rw [List.range_succ, List.filter_append, List.length_append]
    generalize ((List.range k).filter fun j => decide (s (j + 1) ≤ q)).length = n at i1 i2 i3 ⊢
    by_cases h : s (k + 1) ≤ q
    · have e : n = k := by
        rcases Nat.lt_or_ge n k with l | l
        · have := i3 l
          have := mono (n + 1) (k + 1) (by omega) hk
          omega
        · omega
      subst e
      simp [h]
    · simp [h]
      refine ⟨i1, by omega, fun l => ?_⟩
      rcases Nat.lt_or_ge n k with l2 | l2
      · exact i3 l2
      · have : n = k := by omega
        subst this; omega
end HR
set_option Elab.async false
set_option linter.all false
set_option maxRecDepth 20000
namespace HR
open PySem L2
section
variable {p c : List (Int × Int)}
theorem atI_nat' {α : Type} (xs : List α) (n : Nat) : atI xs (n : Int) = xs[n]? := by
  by_cases h : n < xs.length
  · rw [atI_z (by omega) (by omega), Int.toNat_natCast]
  · have : ¬ ((n : Int) < xs.length) := by omega
    simp [atI, ixN, this, List.getElem?_eq_none (Nat.le_of_not_lt h)]
theorem atI_m1 (l : List Int) : atI ((sums l).map D.int) (-1) = some (.int l.sum) := by rw [sums_D, L2.atI_last]
theorem sumsD_at {l : List Int} {k : Nat} (h : k ≤ l.length) : atI ((sums l).map D.int) (k : Int) = some (.int (l.take k).sum) := by rw [atI_nat', List.getElem?_map, sums_at h]; rfl
theorem nthTalk (n : Nat) (h : OH) (hc : 1 ≤ c.length) (hc2 : c.length ≤ 8) : pureF Sh.Schedule_nth_talk [dSch p c, .int n] h = .ok (dT (nth p c n)) h := by
  refine pure_eq h (by simp) (pure_dT _) ?_
  unfold Sh.Schedule_nth_talk; rw [W_fn]; unfold Sh.Schedule_nth_talk_b
  simp [dSch, List.lookup]
  by_cases hn : n < p.length
  · simp [hn, atI_nat', nth]
  · have hc0 : 0 < c.length := hc
    have e : ((n : Int) - p.length) % c.length = (((n - p.length) % c.length : Nat) : Int) := by
      rw [show (n : Int) - p.length = ((n - p.length : Nat) : Int) from by omega]; rfl
    have hm : (n - p.length) % c.length < c.length := Nat.mod_lt _ hc0
    have hx : nth p c n = c.getD ((n - p.length) % c.length) (0, 0) := by simp only [nth, if_neg hn]
    generalize (n - p.length) % c.length = r at e hm hx
    simp [hn, hc0, e, atI_nat', hx, hm]
/-- the two lists of sums -/
def dSums (f : Int × Int → Int) (l : List (Int × Int)) : D := .lst ((sums (l.map f)).map D.int)
theorem sumFirst (f : Int × Int → Int) (n : Nat) (h : OH) (hc : 1 ≤ c.length) (hc2 : c.length ≤ 8) (hn : Small n) (hs : Small (c.map f).sum) : pureF Sh.Schedule_sum_of_first [dSch p c, .int n, dSums f p, dSums f c] h = .ok (.int (acc f p c n)) h := by
  refine pure_eq h (by simp [dSums]) rfl ?_
  unfold Sh.Schedule_sum_of_first; rw [W_fn]; unfold Sh.Schedule_sum_of_first_b
  simp [dSch, List.lookup, dSums]
  by_cases hp : n ≤ p.length
  · simp [hp, sumsD_at (l := p.map f) (k := n) (by simpa using hp), acc_pre hp]
  · have hd : divOk ((n : Int) - p.length) c.length = true := divOk_small (small_64 (by omega)) (by omega)
    have hk : (n : Int) - p.length = ((n - p.length : Nat) : Int) := by omega
    have e1 : ((n : Int) - p.length) / c.length = (((n - p.length) / c.length : Nat) : Int) := by rw [hk]; rfl
    have e2 : ((n : Int) - p.length) % c.length = (((n - p.length) % c.length : Nat) : Int) := by rw [hk]; rfl
    have hm : (n - p.length) % c.length < c.length := Nat.mod_lt _ hc
    have hsm : Small (((n - p.length) / c.length : Nat) : Int) := by
      have : (n - p.length) / c.length ≤ n := Nat.le_trans (Nat.div_le_self _ _) (Nat.sub_le _ _)
      have hn' : n < 2 ^ 4000 := hn
      show (((n - p.length) / c.length : Nat) : Int).natAbs < 2 ^ 4000
      rw [Int.natAbs_natCast]
      exact Nat.lt_of_le_of_lt this hn'
    have ea := acc_cyc (f := f) (p := p) (c := c) ((n - p.length) / c.length) ((n - p.length) % c.length) (by omega)
    have en : p.length + (n - p.length) / c.length * c.length + (n - p.length) % c.length = n := by
      have := Nat.div_add_mod (n - p.length) c.length
      rw [Nat.mul_comm] at this
      omega
    rw [en] at ea
    have ml := mulOk_small hsm hs
    generalize (n - p.length) % c.length = r at e2 hm ea
    generalize (n - p.length) / c.length = u at e1 hsm ea ml
    simp [hp, hd, gT, gCs, gN, gNl, seqAt, atI_m1, e1, e2, ml, sumsD_at (l := c.map f) (k := r) (by simp; omega), ea]
end
end HR
set_option Elab.async false
set_option linter.all false
set_option maxRecDepth 20000
namespace HR
open PySem L2
section
variable {p c : List (Int × Int)}
def schFs (p c : List (Int × Int)) : List (String × D) := [("prefix", .lst (p.map dT)), ("cycle", .lst (c.map dT)), ("prefix_silences", dSums (·.1) p), ("prefix_lengths", dSums (·.2) p), ("cycle_silences", dSums (·.1) c), ("cycle_lengths", dSums (·.2) c)]
@[simp] theorem ins_dSch (h : OH) : insAt h (dSch p c) = some ("Schedule", schFs p c) := rfl
@[simp] theorem fs_1 : (schFs p c).lookup "prefix" = some (.lst (p.map dT)) := rfl
@[simp] theorem fs_2 : (schFs p c).lookup "cycle" = some (.lst (c.map dT)) := rfl
@[simp] theorem fs_3 : (schFs p c).lookup "prefix_silences" = some (dSums (·.1) p) := rfl
@[simp] theorem fs_4 : (schFs p c).lookup "prefix_lengths" = some (dSums (·.2) p) := rfl
@[simp] theorem fs_5 : (schFs p c).lookup "cycle_silences" = some (dSums (·.1) c) := rfl
@[simp] theorem fs_6 : (schFs p c).lookup "cycle_lengths" = some (dSums (·.2) c) := rfl
@[simp] theorem fs_m1 : hasNo (schFs p c) "sum_of_first" = True := eq_true rfl
@[simp] theorem fs_m2 : hasNo (schFs p c) "nth_ready" = True := eq_true rfl
@[simp] theorem fs_m3 : hasNo (schFs p c) "nth_talk" = True := eq_true rfl
@[simp] theorem fs_m4 : hasNo (schFs p c) "count_ready" = True := eq_true rfl
@[simp] theorem fs_m5 : hasNo (schFs p c) "length_ready" = True := eq_true rfl
theorem nthReady (n : Nat) (h : OH) (hc : 1 ≤ c.length) (hc2 : c.length ≤ 8) (hn : Small ((n : Int) + 1)) (hs : Small (c.map (·.1)).sum) : pureF Sh.Schedule_nth_ready [dSch p c, .int n] h = .ok (.int (acc (·.1) p c (n + 1))) h := by
  refine pure_eq h (by simp) rfl ?_
  unfold Sh.Schedule_nth_ready; rw [W_fn]; unfold Sh.Schedule_nth_ready_b
  have e := sumFirst (p := p) (c := c) (·.1) (n + 1) [] hc hc2 (by simpa using hn) hs
  rw [show ((n + 1 : Nat) : Int) = (n : Int) + 1 from by simp] at e
  simp [e]
theorem drop_sums (l : List Int) : ((sums l).map D.int).drop 1 = (List.range l.length).map fun j => D.int (l.take (j + 1)).sum := by
  simp [sums, List.range_succ_eq_map, List.map_drop]
theorem sum_sub {l : List Int} (hl : ∀ x ∈ l, 1 ≤ x) {a : Nat} : ∀ {b : Nat}, a < b → b ≤ l.length → (l.take a).sum < (l.take b).sum
  | 0, h0, _ => absurd h0 (Nat.not_lt_zero _)
  | b + 1, h0, hb => by
    have hb' : b < l.length := hb
    have e := sum_take l b l[b] (by simp [hb'])
    have := hl _ (List.getElem_mem hb')
    rcases Nat.lt_or_ge a b with h1 | h1
    · have := sum_sub hl h1 (by omega)
      omega
    · have : a = b := by omega
      subst this
      omega
theorem countReady (q : Int) (h : OH) (w : Pos1 (·.1) p c) (hp2 : p.length ≤ 8) (hc2 : c.length ≤ 8) (hq : 0 ≤ q) (hs : Small (c.map (·.1)).sum) :
    ∃ n : Nat, (∀ h, pureF Sh.Schedule_count_ready [dSch p c, .int q] h = .ok (.int n) h) ∧ acc (·.1) p c n ≤ q ∧ q < acc (·.1) p c (n + 1) := by
  have hc := w.1
  have P1 : ∀ x ∈ p.map (·.1), (1 : Int) ≤ x := by simpa using w.2.1
  have C1 : ∀ x ∈ c.map (·.1), (1 : Int) ≤ x := by simpa using w.2.2
  have aP : acc (·.1) p c p.length = (p.map (·.1)).sum := by
    rw [acc_pre (Nat.le_refl _), List.take_of_length_le (by simp)]
  by_cases hlt : q < (p.map (·.1)).sum
  · have k := count_at (fun j => ((p.map (·.1)).take j).sum) q (by simpa using hq) p.length (fun a b l1 l2 => sum_sub P1 l1 (by simpa using l2)) p.length (Nat.le_refl _)
    generalize hn : ((List.range p.length).filter fun j => decide (((p.map (·.1)).take (j + 1)).sum ≤ q)).length = n at k
    obtain ⟨k1, k2, k3⟩ := k
    have nl : n < p.length := by
      rcases Nat.lt_or_ge n p.length with l | l
      · exact l
      · exfalso
        have : n = p.length := by omega
        subst this
        rw [List.take_of_length_le (by simp)] at k1
        omega
    refine ⟨n, fun h => ?_, by rw [acc_pre (by omega)]; exact k1, by rw [acc_pre (by omega)]; exact k3 nl⟩
    refine pure_eq h (by simp) rfl ?_
    unfold Sh.Schedule_count_ready; rw [W_fn]; unfold Sh.Schedule_count_ready_b
    simp [dSums, atI_m1, hlt, wipeD, cutD_drop]
    rw [← List.drop_one, drop_sums]
    refine W_lcMap (List.range (p.map (·.1)).length) (fun j => D.int ((p.map (·.1)).take (j + 1)).sum) (fun j => decide (((p.map (·.1)).take (j + 1)).sum ≤ q)) (fun j => D.int ((p.map (·.1)).take (j + 1)).sum) _ (by simp [big]; omega) (fun x hx => ⟨_, rfl, by simp⟩) ?_
    simp
    simpa using congrArg (fun z : Nat => (z : Int)) hn
  · have hC : 0 < (c.map (·.1)).sum := by
      have := sum_sub C1 (a := 0) (b := c.length) hc (by simp)
      rw [show (c.map (·.1)).take c.length = c.map (·.1) from List.take_of_length_le (by simp)] at this
      simpa using this
    obtain ⟨u, hu⟩ : ∃ u : Nat, (q - (p.map (·.1)).sum) / (c.map (·.1)).sum = u := ⟨_, (Int.toNat_of_nonneg (Int.ediv_nonneg (by omega) (by omega))).symm⟩
    obtain ⟨r, hr⟩ : ∃ r : Int, (q - (p.map (·.1)).sum) % (c.map (·.1)).sum = r := ⟨_, rfl⟩
    have r0 : 0 ≤ r := by rw [← hr]; exact Int.emod_nonneg _ (by omega)
    have r1 : r < (c.map (·.1)).sum := by rw [← hr]; exact Int.emod_lt_of_pos _ hC
    have er : q = (p.map (·.1)).sum + u * (c.map (·.1)).sum + r := by
      have := Int.mul_ediv_add_emod (q - (p.map (·.1)).sum) (c.map (·.1)).sum
      rw [hu, hr, Int.mul_comm] at this
      omega
    have k := count_at (fun j => ((c.map (·.1)).take j).sum) r (by simpa using r0) c.length (fun a b l1 l2 => sum_sub C1 l1 (by simpa using l2)) c.length (Nat.le_refl _)
    generalize hn : ((List.range c.length).filter fun j => decide (((c.map (·.1)).take (j + 1)).sum ≤ r)).length = n at k
    obtain ⟨k1, k2, k3⟩ := k
    have nl : n < c.length := by
      rcases Nat.lt_or_ge n c.length with l | l
      · exact l
      · exfalso
        have : n = c.length := by omega
        subst this
        rw [List.take_of_length_le (by simp)] at k1
        omega
    have a1 := acc_cyc (f := (·.1)) (p := p) (c := c) u n (by omega)
    have a2 := acc_cyc (f := (·.1)) (p := p) (c := c) u (n + 1) (by omega)
    have k3' := k3 nl
    refine ⟨p.length + u * c.length + n, fun h => ?_, by omega, by rw [Nat.add_assoc]; omega⟩
    refine pure_eq h (by simp) rfl ?_
    have hd : divOk (q - (p.map (·.1)).sum) (c.map (·.1)).sum = true := divOk_small hs hC
    have ml : mulOk (u : Int) (c.length : Int) = true := mulOk_r (by omega)
    unfold Sh.Schedule_count_ready; rw [W_fn]; unfold Sh.Schedule_count_ready_b
    simp [dSums, atI_m1, hlt, wipeD, cutD_drop, hd, gT, gCs, gN, gNl, seqAt, hu, hr, ml]
    rw [← List.drop_one, drop_sums]
    refine W_lcMap (List.range (c.map (·.1)).length) (fun j => D.int ((c.map (·.1)).take (j + 1)).sum) (fun j => decide (((c.map (·.1)).take (j + 1)).sum ≤ r)) (fun j => D.int ((c.map (·.1)).take (j + 1)).sum) _ (by simp [big]; omega) (fun x hx => ⟨_, rfl, by simp⟩) ?_
    simp
    simpa using congrArg (fun z : Nat => (z : Int)) hn
theorem lengthReady (q : Int) (n : Nat) (h : OH) (hc : 1 ≤ c.length) (hc2 : c.length ≤ 8) (hn : Small n) (hs : Small (c.map (·.2)).sum) (e : ∀ h, pureF Sh.Schedule_count_ready [dSch p c, .int q] h = .ok (.int n) h) : pureF Sh.Schedule_length_ready [dSch p c, .int q] h = .ok (.int (acc (·.2) p c n)) h := by
  refine pure_eq h (by simp) rfl ?_
  unfold Sh.Schedule_length_ready; rw [W_fn]; unfold Sh.Schedule_length_ready_b
  simp [e, sumFirst (p := p) (c := c) (·.2) n [] hc hc2 hn hs]
end
theorem sum_le {l : List Int} {m : Int} (hm : 0 ≤ m) : (∀ x ∈ l, x ≤ m) → l.sum ≤ l.length * m := by
  induction l with
  | nil => intro _; simp
  | cons x r ih =>
    intro hl
    have a := hl x List.mem_cons_self
    have b := ih fun y hy => hl y (List.mem_cons_of_mem _ hy)
    rw [List.sum_cons, List.length_cons]
    push_cast
    rw [Int.add_mul]
    omega
theorem sum_ge {l : List Int} : (∀ x ∈ l, 1 ≤ x) → (0 : Int) ≤ l.sum := by
  induction l with
  | nil => intro _; simp
  | cons x r ih =>
    intro hl
    have a := hl x List.mem_cons_self
    have b := ih fun y hy => hl y (List.mem_cons_of_mem _ hy)
    rw [List.sum_cons]
    omega
theorem WfTk.pos1 {m : Int} {t : Tk} (w : WfTk m t) : Pos1 (·.1) t.pre t.cyc := ⟨w.lc1, fun x hx => (w.pre x hx).1, fun x hx => (w.cyc x hx).1⟩
theorem WfTk.pos2 {m : Int} {t : Tk} (w : WfTk m t) : Pos1 (·.2) t.pre t.cyc := ⟨w.lc1, fun x hx => (w.pre x hx).2.2.1, fun x hx => (w.cyc x hx).2.2.1⟩
theorem WfTk.s1 {t : Tk} (w : WfTk T30 t) : Small (t.cyc.map (·.1)).sum := by
  have a := sum_ge (l := t.cyc.map (·.1)) (by simpa using fun a b hx => (w.cyc (a, b) hx).1)
  have b := sum_le (l := t.cyc.map (·.1)) (m := T30) (by decide) (by simpa using fun a b hx => (w.cyc (a, b) hx).2.1)
  have c := w.lc
  rw [List.length_map] at b
  exact small_lt 200 a (by simp only [T30] at b; omega)
theorem WfTk.s2 {t : Tk} (w : WfTk T30 t) : Small (t.cyc.map (·.2)).sum := by
  have a := sum_ge (l := t.cyc.map (·.2)) (by simpa using fun a b hx => (w.cyc (b, a) hx).2.2.1)
  have b := sum_le (l := t.cyc.map (·.2)) (m := T30) (by decide) (by simpa using fun a b hx => (w.cyc (b, a) hx).2.2.2)
  have c := w.lc
  rw [List.length_map] at b
  exact small_lt 200 a (by simp only [T30] at b; omega)
theorem WfTk.nth1 {m : Int} {t : Tk} (w : WfTk m t) (n : Nat) : In1 m (nth t.pre t.cyc n) := by
  rcases nth_mem (p := t.pre) w.lc1 n with h | h
  · exact w.pre _ h
  · exact w.cyc _ h
theorem WfTk.acc_le {m : Int} {t : Tk} (w : WfTk m t) (f : Int × Int → Int) (hf : ∀ x, In1 m x → f x ≤ m) : ∀ n : Nat, acc f t.pre t.cyc n ≤ n * m
  | 0 => by simp [acc]
  | n + 1 => by
    have a := hf _ (w.nth1 n)
    have b := w.acc_le f hf n
    rw [acc]
    push_cast
    rw [Int.add_mul]
    omega
end HR
set_option Elab.async false
set_option linter.all false
set_option maxRecDepth 20000
namespace HR
open PySem L2
theorem memberOf (ts : List Tk) (t : Tk) (h : OH) (w : WfHall T30 ts) (ht : t ∈ ts) : pureF Sh.member_of [.lst (ts.map dMem), .str t.name] h = .ok (dMem t) h := by
  refine pure_eq h (by simp) (by simp) ?_
  have hl := w.len
  have ok : ∀ x ∈ ts, PyData.strOk x.name = true := fun x hx => by
    have e : ∀ c ∈ ("abcdefghijklmnopqrstuvwxyz" : Str).cps.toList, c < 0x110000 := by decide +kernel
    simp only [PyData.strOk, Array.all_eq_true_iff_forall_mem, decide_eq_true_eq]
    exact fun c hc => e c ((w.tk x hx).name.2.2 c (Array.mem_toList_iff.mpr hc))
  have one : ts.filter (fun x => x.name == t.name) = [t] := by
    have nd := w.nd
    clear w hl ok h
    induction ts with
    | nil => simp at ht
    | cons y r ih =>
      simp only [List.map_cons, List.nodup_cons, List.mem_map, not_exists, not_and] at nd
      rcases List.mem_cons.mp ht with rfl | ht
      · rw [List.filter_cons_of_pos (by simp)]
        congr 1
        refine List.filter_eq_nil_iff.mpr fun z hz => ?_
        simpa using nd.1 z hz
      · rw [List.filter_cons_of_neg (by simpa using fun e => nd.1 t ht e.symm)]
        exact ih ht nd.2
  unfold Sh.member_of; rw [W_fn]; unfold Sh.member_of_b
  simp [wipeD]
  refine W_lcMap ts dMem (fun x => x.name == t.name) dMem _ (by simp [big]; omega) (fun x hx => ⟨_, rfl, ?_⟩) ?_
  · simp [dMem, W_eqS, ok x hx, ok t ht]
  · rw [one]; simp
/-! ### the functions of the program -/
end HR
set_option Elab.async false
set_option linter.all false
set_option maxRecDepth 20000
namespace HR
open PySem L2
/-! ### inverse of a growing function: the plain law -/
/-- g l: the least q with l ≤ f q -/
def Gal (f g : Nat → Nat) : Prop := ∀ q l, l ≤ f q ↔ g l ≤ q
def Inc (f : Nat → Nat) : Prop := ∀ q, f q < f (q + 1)
section
variable {f g f' g' : Nat → Nat}
theorem Inc.lt (i : Inc f) {a : Nat} : ∀ {b : Nat}, a < b → f a < f b
  | 0, h => absurd h (Nat.not_lt_zero _)
  | b + 1, h => by
    rcases Nat.lt_or_ge a b with h1 | h1
    · exact Nat.lt_trans (i.lt h1) (i b)
    · have : a = b := by omega
      subst this; exact i a
theorem Inc.le (i : Inc f) {a b : Nat} (h : a ≤ b) : f a ≤ f b := by
  rcases Nat.lt_or_ge a b with h1 | h1
  · exact Nat.le_of_lt (i.lt h1)
  · have : a = b := by omega
    subst this; exact Nat.le_refl _
theorem Inc.ge (i : Inc f) : ∀ q, q ≤ f q
  | 0 => Nat.zero_le _
  | q + 1 => Nat.lt_of_le_of_lt (i.ge q) (i q)
theorem Inc.comp (i : Inc f) (j : Inc f') : Inc fun q => f (f' q) := fun q => i.lt (j q)
theorem Gal.comp (a : Gal f g) (b : Gal f' g') : Gal (fun q => f (f' q)) fun l => g' (g l) := fun q l => (a (f' q) l).trans (b q (g l))
theorem Gal.inv (a : Gal f g) (i : Inc f) (q : Nat) : g (f q) = q := by
  refine Nat.le_antisymm ((a q (f q)).mp (Nat.le_refl _)) ?_
  have h := (a (g (f q)) (f q)).mpr (Nat.le_refl _)
  rcases Nat.lt_or_ge (g (f q)) q with l | l
  · have := i.lt l; omega
  · exact l
theorem Gal.le (a : Gal f g) (l : Nat) : l ≤ f (g l) := (a (g l) l).mpr (Nat.le_refl _)
theorem Gal.lt (a : Gal f g) {q l : Nat} (h : q < g l) : f q < l := by
  rcases Nat.lt_or_ge (f q) l with k | k
  · exact k
  · have := (a q l).mp k; omega
theorem Gal.small (a : Gal f g) (i : Inc f) (l : Nat) : g l ≤ l := (a l l).mp (i.ge l)
/-- the inverse -/
def inv (f : Nat → Nat) : Nat → Nat
  | 0 => 0
  | l + 1 => if l + 1 ≤ f (inv f l) then inv f l else inv f l + 1
theorem inv_gal (i : Inc f) : Gal f (inv f) := by
  have key : ∀ l, l ≤ f (inv f l) ∧ ∀ q, q < inv f l → f q < l := by
    intro l
    induction l with
    | zero => exact ⟨Nat.zero_le _, fun q h => absurd h (Nat.not_lt_zero _)⟩
    | succ l ih =>
      unfold inv
      by_cases h : l + 1 ≤ f (inv f l)
      · rw [if_pos h]
        exact ⟨h, fun q hq => by have := ih.2 q hq; omega⟩
      · rw [if_neg h]
        have := i (inv f l)
        refine ⟨by omega, fun q hq => ?_⟩
        rcases Nat.lt_or_ge q (inv f l) with l1 | l1
        · have := ih.2 q l1; omega
        · have : q = inv f l := by omega
          subst this; omega
  intro q l
  obtain ⟨k1, k2⟩ := key l
  constructor
  · intro h
    rcases Nat.lt_or_ge q (inv f l) with l1 | l1
    · have := k2 q l1; omega
    · exact l1
  · intro h
    exact Nat.le_trans k1 (i.le h)
end
/-! ### how many talks are ready, how long they are -/
section
variable {p c : List (Int × Int)}
def cnt (p c : List (Int × Int)) : Nat → Nat
  | 0 => 0
  | q + 1 => if acc (·.1) p c (cnt p c q + 1) ≤ ((q + 1 : Nat) : Int) then cnt p c q + 1 else cnt p c q
theorem cnt_at (w : Pos1 (·.1) p c) : ∀ q : Nat, acc (·.1) p c (cnt p c q) ≤ q ∧ (q : Int) < acc (·.1) p c (cnt p c q + 1)
  | 0 => by
    have := nth_pos w 0
    refine ⟨by simp [cnt, acc], ?_⟩
    simp only [cnt, acc]
    omega
  | q + 1 => by
    obtain ⟨a, b⟩ := cnt_at w q
    unfold cnt
    by_cases h : acc (·.1) p c (cnt p c q + 1) ≤ ((q + 1 : Nat) : Int)
    · rw [if_pos h]
      refine ⟨h, ?_⟩
      have := nth_pos w (cnt p c q + 1)
      have d : acc (·.1) p c (cnt p c q + 1 + 1) = acc (·.1) p c (cnt p c q + 1) + (nth p c (cnt p c q + 1)).1 := rfl
      omega
    · rw [if_neg h]
      exact ⟨by omega, by omega⟩
theorem cnt_le (w : Pos1 (·.1) p c) (q : Nat) : cnt p c q ≤ q := by
  have a := (cnt_at w q).1
  have b := acc_ge w (cnt p c q)
  omega
theorem cnt_mono (q : Nat) : cnt p c q ≤ cnt p c (q + 1) ∧ cnt p c (q + 1) ≤ cnt p c q + 1 := by
  rw [cnt]; split <;> omega
/-- ticks of the talks that are ready at q -/
def len2 (p c : List (Int × Int)) (q : Nat) : Nat := (acc (·.2) p c (cnt p c q)).toNat
theorem len2_z (w : Pos1 (·.2) p c) (q : Nat) : (len2 p c q : Int) = acc (·.2) p c (cnt p c q) := Int.toNat_of_nonneg (by have := acc_ge w (cnt p c q); omega)
theorem acc_mono {f : Int × Int → Int} (w : Pos1 f p c) {a b : Nat} (h : a ≤ b) : acc f p c a ≤ acc f p c b := by
  rcases Nat.lt_or_ge a b with l | l
  · have := acc_lt w l; omega
  · have : a = b := by omega
    subst this; exact Int.le_refl _
theorem len2_mono (w : Pos1 (·.2) p c) (q : Nat) : len2 p c q ≤ len2 p c (q + 1) := by
  have a := len2_z w q
  have b := len2_z w (q + 1)
  have := acc_mono w (cnt_mono (p := p) (c := c) q).1
  omega
end
theorem lenReady {t : Tk} (w : WfTk T30 t) (q : Nat) (hq : Small q) (h : OH) : pureF Sh.Schedule_length_ready [dSch t.pre t.cyc, .int q] h = .ok (.int (len2 t.pre t.cyc q)) h := by
  obtain ⟨n, e, a, b⟩ := countReady (p := t.pre) (c := t.cyc) q [] w.pos1 w.lp w.lc (by omega) w.s1
  have hn : n = cnt t.pre t.cyc q := acc_inj w.pos1 a b (cnt_at w.pos1 q).1 (cnt_at w.pos1 q).2
  subst hn
  rw [len2_z w.pos2]
  refine lengthReady (p := t.pre) (c := t.cyc) q _ h w.lc1 w.lc ?_ w.s2 e
  have := cnt_le w.pos1 q
  have hq' : q < 2 ^ 4000 := hq
  exact Nat.lt_of_le_of_lt this hq'
/-! ### the clocks -/
def LL (ts : List Tk) (r q : Nat) : Nat := ((ts.filter fun t => t.rank == (r : Int)).map fun t => len2 t.pre t.cyc q).sum
def LI (ts : List Tk) (r q : Nat) : Nat := q + LL ts r q
theorem LL_mono {ts : List Tk} (w : ∀ t ∈ ts, WfTk T30 t) (r q : Nat) : LL ts r q ≤ LL ts r (q + 1) := by
  unfold LL
  induction ts with
  | nil => exact Nat.le_refl _
  | cons t ts ih =>
    have i := ih fun x hx => w x (List.mem_cons_of_mem _ hx)
    have m := len2_mono (w t List.mem_cons_self).pos2 q
    by_cases h : (t.rank == (r : Int)) = true
    · simp only [List.filter_cons_of_pos (p := fun t : Tk => t.rank == (r : Int)) h, List.map_cons, List.sum_cons]; omega
    · simp only [List.filter_cons_of_neg (p := fun t : Tk => t.rank == (r : Int)) h]; exact i
theorem LI_inc {ts : List Tk} (w : ∀ t ∈ ts, WfTk T30 t) (r : Nat) : Inc (LI ts r) := fun q => by
  have := LL_mono w r q
  unfold LI; omega
theorem len2_le {t : Tk} (w : WfTk T30 t) (q : Nat) : len2 t.pre t.cyc q ≤ q * 2 ^ 100 := by
  have a := len2_z w.pos2 q
  have b := w.acc_le (·.2) (fun x hx => hx.2.2.2) (cnt t.pre t.cyc q)
  have c := cnt_le w.pos1 q
  have d : ((cnt t.pre t.cyc q : Nat) : Int) * T30 ≤ (q : Int) * T30 := Int.mul_le_mul_of_nonneg_right (by omega) (by decide)
  have e : (len2 t.pre t.cyc q : Int) ≤ (q : Int) * T30 := by omega
  simp only [show (2 : Nat) ^ 100 = 1267650600228229401496703205376 from by decide]
  simp only [T30] at e
  omega
theorem LL_le {ts : List Tk} (w : ∀ t ∈ ts, WfTk T30 t) (r q : Nat) : LL ts r q ≤ ts.length * (q * 2 ^ 100) := by
  unfold LL
  induction ts with
  | nil => simp
  | cons t ts ih =>
    have i := ih fun x hx => w x (List.mem_cons_of_mem _ hx)
    have m := len2_le (w t List.mem_cons_self) q
    rw [List.length_cons, Nat.add_mul, Nat.one_mul]
    generalize q * 2 ^ 100 = z at i m ⊢
    by_cases h : (t.rank == (r : Int)) = true
    · simp only [List.filter_cons_of_pos (p := fun t : Tk => t.rank == (r : Int)) h, List.map_cons, List.sum_cons]; omega
    · simp only [List.filter_cons_of_neg (p := fun t : Tk => t.rank == (r : Int)) h]; omega
theorem LI_le {ts : List Tk} (w : WfHall T30 ts) (r : Nat) {q k : Nat} (h : q < 2 ^ k) : LI ts r q < 2 ^ (k + 105) := by
  have a := LL_le w.tk r q
  have b := w.len
  have c : ts.length * (q * 2 ^ 100) ≤ 10 * (q * 2 ^ 100) := Nat.mul_le_mul_right _ b
  have e : (2 : Nat) ^ (k + 105) = 2 ^ k * 2 ^ 105 := Nat.pow_add ..
  have d : 2 ^ k * 2 ^ 105 ≥ (q + 1) * 2 ^ 105 := Nat.mul_le_mul_right _ h
  unfold LI
  rw [e]
  simp only [show (2 : Nat) ^ 100 = 1267650600228229401496703205376 from by decide, show (2 : Nat) ^ 105 = 40564819207303340847894502572032 from by decide] at *
  omega
end HR
set_option Elab.async false
set_option linter.all false
set_option maxRecDepth 20000
namespace HR
open PySem L2
/-! ### the clocks: what the functions of the program compute -/
def memFs (t : Tk) : List (String × D) := [("name", .str t.name), ("rank", .int t.rank), ("schedule", dSch t.pre t.cyc)]
@[simp] theorem ins_dMem (t : Tk) (h : OH) : insAt h (dMem t) = some ("Member", memFs t) := rfl
@[simp] theorem mem_1 (t : Tk) : (memFs t).lookup "name" = some (.str t.name) := rfl
@[simp] theorem mem_2 (t : Tk) : (memFs t).lookup "rank" = some (.int t.rank) := rfl
@[simp] theorem mem_3 (t : Tk) : (memFs t).lookup "schedule" = some (dSch t.pre t.cyc) := rfl
theorem ints_mapF {ξ : Type} (f : ξ → Int) : ∀ l : List ξ, intsOf (l.map fun x => .int (f x)) = some (l.map f)
  | [] => rfl
  | x :: l => by simp [intsOf, ints_mapF f l]
theorem sum_cast {ξ : Type} (f : ξ → Nat) : ∀ l : List ξ, (l.map fun x => ((f x : Nat) : Int)).sum = (((l.map f).sum : Nat) : Int)
  | [] => rfl
  | x :: l => by simp [sum_cast f l]
section
variable {ts : List Tk}
theorem rankLength (w : WfHall T30 ts) (r q : Nat) (hq : Small q) (h : OH) : pureF Sh.rank_length [.lst (ts.map dMem), .int r, .int q] h = .ok (.int (LL ts r q)) h := by
  refine pure_eq h (by simp) rfl ?_
  have hl := w.len
  unfold Sh.rank_length; rw [W_fn]; unfold Sh.rank_length_b
  simp [wipeD]
  refine W_lcMap ts dMem (fun t => t.rank == (r : Int)) (fun t => .int (len2 t.pre t.cyc q)) _ (by simp [big]; omega) (fun t ht => ⟨_, rfl, ?_⟩) ?_
  · simp [lenReady (w.tk t ht) q hq]
  · rw [ints_mapF fun t : Tk => ((len2 t.pre t.cyc q : Nat) : Int)]
    simp only [W_sumL, lkS_some, ints_mapF, sum_cast]
    simp [LL, sum_cast, ints_mapF]
theorem leftIndex (w : WfHall T30 ts) (r q : Nat) (hq : Small q) (h : OH) : pureF Sh.left_index [.lst (ts.map dMem), .int r, .int q] h = .ok (.int (LI ts r q)) h := by
  refine pure_eq h (by simp) rfl ?_
  unfold Sh.left_index; rw [W_fn]; unfold Sh.left_index_b
  simp [rankLength w r q hq, LI]
def bits (n : Nat) : Nat := if n = 0 then 0 else n.log2 + 1
theorem bits_half {n m : Nat} (hn : 0 < n) (h : 2 * m ≤ n) : bits m < bits n := by
  unfold bits
  by_cases hm : m = 0
  · have hn' : ¬ n = 0 := by omega
    simp [hm, hn']
  · have hm0 : 0 < m := by omega
    rw [if_neg hm, if_neg (by omega)]
    have a : 2 ^ m.log2 ≤ m := Nat.log2_self_le hm
    have b : n < 2 ^ (n.log2 + 1) := Nat.lt_log2_self
    have c : 2 ^ (m.log2 + 1) ≤ n := by rw [Nat.pow_succ]; omega
    have d : 2 ^ (m.log2 + 1) < 2 ^ (n.log2 + 1) := Nat.lt_of_le_of_lt c b
    have e := (Nat.pow_lt_pow_iff_right (a := 2) (by decide)).mp d
    omega
theorem bits_small {n : Nat} (h : n < 2 ^ 4000) : bits n < 1000000 := by
  unfold bits
  split
  · decide
  · have := log2_small h (by decide)
    omega
theorem small_nat {q k : Nat} (h : q < 2 ^ k) (hk : k ≤ 4000 := by decide) : Small q := small_of (k := k) h hk
theorem quietAmong (w : WfHall T30 ts) (r l : Nat) (hl : l < 2 ^ 4000) (h : OH) : pureF Sh.quiet_among [.lst (ts.map dMem), .int r, .int l] h = .ok (.int (inv (LI ts r) l)) h := by
  refine pure_eq h (by simp) rfl ?_
  have inc := LI_inc w.tk r
  have gal := inv_gal inc
  have top := gal.small inc l
  unfold Sh.quiet_among; rw [W_fn]; unfold Sh.quiet_among_b
  simp [sPar]
  refine W_while (I := fun e h => h = [] ∧ ∃ (lo hi : Nat) (m : Option D), e = [some (.lst (ts.map dMem)), some (.int r), some (.int l), some (.int lo), some (.int hi), m] ∧ lo ≤ inv (LI ts r) l ∧ inv (LI ts r) l ≤ hi ∧ hi ≤ l)
    (fun e _ => match e with
      | [_, _, _, some (.int lo), some (.int hi), _] => bits (hi - lo).toNat
      | _ => 0) ⟨rfl, 0, l, none, rfl, Nat.zero_le _, top, Nat.le_refl _⟩ (by
        dsimp only
        exact bits_small (by omega)) (fun e h hI => ?_)
  obtain ⟨rfl, lo, hi, m, rfl, h1, h2, h3⟩ := hI
  have hd : divOk ((lo : Int) + hi) 2 = true := divOk_small (small_64 (by decide)) (by decide)
  by_cases hlt : (lo : Int) < hi
  · have e1 : ((lo : Int) + hi) / 2 = (((lo + hi) / 2 : Nat) : Int) := by omega
    obtain ⟨mid, hmid⟩ : ∃ mid, mid = (lo + hi) / 2 := ⟨_, rfl⟩
    rw [← hmid] at e1
    simp [hlt, hd, e1, leftIndex w r mid (Nat.lt_of_le_of_lt (show mid ≤ l by omega) hl)]
    by_cases hc : LI ts r mid < l
    · have hc' : mid < inv (LI ts r) l := by
        rcases Nat.lt_or_ge mid (inv (LI ts r) l) with k | k
        · exact k
        · have := (gal mid l).mpr k; omega
      simp [hc]
      refine ⟨⟨mid + 1, hi, ⟨by simp, rfl⟩, by omega, h2, h3⟩, bits_half (by omega) (by omega)⟩
    · have hc' : inv (LI ts r) l ≤ mid := (gal mid l).mp (by omega)
      simp [hc]
      refine ⟨⟨lo, mid, ⟨rfl, rfl⟩, h1, hc', by omega⟩, bits_half (by omega) (by omega)⟩
  · have e : lo = inv (LI ts r) l := by omega
    have hlt' : ¬ lo < hi := by omega
    simp [hlt']
    exact congrArg (fun z : Nat => (z : Int)) e
/-- the i-th tick left for rank k + 1, as a tick -/
def TO (ts : List Tk) : Nat → Nat → Nat
  | 0, q => q
  | k + 1, q => TO ts k (LI ts (k + 1) q)
/-- how many ticks before l are left for rank k + 1 -/
def LB (ts : List Tk) : Nat → Nat → Nat
  | 0, l => l
  | k + 1, l => inv (LI ts (k + 1)) (LB ts k l)
theorem TO_inc (w : ∀ t ∈ ts, WfTk T30 t) : ∀ k, Inc (TO ts k)
  | 0 => fun q => Nat.lt_succ_self q
  | k + 1 => fun q => (TO_inc w k).lt (LI_inc w (k + 1) q)
theorem TO_gal (w : ∀ t ∈ ts, WfTk T30 t) : ∀ k, Gal (TO ts k) (LB ts k)
  | 0 => fun _ _ => Iff.rfl
  | k + 1 => (TO_gal w k).comp (inv_gal (LI_inc w (k + 1)))
theorem LB_le (w : ∀ t ∈ ts, WfTk T30 t) (k l : Nat) : LB ts k l ≤ l := (TO_gal w k).small (TO_inc w k) l
theorem TO_le (w : WfHall T30 ts) : ∀ (k : Nat) {q j : Nat}, q < 2 ^ j → TO ts k q < 2 ^ (j + 105 * k)
  | 0, _, _, h => by simpa [TO] using h
  | k + 1, q, j, h => by
    have a := TO_le w k (LI_le w (k + 1) h)
    rw [show j + 105 * (k + 1) = j + 105 + 105 * k from by omega]
    exact a
theorem leftAmong (w : WfHall T30 ts) (k l : Nat) (hk : k ≤ 10) (hl : l < 2 ^ 4000) (h : OH) : pureF Sh.left_among [.lst (ts.map dMem), .int ((k + 1 : Nat) : Int), .int l] h = .ok (.int (LB ts k l)) h := by
  refine pure_eq h (by simp) rfl ?_
  unfold Sh.left_among; rw [W_fn]; unfold Sh.left_among_b
  have r1 : rngOk 1 = true := by decide
  have r2 : rngOk (k + 1) = true := by simp [rngOk]; omega
  simp [r1, r2]
  refine W_forL (fun j e h' => h' = [] ∧ ∃ c : Option D, e = [some (.lst (ts.map dMem)), some (.int (k + 1)), some (.int l), some (.int (LB ts j l)), c]) _ _ _ ⟨rfl, none, rfl⟩ (fun j d hd e h' hI => ?_) (fun e h' hI => ?_)
  · obtain ⟨rfl, c, rfl⟩ := hI
    obtain ⟨hj, rfl⟩ := rngD_at hd
    refine ⟨_, rfl, ?_⟩
    have e1 : (1 : Int) + (j : Int) = ((j + 1 : Nat) : Int) := by simp; omega
    simp only [e1]
    have e2 := quietAmong w (j + 1) (LB ts j l) (Nat.lt_of_le_of_lt (LB_le w.tk j l) hl)
    generalize ((j + 1 : Nat) : Int) = z at e2 ⊢
    simp [e2, LB]
  · obtain ⟨rfl, c, rfl⟩ := hI
    rw [rngD_len]
    simp
theorem tickOf (w : WfHall T30 ts) (k q : Nat) (hk : k < 10) (hq : q < 2 ^ 1500) (h : OH) : pureF Sh.tick_of [.lst (ts.map dMem), .int ((k + 1 : Nat) : Int), .int q] h = .ok (.int (TO ts k q)) h := by
  refine pure_eq h (by simp) rfl ?_
  unfold Sh.tick_of; rw [W_fn]; unfold Sh.tick_of_b
  have r1 : rngOk 0 = true := by decide
  have r2 : rngOk k = true := by simp [rngOk]; omega
  simp [r1, r2]
  refine W_forL (fun j e h' => h' = [] ∧ ∃ (c : Option D) (f : Nat), e = [some (.lst (ts.map dMem)), some (.int (k + 1)), some (.int q), some (.int f), c] ∧ j ≤ k ∧ f < 2 ^ (1500 + 105 * j) ∧ TO ts (k - j) f = TO ts k q) _ _ _ ⟨rfl, none, q, rfl, Nat.zero_le _, hq, rfl⟩ (fun j d hd e h' hI => ?_) (fun e h' hI => ?_)
  · obtain ⟨rfl, c, f, rfl, hj, hf, ht⟩ := hI
    obtain ⟨hj2, rfl⟩ := rngS_at hd
    refine ⟨_, rfl, ?_⟩
    have hj3 : j < k := by omega
    have e1 : (k : Int) + (j : Int) * -1 = ((k - j : Nat) : Int) := by omega
    simp only [e1]
    have hf' : f < 2 ^ 4000 := Nat.lt_of_lt_of_le hf (Nat.pow_le_pow_right (by decide) (by omega))
    have e2 := leftIndex w (k - j) f (small_nat hf')
    have e3 := LI_le w (k - j) hf
    have e4 : TO ts (k - (j + 1)) (LI ts (k - j) f) = TO ts k q := by
      rw [← ht, show k - j = (k - (j + 1)) + 1 from by omega, TO]
    generalize ((k - j : Nat) : Int) = z at e2 ⊢
    simp [e2]
    exact ⟨_, LI ts (k - j) f, ⟨rfl, rfl⟩, by omega, by rw [show 1500 + 105 * (j + 1) = 1500 + 105 * j + 105 from by omega]; exact e3, e4⟩
  · obtain ⟨rfl, c, f, rfl, hj, hf, ht⟩ := hI
    rw [rngS_len] at ht hf hj
    rw [Nat.sub_self] at ht
    simp
    rw [← ht]; simp [TO]
end
end HR
set_option Elab.async false
set_option linter.all false
set_option maxRecDepth 20000
set_option exponentiation.threshold 5000
namespace HR
open PySem L2
section
variable {ts : List Tk}
theorem checkTick (l : Nat) (h : OH) : pureF Sh.check_tick [.int l] h = .ok .non h := by
  refine pure_eq h rfl rfl ?_
  unfold Sh.check_tick; rw [W_fn]; unfold Sh.check_tick_b; simp
/-- the program takes d for the hall ts -/
structure Hallish (d : D) (ts : List Tk) : Prop where
  pure : d.pure = true
  chk : ∀ h, pureF Sh.checked_hall [d] h = .ok (.lst (ts.map dMem)) h
theorem hallish (w : WfHall T30 ts) : Hallish (.lst (ts.map dTk)) ts := ⟨by simp, fun h => checked ts h w⟩
theorem leftAmong' (w : WfHall T30 ts) (k l : Nat) (hk : k < 10) (hl : l < 2 ^ 4000) (h : OH) : pureF Sh.left_among [.lst (ts.map dMem), .int ((k : Int) + 1), .int l] h = .ok (.int (LB ts k l)) h := leftAmong w k l (Nat.le_of_lt hk) hl h
theorem quietAmong' (w : WfHall T30 ts) (k l : Nat) (hl : l < 2 ^ 4000) (h : OH) : pureF Sh.quiet_among [.lst (ts.map dMem), .int ((k : Int) + 1), .int l] h = .ok (.int (inv (LI ts (k + 1)) l)) h := quietAmong w (k + 1) l hl h
theorem leftIndex' (w : WfHall T30 ts) (k q : Nat) (hq : q < 2 ^ 4000) (h : OH) : pureF Sh.left_index [.lst (ts.map dMem), .int ((k : Int) + 1), .int q] h = .ok (.int (LI ts (k + 1) q)) h := leftIndex w (k + 1) q (small_nat hq) h
theorem tickOf' (w : WfHall T30 ts) (k q : Nat) (hk : k < 10) (hq : q < 2 ^ 1500) (h : OH) : pureF Sh.tick_of [.lst (ts.map dMem), .int ((k : Int) + 1), .int q] h = .ok (.int (TO ts k q)) h := tickOf w k q hk hq h
end
end HR
set_option Elab.async false
set_option linter.all false
set_option maxRecDepth 20000
namespace HR
open PySem L2
/-! small things of many laws -/
theorem In1.mono {m m' : Int} {p : Int × Int} (w : In1 m p) (h : m ≤ m') : In1 m' p := ⟨w.1, by have := w.2.1; omega, w.2.2.1, by have := w.2.2.2; omega⟩
theorem WfHall.mono {m m' : Int} {ts : List Tk} (w : WfHall m ts) (h : m ≤ m') : WfHall m' ts := ⟨w.len, fun t ht => let a := w.tk t ht; ⟨a.name, a.r1, a.r2, a.lp, a.lc1, a.lc, fun p hp => (a.pre p hp).mono h, fun p hp => (a.cyc p hp).mono h⟩, w.nd⟩
@[simp] theorem W_addLL (xs ys : List D) (h : OH) {PD : D → OH → Prop} : (opAdd (.lst xs) (.lst ys) h).W PD = if xs.length + ys.length ≤ 1000000 then PD (.lst (xs ++ ys)) h else False := by
  simp [opAdd, lstAt, big]
theorem cutD_takeF {ξ : Type} (f : ξ → D) (xs : List ξ) (k : Int) (hk : 0 ≤ k) : cutD (xs.map f) none (some k) = (xs.take k.toNat).map f := by
  rw [cutD_take _ k hk, List.map_take]
@[simp] theorem SW_aug (i : Nat) (g : D → D → OH → Res D) (f : SE) (e : Env') (h : OH) {N C B : Env' → OH → Prop} {R : D → OH → Prop} : (sAug i g f e h).W N C B R = (sVar i e h).W fun x _ => (f e h).W fun y h1 => (g x y h1).W fun z h2 => N (e.set i (some z)) h2 := by
  unfold sAug sVar
  rcases e[i]? with _ | _ | x
  · rfl
  · rfl
  · simp
@[simp] theorem W_tointB (b : Bool) (h : OH) {PD : D → OH → Prop} : (opInt (.bl b) h).W PD = PD (.int (if b then 1 else 0)) h := rfl
@[simp] theorem W_tointI (b : Int) (h : OH) {PD : D → OH → Prop} : (opInt (.int b) h).W PD = PD (.int b) h := rfl
end HR
set_option Elab.async false
set_option linter.all false
set_option maxRecDepth 20000
set_option exponentiation.threshold 5000
namespace HR
open PySem L2
/-! ### who speaks: the talks that stand in line at a quiet tick -/
/-- a talk in line: whose, which, how long -/
structure Run where
  t : Tk
  i : Nat
  len : Int
def dRun (x : Run) : D := .tup [dMem x.t, .int x.i, .int x.len]
def runAt (r q : Nat) (t : Tk) : Option Run := if t.rank = (r : Int) ∧ 0 < cnt t.pre t.cyc q ∧ acc (·.1) t.pre t.cyc (cnt t.pre t.cyc q) = (q : Int) then some ⟨t, cnt t.pre t.cyc q - 1, (nth t.pre t.cyc (cnt t.pre t.cyc q - 1)).2⟩ else none
def runL (ts : List Tk) (r q : Nat) : List Run := ts.filterMap (runAt r q)
theorem pure_dRun (x : Run) : (dRun x).pure = true := by simp [dRun]
@[simp] theorem pureL_dRun (l : List Run) : D.pureL (l.map dRun) = true := pureL_map _ pure_dRun l
theorem countAt {t : Tk} (w : WfTk T30 t) (q : Nat) (h : OH) : pureF Sh.Schedule_count_ready [dSch t.pre t.cyc, .int q] h = .ok (.int (cnt t.pre t.cyc q)) h := by
  obtain ⟨n, e, a, b⟩ := countReady (p := t.pre) (c := t.cyc) q [] w.pos1 w.lp w.lc (by omega) w.s1
  have hn : n = cnt t.pre t.cyc q := acc_inj w.pos1 a b (cnt_at w.pos1 q).1 (cnt_at w.pos1 q).2
  subst hn
  exact e h
section
variable {ts : List Tk}
theorem runOf (w : WfHall T30 ts) (r q : Nat) (hq : q + 1 < 2 ^ 4000) (h : OH) : pureF Sh.run_of [.lst (ts.map dMem), .int r, .int q] h = .ok (.lst ((runL ts r q).map dRun)) h := by
  refine pure_eq h (by simp) (by simp) ?_
  unfold Sh.run_of; rw [W_fn]; unfold Sh.run_of_b
  simp
  refine W_forL (fun j e h' => h' = [.lst (((ts.take j).filterMap (runAt r q)).map dRun)] ∧ ∃ a b : Option D, e = [some (.lst (ts.map dMem)), some (.int r), some (.int q), some (.ref 0), a, b]) _ _ _ ⟨rfl, none, none, rfl⟩ (fun j d hd e h' hI => ?_) (fun e h' hI => ?_)
  · obtain ⟨rfl, a, b, rfl⟩ := hI
    rw [List.getElem?_map, Option.map_eq_some_iff] at hd
    obtain ⟨t, hx, rfl⟩ := hd
    have hj := (List.getElem?_eq_some_iff.mp hx).1
    have wt := w.tk t (List.mem_of_getElem? hx)
    have hl := w.len
    have lf : ((ts.take j).filterMap (runAt r q)).length < 1000000 := by
      have a1 := List.length_filterMap_le (runAt r q) (ts.take j)
      have a2 : (ts.take j).length ≤ ts.length := by rw [List.length_take]; omega
      omega
    have et : ts.take (j + 1) = ts.take j ++ [t] := by rw [List.take_succ, hx]; rfl
    have hc := cnt_le wt.pos1 q
    refine ⟨_, rfl, ?_⟩
    simp [countAt wt q]
    by_cases h1 : t.rank = (r : Int)
    · by_cases h2 : 0 < cnt t.pre t.cyc q
      · have e1 : (cnt t.pre t.cyc q : Int) - 1 = ((cnt t.pre t.cyc q - 1 : Nat) : Int) := by omega
        have e2 : cnt t.pre t.cyc q - 1 + 1 = cnt t.pre t.cyc q := by omega
        have n1 := fun h => nthReady (p := t.pre) (c := t.cyc) (cnt t.pre t.cyc q - 1) h wt.lc1 wt.lc (small_of (k := 4000) (by omega) (by decide)) wt.s1
        have n2 := fun h => nthTalk (p := t.pre) (c := t.cyc) (cnt t.pre t.cyc q - 1) h wt.lc1 wt.lc
        rw [e2] at n1
        rw [e1]
        obtain ⟨m, hm⟩ : ∃ m, m = cnt t.pre t.cyc q - 1 := ⟨_, rfl⟩
        rw [← hm] at n1 n2 ⊢
        by_cases h3 : acc (·.1) t.pre t.cyc (cnt t.pre t.cyc q) = (q : Int)
        · simp [h1, h2, n1, n2, h3, dT]
          refine ⟨by simpa using lf, ?_⟩
          rw [et, List.filterMap_append]
          simp [runAt, h1, h2, h3, dRun, hm]
        · simp [h1, h2, n1, h3]
          rw [et, List.filterMap_append]
          simp [runAt, h3]
      · simp [h1, h2]
        rw [et, List.filterMap_append]
        simp [runAt, h2]
    · simp [h1]
      rw [et, List.filterMap_append]
      simp [runAt, h1]
  · obtain ⟨rfl, a, b, rfl⟩ := hI
    simp [runL]
theorem offsetIn (w : WfHall T30 ts) (r l q : Nat) (hq : 0 < q) (hq2 : q < 2 ^ 4000) (h : OH) : pureF Sh.offset_in_run [.lst (ts.map dMem), .int r, .int l, .int q] h = .ok (.int ((l : Int) - q - LL ts r (q - 1))) h := by
  refine pure_eq h (by simp) rfl ?_
  unfold Sh.offset_in_run; rw [W_fn]; unfold Sh.offset_in_run_b
  have e1 : (q : Int) - 1 = ((q - 1 : Nat) : Int) := by omega
  have e2 := rankLength w r (q - 1) (small_of (k := 4000) (by omega) (by decide))
  generalize ((q - 1 : Nat) : Int) = z at e1 e2
  simp [e1, e2]
/-! ### the descent -/
abbrev Trip := Nat × Nat × Nat
def dTrip (x : Trip) : D := .tup [.int x.1, .int x.2.1, .int x.2.2]
/-- the last step of the descent from rank k + 1 on, n further ranks below -/
def lastD (ts : List Tk) : Nat → Nat → Nat → Trip
  | 0, k, l => (k + 1, l, inv (LI ts (k + 1)) l)
  | n + 1, k, l => if l = LI ts (k + 1) (inv (LI ts (k + 1)) l) then lastD ts n (k + 1) (inv (LI ts (k + 1)) l) else (k + 1, l, inv (LI ts (k + 1)) l)
theorem pure_dTrip (x : Trip) : (dTrip x).pure = true := by simp [dTrip]
@[simp] theorem pureL_dTrip (l : List Trip) : D.pureL (l.map dTrip) = true := pureL_map _ pure_dTrip l
theorem descentBy (w : WfHall T30 ts) (l : Nat) (hl : l < 2 ^ 4000) : ∃ L : List Trip, ∀ h, pureF Sh.descent_by [.lst (ts.map dMem), .int l] h = .ok (.lst ((L ++ [lastD ts 9 0 l]).map dTrip)) h := by
  have key : (Sh.descent_by [.lst (ts.map dMem), .int l] []).W fun d _ => ∃ L : List Trip, d = .lst ((L ++ [lastD ts 9 0 l]).map dTrip) := by
    unfold Sh.descent_by; rw [W_fn]; unfold Sh.descent_by_b
    have r1 : rngOk 1 = true := by decide
    have r2 : rngOk 11 = true := by decide
    simp [r1, r2]
    refine W_forL (fun j e h' => ∃ (L : List Trip) (x : Nat) (a b : Option D), h' = [.lst (L.map dTrip)] ∧ e = [some (.lst (ts.map dMem)), some (.int l), some (.ref 0), some (.int x), a, b] ∧ x ≤ l ∧ L.length = j ∧ (j < 10 → lastD ts (9 - j) j x = lastD ts 9 0 l) ∧ (j = 10 → ∃ L', L = L' ++ [lastD ts 9 0 l])) _ _ _
      ⟨[], l, none, none, rfl, rfl, Nat.le_refl _, rfl, fun _ => rfl, fun z => absurd z (by decide)⟩ (fun j d hd e h' hI => ?_) (fun e h' hI => ?_)
    · obtain ⟨L, x, a, b, rfl, rfl, hx, hL, hT, _⟩ := hI
      obtain ⟨hj, rfl⟩ := rngD_at hd
      have hj' : j < 10 := hj
      refine ⟨_, rfl, ?_⟩
      have e1 : (1 : Int) + (j : Int) = ((j + 1 : Nat) : Int) := by simp; omega
      have q1 := quietAmong w (j + 1) x (by omega)
      have hq := (inv_gal (LI_inc w.tk (j + 1))).small (LI_inc w.tk (j + 1)) x
      have q2 := leftIndex w (j + 1) (inv (LI ts (j + 1)) x) (small_of (k := 4000) (by omega) (by decide))
      have hT' := hT hj'
      have z1 : ((j + 1 : Nat) : Int) = (j : Int) + 1 := by simp
      simp only [e1]
      have lim : L.length < 1000000 := by omega
      obtain ⟨z, hz⟩ : ∃ z : Int, z = ((j + 1 : Nat) : Int) := ⟨_, rfl⟩
      rw [← hz] at q1 q2 ⊢
      simp [q1, q2, lim]
      by_cases hb : x = LI ts (j + 1) (inv (LI ts (j + 1)) x)
      · have hb' : (x : Int) = (LI ts (j + 1) (inv (LI ts (j + 1)) x) : Int) := congrArg (fun z : Nat => (z : Int)) hb
        rw [if_pos hb']
        refine ⟨L ++ [(j + 1, x, inv (LI ts (j + 1)) x)], ?_, inv (LI ts (j + 1)) x, rfl, by omega, by simp [hL], fun h9 => ?_, fun h9 => ?_⟩
        · simp [dTrip, hz]
        · rw [← hT', show 9 - j = (8 - j) + 1 from by omega, lastD, if_pos hb]
        · refine ⟨L, ?_⟩
          rw [← hT', show 9 - j = 0 from by omega, lastD]
      · have hb' : ¬ (x : Int) = (LI ts (j + 1) (inv (LI ts (j + 1)) x) : Int) := by omega
        rw [if_neg hb']
        refine ⟨⟨L, rfl⟩, ?_⟩
        rw [← hT']
        by_cases h9 : j = 9
        · subst h9
          simp [lastD, dTrip, hz]
        · rw [show 9 - j = (8 - j) + 1 from by omega, lastD, if_neg hb]
          simp [dTrip, hz]
    · obtain ⟨L, x, a, b, rfl, rfl, hx, hL, _, hT⟩ := hI
      obtain ⟨L', rfl⟩ := hT rfl
      simp
      exact ⟨L', rfl⟩
  obtain ⟨d, h', e, L, rfl⟩ := key.out
  refine ⟨L, fun h => pure_eq h (by simp) (pureL_dTrip _) ?_⟩
  rw [e]
  rfl
/-! ### the talk at a tick -/
def findT : Int → List Run → Option (Str × Nat × Int)
  | _, [] => none
  | off, x :: r => if off < x.len then some (x.t.name, x.i, off) else findT (off - x.len) r
def dTalk : Option (Str × Nat × Int) → D
  | none => .non
  | some x => .tup [.str x.1, .int x.2.1, .int x.2.2]
theorem pure_dTalk (x : Option (Str × Nat × Int)) : (dTalk x).pure = true := by cases x <;> simp [dTalk]
/-- what is said at the step r, l, q of a descent -/
def talkStep (ts : List Tk) (x : Trip) : Option (Str × Nat × Int) := if x.2.1 = LI ts x.1 x.2.2 then none else findT ((x.2.1 : Int) - x.2.2 - LL ts x.1 (x.2.2 - 1)) (runL ts x.1 x.2.2)
def talkL (ts : List Tk) (l : Nat) : Option (Str × Nat × Int) := talkStep ts (lastD ts 9 0 l)
theorem LL_0 {ts : List Tk} (w : ∀ t ∈ ts, WfTk T30 t) (r : Nat) : LL ts r 0 = 0 := by
  unfold LL
  induction ts with
  | nil => rfl
  | cons t ts ih =>
    have i := ih fun x hx => w x (List.mem_cons_of_mem _ hx)
    have z : len2 t.pre t.cyc 0 = 0 := by simp [len2, cnt, acc]
    by_cases h : (t.rank == (r : Int)) = true
    · simp only [List.filter_cons_of_pos (p := fun t : Tk => t.rank == (r : Int)) h, List.map_cons, List.sum_cons, z, i]
    · simp only [List.filter_cons_of_neg (p := fun t : Tk => t.rank == (r : Int)) h]; exact i
/-- a descent's last step: its rank, its bounds -/
theorem lastD_ok (w : ∀ t ∈ ts, WfTk T30 t) : ∀ n k l, ∃ r l' q, lastD ts n k l = (r + 1, l', q) ∧ k ≤ r ∧ r ≤ k + n ∧ q = inv (LI ts (r + 1)) l' ∧ l' ≤ l
  | 0, k, l => ⟨k, l, _, rfl, Nat.le_refl _, Nat.le_refl _, rfl, Nat.le_refl _⟩
  | n + 1, k, l => by
    unfold lastD
    by_cases h : l = LI ts (k + 1) (inv (LI ts (k + 1)) l)
    · rw [if_pos h]
      obtain ⟨r, l', q, e, a, b, c, d⟩ := lastD_ok w n (k + 1) (inv (LI ts (k + 1)) l)
      have := (inv_gal (LI_inc w (k + 1))).small (LI_inc w (k + 1)) l
      exact ⟨r, l', q, e, by omega, by omega, c, by omega⟩
    · rw [if_neg h]
      exact ⟨k, l, _, rfl, Nat.le_refl _, by omega, rfl, Nat.le_refl _⟩
theorem talkBy (w : WfHall T30 ts) (l : Nat) (hl : l + 1 < 2 ^ 4000) (h : OH) : pureF Sh.talk_by [.lst (ts.map dMem), .int l] h = .ok (dTalk (talkL ts l)) h := by
  refine pure_eq h (by simp) (pure_dTalk _) ?_
  obtain ⟨L, dsc⟩ := descentBy w l (by omega)
  obtain ⟨r, l', q, e, _, _, hq, hl'⟩ := lastD_ok (ts := ts) w.tk 9 0 l
  have inc := LI_inc w.tk (r + 1)
  have sm := (inv_gal inc).small inc l'
  rw [← hq] at sm
  have q1 := leftIndex w (r + 1) q (small_of (k := 4000) (by omega) (by decide))
  unfold Sh.talk_by; rw [W_fn]; unfold Sh.talk_by_b
  have last : atI ((L ++ [lastD ts 9 0 l]).map dTrip) (-1) = some (dTrip (lastD ts 9 0 l)) := by
    rw [List.map_append, List.map_singleton, L2.atI_last]
  rw [e] at dsc last
  obtain ⟨z, hz⟩ : ∃ z : Int, z = ((r + 1 : Nat) : Int) := ⟨_, rfl⟩
  have ez : dTrip (r + 1, l', q) = .tup [.int z, .int l', .int q] := by rw [hz]; rfl
  have q2 := fun hp => offsetIn w (r + 1) l' q hp (by omega)
  have q3 := runOf w (r + 1) q (by omega)
  rw [← hz] at q1 q2 q3
  rw [ez] at last
  generalize List.map dTrip (L ++ [(r + 1, l', q)]) = M at dsc last
  have eT : talkL ts l = talkStep ts (r + 1, l', q) := by rw [talkL, e]
  rw [eT]
  simp [dsc, last, gT, gCs, gN, gNl, seqAt, q1]
  by_cases hb : l' = LI ts (r + 1) q
  · have hb' : (l' : Int) = (LI ts (r + 1) q : Int) := by omega
    simp [hb', talkStep, hb, dTalk]
  · have hb' : ¬ (l' : Int) = (LI ts (r + 1) q : Int) := by omega
    have hp : 0 < q := by
      rcases Nat.eq_zero_or_pos q with h0 | h0
      · exfalso
        subst h0
        have a := (inv_gal inc).le l'
        rw [← hq, LI, LL_0 w.tk] at a
        rw [LI, LL_0 w.tk] at hb
        omega
      · exact h0
    simp [hb', q2 hp, q3]
    have eS : talkStep ts (r + 1, l', q) = findT ((l' : Int) - q - LL ts (r + 1) (q - 1)) (runL ts (r + 1) q) := if_neg hb
    rw [eS]
    refine W_forL (fun j e h' => h' = [] ∧ ∃ (off : Int) (a b c : Option D), e = [some (.lst (ts.map dMem)), some (.int l), some (.int z), some (.int l'), some (.int q), some (.int off), a, b, c] ∧ findT off ((runL ts (r + 1) q).drop j) = findT ((l' : Int) - q - LL ts (r + 1) (q - 1)) (runL ts (r + 1) q)) _ _ _ ⟨rfl, _, _, _, _, rfl, rfl⟩ (fun j d hd e h' hI => ?_) (fun e h' hI => ?_)
    · obtain ⟨rfl, off, a, b, c, rfl, hf⟩ := hI
      rw [List.getElem?_map, Option.map_eq_some_iff] at hd
      obtain ⟨x, hx, rfl⟩ := hd
      have hj := (List.getElem?_eq_some_iff.mp hx).1
      have ed : (runL ts (r + 1) q).drop j = x :: (runL ts (r + 1) q).drop (j + 1) := by
        rw [List.drop_eq_getElem_cons hj]
        congr 1
        exact (List.getElem?_eq_some_iff.mp hx).2
      rw [ed] at hf
      refine ⟨_, rfl, ?_⟩
      simp
      by_cases ho : off < x.len
      · simp [ho]
        rw [← hf, findT, if_pos ho]
        rfl
      · simp [ho, sAug]
        rw [← hf, findT, if_neg ho]
    · obtain ⟨rfl, off, a, b, c, rfl, hf⟩ := hI
      rw [List.length_map, List.drop_length] at hf
      try simp
      rw [← hf]
      rfl
theorem talkAtD {d : D} (hd : Hallish d ts) (w : WfHall T30 ts) (l : Nat) (hl : l + 1 < 2 ^ 4000) (h : OH) : pureF Sh.talk_at [d, .int l] h = .ok (dTalk (talkL ts l)) h := by
  refine pure_eq h (by simp [hd.pure]) (pure_dTalk _) ?_
  unfold Sh.talk_at; rw [W_fn]; unfold Sh.talk_at_b
  simp [hd.chk, checkTick, talkBy w l hl]
def dName : Option (Str × Nat × Int) → D
  | none => .non
  | some x => .str x.1
theorem speakerAtD {d : D} (hd : Hallish d ts) (w : WfHall T30 ts) (l : Nat) (hl : l + 1 < 2 ^ 4000) (h : OH) : pureF Sh.speaker_at [d, .int l] h = .ok (dName (talkL ts l)) h := by
  refine pure_eq h (by simp [hd.pure]) (by cases talkL ts l <;> rfl) ?_
  unfold Sh.speaker_at; rw [W_fn]; unfold Sh.speaker_at_b
  simp [talkAtD hd w l hl]
  cases talkL ts l <;> simp [dTalk, dName]
theorem speakerAt (w : WfHall T30 ts) (l : Nat) (hl : l + 1 < 2 ^ 4000) (h : OH) : pureF Sh.speaker_at [.lst (ts.map dTk), .int l] h = .ok (dName (talkL ts l)) h := speakerAtD (hallish w) w l hl h
end
end HR
set_option Elab.async false
set_option linter.all false
set_option maxRecDepth 20000
set_option exponentiation.threshold 5000
namespace HR
open PySem L2
/-! ### progress of a talker before a tick; the span of a talk -/
section
variable {ts : List Tk} {t : Tk}
theorem countPrev (w : WfTk T30 t) (q : Nat) (h : OH) : pureF Sh.Schedule_count_ready [dSch t.pre t.cyc, .int ((q : Int) - 1)] h = .ok (.int ((if q = 0 then 0 else cnt t.pre t.cyc (q - 1) : Nat) : Int)) h := by
  by_cases h0 : q = 0
  · subst h0
    refine pure_eq h (by simp) rfl ?_
    have P1 : ∀ x ∈ t.pre.map (·.1), (1 : Int) ≤ x := by simpa using w.pos1.2.1
    have p0 : (-1 : Int) < (t.pre.map (·.1)).sum := by have := sum_ge P1; omega
    unfold Sh.Schedule_count_ready; rw [W_fn]; unfold Sh.Schedule_count_ready_b
    simp [dSums, atI_m1, p0, wipeD, cutD_drop]
    rw [← List.drop_one, drop_sums]
    have lp := w.lp
    refine W_lcMap (List.range (t.pre.map (·.1)).length) (fun j => D.int ((t.pre.map (·.1)).take (j + 1)).sum) (fun j => false) (fun j => D.int ((t.pre.map (·.1)).take (j + 1)).sum) _ (by simp [big]; omega) (fun x hx => ⟨_, rfl, ?_⟩) ?_
    · have := sum_ge (l := (t.pre.map (·.1)).take (x + 1)) fun y hy => P1 y (List.mem_of_mem_take hy)
      have : ¬ ((t.pre.map (·.1)).take (x + 1)).sum ≤ -1 := by omega
      simp only [W_sTest, W_sBin, W_sVar', W_opI2, isBl_bl, List.set]
      simp [this]
    · simp
  · rw [show (q : Int) - 1 = ((q - 1 : Nat) : Int) from by omega, if_neg h0]
    exact countAt w (q - 1) h
theorem lenPrev (w : WfTk T30 t) (q : Nat) (hq : q < 2 ^ 4000) (h : OH) : pureF Sh.Schedule_length_ready [dSch t.pre t.cyc, .int ((q : Int) - 1)] h = .ok (.int ((if q = 0 then 0 else len2 t.pre t.cyc (q - 1) : Nat) : Int)) h := by
  by_cases h0 : q = 0
  · subst h0
    have e := fun h => countPrev (t := t) w 0 h
    simp only [if_pos] at e
    exact lengthReady (p := t.pre) (c := t.cyc) _ 0 h w.lc1 w.lc (small_64 (by decide)) w.s2 e
  · rw [show (q : Int) - 1 = ((q - 1 : Nat) : Int) from by omega, if_neg h0]
    exact lenReady w (q - 1) (small_of (k := 4000) (by omega) (by decide)) h
def LLm (ts : List Tk) (r q : Nat) : Nat := if q = 0 then 0 else LL ts r (q - 1)
theorem rankPrev (w : WfHall T30 ts) (r q : Nat) (hq : q < 2 ^ 4000) (h : OH) : pureF Sh.rank_length [.lst (ts.map dMem), .int r, .int ((q : Int) - 1)] h = .ok (.int (LLm ts r q)) h := by
  by_cases h0 : q = 0
  · refine pure_eq h (by simp) rfl ?_
    have hl := w.len
    unfold Sh.rank_length; rw [W_fn]; unfold Sh.rank_length_b
    simp [wipeD]
    refine W_lcMap ts dMem (fun t => t.rank == (r : Int)) (fun t => .int ((0 : Nat) : Int)) _ (by simp [big]; omega) (fun t ht => ⟨_, rfl, ?_⟩) ?_
    · have e := lenPrev (w.tk t ht) q hq
      simp only [h0, if_pos] at e
      subst h0
      simp at e
      simp [e]
    · rw [show (ts.filter fun t => t.rank == (r : Int)).map (fun t => D.int ((0 : Nat) : Int)) = ((ts.filter fun t => t.rank == (r : Int)).map fun t => ((0 : Nat) : Int)).map D.int from by simp]
      simp only [W_sumL, lkS_some, intsOf_map, sum_cast (fun _ : Tk => 0)]
      simp [LLm, h0]
      generalize (ts.filter fun t => t.rank == (r : Int)) = l
      induction l with
      | nil => rfl
      | cons y l ih => simpa using ih
  · rw [show (q : Int) - 1 = ((q - 1 : Nat) : Int) from by omega, LLm, if_neg h0]
    exact rankLength w r (q - 1) (small_of (k := 4000) (by omega) (by decide)) h
theorem offsetAny (w : WfHall T30 ts) (r l q : Nat) (hq2 : q < 2 ^ 4000) (h : OH) : pureF Sh.offset_in_run [.lst (ts.map dMem), .int r, .int l, .int q] h = .ok (.int ((l : Int) - q - LLm ts r q)) h := by
  refine pure_eq h (by simp) rfl ?_
  unfold Sh.offset_in_run; rw [W_fn]; unfold Sh.offset_in_run_b
  simp [rankPrev w r q hq2]
/-- begun, ended, spoken -/
abbrev Prog := Int × Int × Int
def pfold (x : Str) : Int → Prog → List Run → Prog
  | _, p, [] => p
  | off, p, y :: r => pfold x (off - y.len) (if y.t.name == x then (p.1 + (if 0 < off then 1 else 0), p.2.1 + (if y.len ≤ off then 1 else 0), p.2.2 + (let m := if 0 > off then 0 else off; if y.len < m then y.len else m)) else p) r
def prog0 (t : Tk) (q : Nat) : Prog := (((if q = 0 then 0 else cnt t.pre t.cyc (q - 1) : Nat) : Int), ((if q = 0 then 0 else cnt t.pre t.cyc (q - 1) : Nat) : Int), ((if q = 0 then 0 else len2 t.pre t.cyc (q - 1) : Nat) : Int))
def progL (ts : List Tk) (t : Tk) (r : Nat) (left quiet : Nat) : Prog := pfold t.name ((left : Int) - quiet - LLm ts r quiet) (prog0 t quiet) (runL ts r quiet)
def dProg (p : Prog) : D := .tup [.int p.1, .int p.2.1, .int p.2.2]
theorem strOk_nm {x : Str} (w : WfN x) : PyData.strOk x = true := by
  have e : ∀ c ∈ ("abcdefghijklmnopqrstuvwxyz" : Str).cps.toList, c < 0x110000 := by decide +kernel
  simp only [PyData.strOk, Array.all_eq_true_iff_forall_mem, decide_eq_true_eq]
  exact fun c hc => e c (w.2.2 c (Array.mem_toList_iff.mpr hc))
theorem runL_mem {r q : Nat} {x : Run} (h : x ∈ runL ts r q) : x.t ∈ ts := by
  obtain ⟨t, ht, e⟩ := List.mem_filterMap.mp h
  unfold runAt at e
  split at e
  · cases e; exact ht
  · cases e
theorem progressOf (w : WfHall T30 ts) (ht : t ∈ ts) (k l : Nat) (hk : k < 10) (hr : t.rank = (k : Int) + 1) (hl : l + 1 < 2 ^ 4000) (h : OH) : pureF Sh.progress_of [.lst (ts.map dMem), dMem t, .int l] h = .ok (dProg (progL ts t (k + 1) (LB ts k l) (LB ts (k + 1) l))) h := by
  refine pure_eq h (by simp) (by simp [dProg]) ?_
  have wt := w.tk t ht
  have b0 := LB_le w.tk k l
  have b1 := LB_le w.tk (k + 1) l
  have e1 := leftAmong' w k l hk (by omega)
  have e2 : ∀ h, pureF Sh.quiet_among [.lst (ts.map dMem), .int ((k : Int) + 1), .int (LB ts k l)] h = .ok (.int (LB ts (k + 1) l)) h := fun h => quietAmong' w k (LB ts k l) (by omega) h
  have e3 := countPrev wt (LB ts (k + 1) l)
  have e4 := lenPrev wt (LB ts (k + 1) l) (by omega)
  have e5 : ∀ h, pureF Sh.offset_in_run [.lst (ts.map dMem), .int ((k : Int) + 1), .int (LB ts k l), .int (LB ts (k + 1) l)] h = _ := fun h => offsetAny w (k + 1) (LB ts k l) (LB ts (k + 1) l) (by omega) h
  have e6 : ∀ h, pureF Sh.run_of [.lst (ts.map dMem), .int ((k : Int) + 1), .int (LB ts (k + 1) l)] h = _ := fun h => runOf w (k + 1) (LB ts (k + 1) l) (by omega) h
  unfold Sh.progress_of; rw [W_fn]; unfold Sh.progress_of_b
  unfold progL prog0
  generalize LB ts k l = lf at *
  generalize LB ts (k + 1) l = qt at *
  generalize ((if qt = 0 then 0 else cnt t.pre t.cyc (qt - 1) : Nat) : Int) = c0 at *
  generalize ((if qt = 0 then 0 else len2 t.pre t.cyc (qt - 1) : Nat) : Int) = l0 at *
  generalize (lf : Int) - qt - LLm ts (k + 1) qt = of0 at *
  simp [hr, e1, e2, e3, e4, e5, e6, sPar]
  refine W_forL (fun j e h' => h' = [] ∧ ∃ (off : Int) (p : Prog) (a b c : Option D), e = [some (.lst (ts.map dMem)), some (dMem t), some (.int l), some (.int lf), some (.int qt), some (.int p.2.1), some (.int p.1), some (.int p.2.2), some (.int off), a, b, c] ∧ pfold t.name off p ((runL ts (k + 1) qt).drop j) = pfold t.name of0 (c0, c0, l0) (runL ts (k + 1) qt)) _ _ _ ⟨rfl, _, (c0, c0, l0), _, _, _, rfl, rfl⟩ (fun j d hd e h' hI => ?_) (fun e h' hI => ?_)
  · obtain ⟨rfl, off, p, a, b, c, rfl, hf⟩ := hI
    rw [List.getElem?_map, Option.map_eq_some_iff] at hd
    obtain ⟨x, hx, rfl⟩ := hd
    have hj := (List.getElem?_eq_some_iff.mp hx).1
    have wx := w.tk x.t (runL_mem (List.mem_of_getElem? hx))
    have ed : (runL ts (k + 1) qt).drop j = x :: (runL ts (k + 1) qt).drop (j + 1) := by
      rw [List.drop_eq_getElem_cons hj]
      congr 1
      exact (List.getElem?_eq_some_iff.mp hx).2
    rw [ed, pfold] at hf
    refine ⟨_, rfl, ?_⟩
    simp [W_eqS, strOk_nm wx.name, strOk_nm wt.name]
    by_cases hn : x.t.name = t.name
    · rw [if_pos hn]
      rw [if_pos (by simpa using hn)] at hf
      exact ⟨_, _, _, _, ⟨rfl, rfl, rfl, rfl⟩, hf⟩
    · rw [if_neg hn]
      rw [if_neg (by simpa using hn)] at hf
      exact ⟨_, _, _, _, ⟨rfl, rfl, rfl, rfl⟩, hf⟩
  · obtain ⟨rfl, off, p, a, b, c, rfl, hf⟩ := hI
    rw [List.length_map, List.drop_length] at hf
    try simp
    rw [← hf]
    rfl
end
end HR
set_option Elab.async false
set_option linter.all false
set_option maxRecDepth 20000
set_option exponentiation.threshold 5000
namespace HR
open PySem L2
section
variable {ts : List Tk} {t : Tk}
def sfold (x : Str) : Int → List Run → Int
  | f, [] => f
  | f, y :: r => if y.t.name = x then f else sfold x (f + y.len) r
def Q1 (t : Tk) (n : Nat) : Nat := (acc (·.1) t.pre t.cyc (n + 1)).toNat
theorem Q1_z (w : WfTk T30 t) (n : Nat) : ((Q1 t n : Nat) : Int) = acc (·.1) t.pre t.cyc (n + 1) ∧ n + 1 ≤ Q1 t n := by
  have := acc_ge w.pos1 (n + 1)
  have e : ((Q1 t n : Nat) : Int) = acc (·.1) t.pre t.cyc (n + 1) := Int.toNat_of_nonneg (by omega)
  exact ⟨e, by omega⟩
theorem Q1_le (w : WfTk T30 t) (n : Nat) : Q1 t n ≤ (n + 1) * 2 ^ 100 := by
  have a := (Q1_z w n).1
  have b := w.acc_le (·.1) (fun x hx => hx.2.1) (n + 1)
  simp only [show (2 : Nat) ^ 100 = 1267650600228229401496703205376 from by decide]
  simp only [T30] at b
  omega
theorem sfold_le (x : Str) : ∀ (l : List Run) (f : Int), (∀ y ∈ l, 0 ≤ y.len ∧ y.len ≤ T30) → f ≤ sfold x f l ∧ sfold x f l ≤ f + l.length * T30
  | [], f, _ => by simp [sfold]
  | y :: r, f, h => by
    have hy := h y List.mem_cons_self
    have ih := sfold_le x r (f + y.len) fun z hz => h z (List.mem_cons_of_mem _ hz)
    unfold sfold
    rw [List.length_cons]
    push_cast
    rw [Int.add_mul]
    split
    · have : (0 : Int) ≤ (r.length : Int) * T30 := Int.mul_nonneg (by omega) (by decide)
      simp only [T30] at *
      omega
    · omega
theorem runL_len (w : WfHall T30 ts) {r q : Nat} {x : Run} (h : x ∈ runL ts r q) : 0 ≤ x.len ∧ x.len ≤ T30 := by
  obtain ⟨t, ht, e⟩ := List.mem_filterMap.mp h
  unfold runAt at e
  split at e
  · cases e
    have := (w.tk t ht).nth1 (cnt t.pre t.cyc q - 1)
    exact ⟨by have := this.2.2.1; dsimp only; omega, this.2.2.2⟩
  · cases e
theorem runL_length (w : WfHall T30 ts) (r q : Nat) : (runL ts r q).length ≤ 10 := Nat.le_trans (List.length_filterMap_le _ _) w.len
/-- the first tick of a talk, as its rank counts -/
def spI (ts : List Tk) (t : Tk) (r n : Nat) : Int := sfold t.name ((LI ts r (Q1 t n - 1) : Int) + 1) (runL ts r (Q1 t n))
def spF (ts : List Tk) (t : Tk) (r n : Nat) : Nat := (spI ts t r n).toNat
def spL (ts : List Tk) (t : Tk) (r n : Nat) : Nat := (spI ts t r n + (nth t.pre t.cyc n).2 - 1).toNat
theorem sp_ok (w : WfHall T30 ts) (ht : t ∈ ts) (r n : Nat) (hn : n + 1 < 2 ^ 200) : spI ts t r n = spF ts t r n ∧ spI ts t r n + (nth t.pre t.cyc n).2 - 1 = spL ts t r n ∧ spF ts t r n < 2 ^ 500 ∧ spL ts t r n < 2 ^ 500 := by
  have wt := w.tk t ht
  have a := sfold_le t.name (runL ts r (Q1 t n)) ((LI ts r (Q1 t n - 1) : Int) + 1) fun y hy => runL_len w hy
  have b := runL_length w r (Q1 t n)
  have c := Q1_le wt n
  have d : Q1 t n - 1 < 2 ^ 300 := by
    have : (n + 1) * 2 ^ 100 < 2 ^ 200 * 2 ^ 100 := Nat.mul_lt_mul_of_pos_right hn (by decide)
    rw [← Nat.pow_add] at this
    have e : (200 + 100) = 300 := rfl
    omega
  have e := LI_le w r d
  have e1 : (2 : Nat) ^ (300 + 105) + 2 ^ 150 < 2 ^ 500 := by decide
  have hl := wt.nth1 n
  have l1 := hl.2.2.1
  have l2 := hl.2.2.2
  have m : ((runL ts r (Q1 t n)).length : Int) * T30 ≤ 10 * T30 := Int.mul_le_mul_of_nonneg_right (by omega) (by decide)
  have i0 : 0 ≤ spI ts t r n := by unfold spI; omega
  have i1 : spI ts t r n ≤ (LI ts r (Q1 t n - 1) : Int) + 1 + 10 * T30 := by unfold spI; omega
  have f1 : spI ts t r n = spF ts t r n := (Int.toNat_of_nonneg i0).symm
  have f2 : spI ts t r n + (nth t.pre t.cyc n).2 - 1 = spL ts t r n := (Int.toNat_of_nonneg (by omega)).symm
  have t1 : (T30 : Int) * 12 < ((2 ^ 150 : Nat) : Int) := by decide
  generalize (2 : Nat) ^ (300 + 105) = A at e e1
  generalize (2 : Nat) ^ 150 = B at t1 e1
  generalize (2 : Nat) ^ 500 = G at e1 ⊢
  simp only [T30] at *
  exact ⟨f1, f2, by omega, by omega⟩
theorem spanBy (w : WfHall T30 ts) (ht : t ∈ ts) (k n : Nat) (hk : k < 10) (hr : t.rank = (k : Int) + 1) (hn : n + 1 < 2 ^ 200) (h : OH) : pureF Sh.span_by [.lst (ts.map dMem), dMem t, .int n] h = .ok (.tup [.int (TO ts k (spF ts t (k + 1) n)), .int (TO ts k (spL ts t (k + 1) n))]) h := by
  refine pure_eq h (by simp) (by simp) ?_
  have wt := w.tk t ht
  obtain ⟨s1, s2, s3, s4⟩ := sp_ok w ht (k + 1) n hn
  have p500 : ∀ {x : Nat}, x < 2 ^ 500 → x < 2 ^ 1500 := fun hx => Nat.lt_of_lt_of_le hx (Nat.pow_le_pow_right (by decide) (by decide))
  have e1 := fun h => nthReady (p := t.pre) (c := t.cyc) n h wt.lc1 wt.lc (by rw [show (n : Int) + 1 = ((n + 1 : Nat) : Int) from by simp]; exact small_of (k := 200) (by omega) (by decide)) wt.s1
  obtain ⟨z1, z2⟩ := Q1_z wt n
  rw [← z1] at e1
  have c := Q1_le wt n
  have d : Q1 t n + 1 < 2 ^ 4000 := by
    have : (n + 1) * 2 ^ 100 < 2 ^ 200 * 2 ^ 100 := Nat.mul_lt_mul_of_pos_right hn (by decide)
    rw [← Nat.pow_add] at this
    have e : (2 : Nat) ^ (200 + 100) + 5 < 2 ^ 4000 := by decide
    omega
  have z3 : (Q1 t n : Int) - 1 = ((Q1 t n - 1 : Nat) : Int) := by omega
  have e2 : ∀ h, pureF Sh.left_index [.lst (ts.map dMem), .int ((k : Int) + 1), .int ((Q1 t n : Int) - 1)] h = .ok (.int (LI ts (k + 1) (Q1 t n - 1))) h := fun h => by
    rw [z3]; exact leftIndex' w k (Q1 t n - 1) (by omega) h
  have e3 : ∀ h, pureF Sh.run_of [.lst (ts.map dMem), .int ((k : Int) + 1), .int (Q1 t n)] h = _ := fun h => runOf w (k + 1) (Q1 t n) d h
  have e4 := fun h => nthTalk (p := t.pre) (c := t.cyc) n h wt.lc1 wt.lc
  have e5 := tickOf' w k (spF ts t (k + 1) n) hk (p500 s3)
  have e6 := tickOf' w k (spL ts t (k + 1) n) hk (p500 s4)
  rw [← s1] at e5
  rw [← s2] at e6
  unfold Sh.span_by; rw [W_fn]; unfold Sh.span_by_b
  simp [hr, e1, e2, e3]
  have eS : spI ts t (k + 1) n = sfold t.name ((LI ts (k + 1) (Q1 t n - 1) : Int) + 1) (runL ts (k + 1) (Q1 t n)) := rfl
  refine W_forL (fun j e h' => h' = [] ∧ ∃ (f : Int) (a b c : Option D), e = [some (.lst (ts.map dMem)), some (dMem t), some (.int n), some (.int (Q1 t n)), some (.int f), a, b, c, none] ∧ sfold t.name f ((runL ts (k + 1) (Q1 t n)).drop j) = spI ts t (k + 1) n) _ _ _ ⟨rfl, _, _, _, _, rfl, rfl⟩ (fun j d hd e h' hI => ?_) (fun e h' hI => ?_)
  · obtain ⟨rfl, f, a, b, c, rfl, hf⟩ := hI
    rw [List.getElem?_map, Option.map_eq_some_iff] at hd
    obtain ⟨x, hx, rfl⟩ := hd
    have hj := (List.getElem?_eq_some_iff.mp hx).1
    have wx := w.tk x.t (runL_mem (List.mem_of_getElem? hx))
    have ed : (runL ts (k + 1) (Q1 t n)).drop j = x :: (runL ts (k + 1) (Q1 t n)).drop (j + 1) := by
      rw [List.drop_eq_getElem_cons hj]
      congr 1
      exact (List.getElem?_eq_some_iff.mp hx).2
    rw [ed, sfold] at hf
    refine ⟨_, rfl, ?_⟩
    simp [W_eqS, strOk_nm wx.name, strOk_nm wt.name]
    by_cases hn : x.t.name = t.name
    · rw [if_pos hn] at hf
      subst hf
      simp [hn, e4, dT, hr, e5, e6]
    · rw [if_neg hn] at hf
      simp [hn]
      exact hf
  · obtain ⟨rfl, f, a, b, c, rfl, hf⟩ := hI
    rw [List.length_map, List.drop_length, sfold] at hf
    subst hf
    simp [e4, dT, hr, e5, e6]
end
end HR
set_option Elab.async false
set_option linter.all false
set_option maxRecDepth 20000
set_option exponentiation.threshold 5000
namespace HR
open PySem L2
section
variable {ts : List Tk} {t : Tk}
theorem progBeforeD {d : D} (hd : Hallish d ts) (w : WfHall T30 ts) (ht : t ∈ ts) (k l : Nat) (hk : k < 10) (hr : t.rank = (k : Int) + 1) (hl : l + 1 < 2 ^ 4000) (h : OH) : pureF Sh.progress_before [d, .str t.name, .int l] h = .ok (dProg (progL ts t (k + 1) (LB ts k l) (LB ts (k + 1) l))) h := by
  refine pure_eq h (by simp [hd.pure]) (by simp [dProg]) ?_
  unfold Sh.progress_before; rw [W_fn]; unfold Sh.progress_before_b
  simp [hd.chk, memberOf ts t _ w ht, checkTick, progressOf w ht k l hk hr hl]
theorem ticksSpokenD {d : D} (hd : Hallish d ts) (w : WfHall T30 ts) (ht : t ∈ ts) (k l : Nat) (hk : k < 10) (hr : t.rank = (k : Int) + 1) (hl : l + 1 < 2 ^ 4000) (h : OH) : pureF Sh.ticks_spoken [d, .str t.name, .int l] h = .ok (.int (progL ts t (k + 1) (LB ts k l) (LB ts (k + 1) l)).2.2) h := by
  refine pure_eq h (by simp [hd.pure]) rfl ?_
  unfold Sh.ticks_spoken; rw [W_fn]; unfold Sh.ticks_spoken_b
  simp [progBeforeD hd w ht k l hk hr hl, dProg]
theorem ticksSpoken (w : WfHall T30 ts) (ht : t ∈ ts) (k l : Nat) (hk : k < 10) (hr : t.rank = (k : Int) + 1) (hl : l + 1 < 2 ^ 4000) (h : OH) : pureF Sh.ticks_spoken [.lst (ts.map dTk), .str t.name, .int l] h = .ok (.int (progL ts t (k + 1) (LB ts k l) (LB ts (k + 1) l)).2.2) h := ticksSpokenD (hallish w) w ht k l hk hr hl h
theorem talksBeforeD {d : D} (hd : Hallish d ts) (w : WfHall T30 ts) (ht : t ∈ ts) (k l : Nat) (hk : k < 10) (hr : t.rank = (k : Int) + 1) (hl : l + 1 < 2 ^ 4000) (h : OH) : pureF Sh.talks_before [d, .str t.name, .int l] h = .ok (.tup [.int (progL ts t (k + 1) (LB ts k l) (LB ts (k + 1) l)).1, .int (progL ts t (k + 1) (LB ts k l) (LB ts (k + 1) l)).2.1]) h := by
  refine pure_eq h (by simp [hd.pure]) (by simp) ?_
  unfold Sh.talks_before; rw [W_fn]; unfold Sh.talks_before_b
  simp [progBeforeD hd w ht k l hk hr hl, dProg, opCut, lsqAt, HT.sIx, cutD]
theorem talksBefore (w : WfHall T30 ts) (ht : t ∈ ts) (k l : Nat) (hk : k < 10) (hr : t.rank = (k : Int) + 1) (hl : l + 1 < 2 ^ 4000) (h : OH) : pureF Sh.talks_before [.lst (ts.map dTk), .str t.name, .int l] h = .ok (.tup [.int (progL ts t (k + 1) (LB ts k l) (LB ts (k + 1) l)).1, .int (progL ts t (k + 1) (LB ts k l) (LB ts (k + 1) l)).2.1]) h := talksBeforeD (hallish w) w ht k l hk hr hl h
theorem silentBeforeD {d : D} (hd : Hallish d ts) (w : WfHall T30 ts) (l : Nat) (hl : l < 2 ^ 4000) (h : OH) : pureF Sh.silent_before [d, .int l] h = .ok (.int (LB ts 10 l)) h := by
  refine pure_eq h (by simp [hd.pure]) rfl ?_
  have e1 : ∀ h, pureF Sh.silent_among [.lst (ts.map dMem), .int l] h = .ok (.int (LB ts 10 l)) h := fun h => by
    refine pure_eq h (by simp [hd.pure]) rfl ?_
    have e := leftAmong w 10 l (Nat.le_refl _) hl
    rw [show ((10 + 1 : Nat) : Int) = 11 from rfl] at e
    unfold Sh.silent_among; rw [W_fn]; unfold Sh.silent_among_b
    simp [e]
  unfold Sh.silent_before; rw [W_fn]; unfold Sh.silent_before_b
  simp [hd.chk, checkTick, e1]
theorem silentBefore (w : WfHall T30 ts) (l : Nat) (hl : l < 2 ^ 4000) (h : OH) : pureF Sh.silent_before [.lst (ts.map dTk), .int l] h = .ok (.int (LB ts 10 l)) h := silentBeforeD (hallish w) w l hl h
end
/-! ### the talkers of lower ranks alone -/
end HR
set_option Elab.async false
set_option linter.all false
set_option maxRecDepth 20000
set_option exponentiation.threshold 5000
namespace HR
open PySem L2
/-! ### the stream of the laws 70 and on: draw, talks, halls -/
def Spr4 (h : OH) (i : Nat) : Prop := ∃ a b : Int, h[i]? = some (.lst [.int a, .int b]) ∧ 0 ≤ b ∧ b < 2147483647
theorem Spr4.lt {h : OH} {i : Nat} (s : Spr4 h i) : i < h.length := by
  obtain ⟨a, b, e, _⟩ := s
  exact (List.getElem?_eq_some_iff.mp e).1
theorem Spr4.app {h : OH} {i : Nat} (s : Spr4 h i) (t : OH) : Spr4 (h ++ t) i := by
  have := s.lt
  obtain ⟨a, b, e, r⟩ := s
  exact ⟨a, b, by rw [List.getElem?_append_left this]; exact e, r⟩
theorem Spr4.set {h : OH} {i j : Nat} (s : Spr4 h i) (n : j ≠ i) (o : OO) : Spr4 (h.set j o) i := by
  obtain ⟨a, b, e, r⟩ := s
  exact ⟨a, b, by rw [List.getElem?_set_ne n]; exact e, r⟩
theorem draw4 {h : OH} {i : Nat} {n : Int} (hs : Spr4 h i) (hn : 0 < n) (hn2 : Small n) {P : D → OH → Prop} (q : ∀ v h', 0 ≤ v → v < n → Spr4 h' i → Chg i h h' → P (.int v) h') : (Sh.l_draw_4 [.ref i, .int n] h).W P := by
  have hi := hs.lt
  obtain ⟨a, b, e, b0, b1⟩ := hs
  unfold Sh.l_draw_4
  rw [W_fn]
  unfold Sh.l_draw_4_b
  have hd := divOk_small (i := a) hn2 hn
  have k1 : ∀ x : Int, 0 ≤ x % n := fun x => Int.emod_nonneg _ (by omega)
  have k2 : ∀ x : Int, x % n < n := fun x => Int.emod_lt_of_pos _ hn
  have hdv : ∀ x : Int, divOk x 8 = true := fun x => divOk_small (small_64 (by decide)) (by decide)
  have m1 : mulOk (b + 1) 48271 = true := mulOk_r (by decide)
  have p1 : ∀ x : Int, 0 ≤ x % 2147483647 ∧ x % 2147483647 < 2147483647 := fun x => ⟨Int.emod_nonneg _ (by decide), Int.emod_lt_of_pos _ (by decide)⟩
  have m2 : ∀ x : Int, mulOk (x % 2147483647) (x % 2147483647) = true := fun x => mulOk_r (by have := p1 x; omega)
  have m3 : ∀ x : Int, mulOk x 69621 = true := fun x => mulOk_r (by decide)
  have hset : ∀ o : OO, (h.set i o)[i]? = some o := fun o => by simp [hi]
  by_cases ha : 1000000000000000000 ≤ a
  · simp [e, ha, hd, hn, hset]
    exact q _ _ (k1 _) (k2 _) ⟨_, _, hset _, b0, b1⟩ (Chg.set ..)
  · simp [e, ha, hn, hset, hdv, m1, m2, m3]
    exact q _ _ (k1 _) (k2 _) ⟨_, _, hset _, (p1 _).1, (p1 _).2⟩ (Chg.set ..)
theorem talk4 {h : OH} {i : Nat} {m : Int} (hs : Spr4 h i) (hm : 0 < m) (hm2 : Small m) {P : D → OH → Prop} (q : ∀ (p : Int × Int) h', In1 m p → Spr4 h' i → Chg i h h' → P (dT p) h') : (Sh.l_talk_1 [.ref i, .int m] h).W P := by
  unfold Sh.l_talk_1
  rw [W_fn]
  unfold Sh.l_talk_1_b
  simp
  refine draw4 hs hm hm2 fun a h1 a0 a1 s1 c1 => ?_
  simp
  refine draw4 s1 hm hm2 fun b h2 b0 b1 s2 c2 => ?_
  simp
  exact q (1 + a, 1 + b) h2 ⟨by dsimp only; omega, by dsimp only; omega, by dsimp only; omega, by dsimp only; omega⟩ s2 (c1.trans c2)
/-- [_law_talk(stream, scale) for step in range(n)] -/
theorem talks4 {e : Env'} {h : OH} {i : Nat} {m : Int} (n : Nat) (hn : n ≤ 100) (hs : Spr4 h i) (hm : 0 < m) (hm2 : Small m) (he : ∀ x : D, ∀ h P, (sVar 0 (e.set 8 (some x)) h).W P = P (.ref i) h ∧ (sVar 4 (e.set 8 (some x)) h).W P = P (.int m) h) {P : List D → OH → Prop}
    (q : ∀ (ps : List (Int × Int)) h', ps.length = n → (∀ p ∈ ps, In1 m p) → Spr4 h' i → Chg i h h' → P (ps.map dT) h') : (lcGo (gN 8) sYes (sCall (withD [] Sh.l_talk_1) (sCons (sVar 0) (sCons (sVar 4) sNil))) e (rngD 0 n) h []).W P := by
  refine W_lcGo (fun k acc h' => Spr4 h' i ∧ Chg i h h' ∧ ∃ ps : List (Int × Int), acc = ps.map dT ∧ ps.length = k ∧ ∀ p ∈ ps, In1 m p) _ _ _ ⟨hs, Chg.refl i h, [], rfl, rfl, by simp⟩ (fun k d hd acc h' hI => ?_) (fun acc h' hI => ?_)
  · obtain ⟨s2, c2, ps, rfl, hk, hp⟩ := hI
    obtain ⟨hk2, rfl⟩ := rngD_at hd
    refine ⟨_, rfl, ?_⟩
    simp only [W_sYes, if_true, W_sCall, W_sCons, W_sNil, W_withD, List.append_nil, (he _ _ _).1, (he _ _ _).2]
    refine talk4 s2 hm hm2 fun p h3 ip s3 c3 => ?_
    refine ⟨by rw [List.length_map]; omega, s3, c2.trans c3, ps ++ [p], by simp, by simp [hk], fun x hx => ?_⟩
    rcases List.mem_append.mp hx with hx | hx
    · exact hp x hx
    · rw [List.mem_singleton.mp hx]; exact ip
  · obtain ⟨s2, c2, ps, rfl, hk, hp⟩ := hI
    rw [rngD_len] at hk
    exact q ps h' hk hp s2 c2
def NMS : List Str := ["a", "b", "c", "d", "e", "f", "g", "h", "i", "j"]
theorem nms_at : ∀ k : Nat, k < 10 → ∃ c, atI (("abcdefghij" : Str).cps.toList) (k : Int) = some c ∧ NMS[k]? = some ⟨#[c]⟩ := by
  intro k hk
  match k, hk with
  | 0, _ => exact ⟨97, by decide +kernel, by decide +kernel⟩
  | 1, _ => exact ⟨98, by decide +kernel, by decide +kernel⟩
  | 2, _ => exact ⟨99, by decide +kernel, by decide +kernel⟩
  | 3, _ => exact ⟨100, by decide +kernel, by decide +kernel⟩
  | 4, _ => exact ⟨101, by decide +kernel, by decide +kernel⟩
  | 5, _ => exact ⟨102, by decide +kernel, by decide +kernel⟩
  | 6, _ => exact ⟨103, by decide +kernel, by decide +kernel⟩
  | 7, _ => exact ⟨104, by decide +kernel, by decide +kernel⟩
  | 8, _ => exact ⟨105, by decide +kernel, by decide +kernel⟩
  | 9, _ => exact ⟨106, by decide +kernel, by decide +kernel⟩
  | k + 10, h => exact absurd h (by omega)
theorem nms_wf : ∀ x ∈ NMS, WfN x := by unfold WfN; decide +kernel
theorem nms_nd : NMS.Nodup := by decide +kernel
theorem W_ixS {z : Str} {i : Int} {c : Nat} {h : OH} {P : D → OH → Prop} (hz : z.length ≤ 1000000) (e : atI z.cps.toList i = some c) : (opIx (.str z) (.int i) h).W P = P (.str ⟨#[c]⟩) h := by
  have hz' : z.length ≤ big := hz
  simp [opIx, hz', e]
end HR
set_option Elab.async false
set_option linter.all false
set_option maxRecDepth 20000
set_option exponentiation.threshold 5000
namespace HR
open PySem L2
theorem hall4 {h : OH} {i : Nat} {most : Int} {ss : List Int} (hs : Spr4 h i) (h0 : 0 < most) (h1 : most ≤ 10) (hss : 0 < ss.length) (hss2 : ss.length ≤ 100) (hsc : ∀ s ∈ ss, 0 < s ∧ s ≤ T30) {P : D → OH → Prop}
    (q : ∀ (ts : List Tk) h', Spr4 h' i → Chg i h h' → 0 < ts.length → ts.length ≤ most → WfHall T30 ts → P (.lst (ts.map dTk)) h') : (Sh.l_hall_5 [.ref i, .int most, .lst (ss.map D.int)] h).W P := by
  have hi := hs.lt
  unfold Sh.l_hall_5
  rw [W_fn]
  unfold Sh.l_hall_5_b
  try simp
  refine draw4 (hs.app _) (by omega) (small_64 (by omega)) fun v h2 v0 v1 s2 c2 => ?_
  try simp
  refine pickI (ns := ss) v0 (by omega) fun m hm => ?_
  obtain ⟨m0, m1⟩ := hsc m hm
  have sm : Small m := small_lt 200 (by omega) (by simp only [T30] at m1; omega)
  try simp
  refine draw4 s2 h0 (small_64 (by omega)) fun w h3 w0 w1 s3 c3 => ?_
  have r : rngOk (1 + w) = true := by simp [rngOk]; omega
  simp [r]
  have hl2 : h.length + 1 ≤ h2.length := by simpa using c2.1
  have f3 : h3[h.length]? = some (.lst []) := c3.get (c2.get (by simp) (by omega)) (by omega)
  have cc : Chg i h h3 := (Chg.app i h _).trans (c2.trans c3)
  refine W_forL (fun k e h' => Spr4 h' i ∧ Chg i h h' ∧ ∃ (ts : List Tk) (a b c d x : Option D), e = [some (.ref i), some (.int most), some (.lst (ss.map D.int)), some (.ref h.length), some (.int m), a, b, c, d, x] ∧ h'[h.length]? = some (.lst (ts.map dTk)) ∧ ts.length = k ∧ ts.map (·.name) = NMS.take k ∧ ∀ t ∈ ts, WfTk T30 t) _ _ _
    ⟨s3, cc, [], _, _, _, _, _, rfl, f3, rfl, rfl, by simp⟩ (fun k d hd e h' hI => ?_) (fun e h' hI => ?_)
  · obtain ⟨s, c, ts, ea, eb, ec, ed, ex, rfl, g, hk, hnm, hw⟩ := hI
    obtain ⟨hk2, rfl⟩ := rngD_at hd
    have hk3 : k < 10 := by omega
    refine ⟨_, rfl, ?_⟩
    try simp
    refine draw4 s (by decide) (small_64 (by decide)) fun u h4 u0 u1 s4 c4 => ?_
    try simp
    refine pickI (ns := [2, 5, 10]) u0 u1 fun rk hrk => ?_
    have hrk' : 2 ≤ rk ∧ rk ≤ 10 := by simp at hrk; omega
    try simp
    refine draw4 s4 (by omega) (small_64 (by omega)) fun rr h5 rr0 rr1 s5 c5 => ?_
    try simp
    refine draw4 s5 (by decide) (small_64 (by decide)) fun p4 h6 p40 p41 s6 c6 => ?_
    try simp
    refine draw4 s6 (by decide) (small_64 (by decide)) fun p3 h7 p30 p31 s7 c7 => ?_
    try simp
    refine pickI (ns := [0, 0, p4]) p30 p31 fun np hnp => ?_
    have hnp' : 0 ≤ np ∧ np < 4 := by simp at hnp; omega
    have r2 : rngOk np = true := by simp [rngOk]; omega
    simp [r2, wipeD]
    refine talks4 np.toNat (by omega) s7 m0 sm (fun x h P => ⟨by simp, by simp⟩) fun pre h8 lp wp s8 c8 => ?_
    try simp
    refine draw4 s8 (by decide) (small_64 (by decide)) fun nc h9 nc0 nc1 s9 c9 => ?_
    have r3 : rngOk (1 + nc) = true := by simp [rngOk]; omega
    simp [r3, wipeD]
    refine talks4 (1 + nc).toNat (by omega) s9 m0 sm (fun x h P => ⟨by simp, by simp⟩) fun cyc hA lc wc sA cA => ?_
    have cT := c4.trans (c5.trans (c6.trans (c7.trans (c8.trans (c9.trans cA)))))
    have gA := cT.get g (by omega)
    obtain ⟨ch, ec1, ec2⟩ := nms_at k hk3
    have lz : ("abcdefghij" : Str).length ≤ 1000000 := by decide +kernel
    simp [gA, W_ixS lz ec1]
    have hx : (⟨#[ch]⟩ : Str) ∈ NMS := List.mem_of_getElem? ec2
    refine ⟨by omega, sA.set (by omega) _, (c.trans cT).setNew (by omega) _, ts ++ [⟨⟨#[ch]⟩, 1 + rr, pre, cyc⟩], ?_, by simp [hk], ?_, ?_⟩
    · rw [List.getElem?_set_self (List.getElem?_eq_some_iff.mp gA).1]; simp [dTk]
    · rw [List.map_append, hnm, List.take_succ, ec2]; rfl
    · intro t htm
      rcases List.mem_append.mp htm with htm | htm
      · exact hw t htm
      · simp only [List.mem_singleton] at htm
        subst htm
        exact ⟨nms_wf _ hx, by dsimp only; omega, by dsimp only; omega, by dsimp only; omega, by dsimp only; omega, by dsimp only; omega, fun p hp => (wp p hp).mono m1, fun p hp => (wc p hp).mono m1⟩
  · obtain ⟨s, c, ts, ea, eb, ec, ed, ex, rfl, g, hk, hnm, hw⟩ := hI
    rw [rngD_len] at hk hnm
    simp [g]
    refine q ts _ (s.set (by omega) _) (c.setNew (by omega) _) (by omega) (by omega) ⟨by omega, hw, ?_⟩
    rw [hnm]
    exact (List.take_sublist _ _).nodup nms_nd
end HR
set_option Elab.async false
set_option linter.all false
set_option maxRecDepth 20000
namespace HR
open PySem L2
/-! ### how long a repr may be -/
theorem join_up : ∀ (ts : List Str) (n : Nat), (∀ t ∈ ts, t.length ≤ n) → (Str.join ", " ts).length ≤ ts.length * (n + 2)
  | [], n, _ => by
    show (0 : Nat) ≤ _
    omega
  | [t], n, hn => by
    have h1 := hn t List.mem_cons_self
    show t.length ≤ _
    simp only [List.length_cons, List.length_nil]
    omega
  | t :: u :: r, n, hn => by
    have h1 := hn t List.mem_cons_self
    have h2 := join_up (u :: r) n fun y hy => hn y (List.mem_cons_of_mem _ hy)
    have e : Str.join ", " (t :: u :: r) = t ++ ((", " : String) : Str) ++ Str.join ", " (u :: r) := rfl
    rw [e, strLen_append, strLen_append]
    have c : ((", " : String) : Str).length = 2 := rfl
    simp only [List.length_cons, Nat.add_mul] at h2 ⊢
    omega
theorem tupleText_up {ts : List Str} {n : Nat} (hn : ∀ t ∈ ts, t.length ≤ n) : (tupleText ts).length ≤ ts.length * (n + 2) + 3 := by
  have := join_up ts n hn
  unfold tupleText
  rw [strLen_append, strLen_append]
  have a : (("(" : String) : Str).length = 1 := rfl
  have b : ((if ts.length == 1 then ",)" else ")" : String) : Str).length ≤ 2 := by split <;> decide
  omega
/-- d is read as p: shown within n signs, of depth at most k -/
structure RpP (d : D) (p : PyData) (k n : Nat) : Prop where
  py : ∀ get, pyR get d = some p
  sh : p.showable = true
  dp : p.depth ≤ k
  ln : p.shown.length ≤ n
def Rp (d : D) (k n : Nat) : Prop := ∃ p, RpP d p k n
theorem Rp.mono {d : D} {k n k' n' : Nat} (h : Rp d k n) (hk : k ≤ k') (hn : n ≤ n') : Rp d k' n' := let ⟨p, a, b, c, e⟩ := h; ⟨p, a, b, Nat.le_trans c hk, Nat.le_trans e hn⟩
theorem rp_int {i : Int} {k : Nat} (hk : 0 < k) (hk2 : k ≤ 1920) (h : i.natAbs < 2 ^ k) : Rp (.int i) 0 (k + 1) := by
  have hl : i.natAbs.log2 < k := by
    by_cases h0 : i.natAbs = 0
    · rw [h0]; simpa using hk
    · exact (Nat.log2_lt h0).mpr h
  refine ⟨.int i, fun _ => rfl, by simp only [PyData.showable, decide_eq_true_eq]; omega, Nat.le_refl _, ?_⟩
  simp only [PyData.shown]
  have := int_text_length_le hk hl
  rw [ofString_length]
  exact this
theorem rp_str {x : Str} (h : ∀ c ∈ x.cps.toList, c < 16 ^ 8) : Rp (.str x) 0 (10 * x.length + 2) := by
  refine ⟨.str x, fun _ => rfl, rfl, Nat.le_refl _, ?_⟩
  simp only [PyData.shown]
  have := StrLaws.foldl_repr_len (reprQuote x) x.cps.toList #[reprQuote x] h
  show (reprText x).cps.size ≤ _
  unfold reprText
  rw [Array.size_push, ← Array.foldl_toList]
  have e : x.cps.toList.length = x.length := by simp [Str.length]
  simp only [List.size_toArray, List.length_cons, List.length_nil] at this
  omega
theorem rpL {k n : Nat} : ∀ {ds : List D}, (∀ d ∈ ds, Rp d k n) → ∃ ps, (∀ get, pyRL get ds = some ps) ∧ PyData.showableAll ps = true ∧ PyData.depthAll ps ≤ k ∧ (∀ t ∈ PyData.shownAll ps, t.length ≤ n) ∧ (PyData.shownAll ps).length = ds.length
  | [], _ => ⟨[], fun _ => rfl, rfl, Nat.zero_le _, (fun _ h => by cases h), rfl⟩
  | d :: ds, h => by
    obtain ⟨p, a, b, c, e⟩ := h d List.mem_cons_self
    obtain ⟨ps, a2, b2, c2, e2, l2⟩ := rpL fun y hy => h y (List.mem_cons_of_mem _ hy)
    refine ⟨p :: ps, fun get => by simp [pyRL, a get, a2 get], by simp [PyData.showableAll, b, b2], by simp only [PyData.depthAll]; omega, fun t ht => ?_, by simp [PyData.shownAll, l2]⟩
    simp only [PyData.shownAll, List.mem_cons] at ht
    rcases ht with rfl | ht
    · exact e
    · exact e2 t ht
theorem rp_tup {ds : List D} {k n : Nat} (h : ∀ d ∈ ds, Rp d k n) : Rp (.tup ds) (k + 1) (ds.length * (n + 2) + 3) := by
  obtain ⟨ps, a, b, c, e, l⟩ := rpL h
  refine ⟨.tuple ps, fun get => by simp [pyR, a get], by simp [PyData.showable, b], by simp only [PyData.depth]; omega, ?_⟩
  simp only [PyData.shown]
  rw [← l]
  exact tupleText_up e
end HR
set_option Elab.async false
set_option linter.all false
set_option maxRecDepth 20000
set_option exponentiation.threshold 5000
namespace HR
open PySem L2
/-! ### values that are no halls -/
def gTk : Tk := ⟨"k", 1, [], [(1, 1)]⟩
/-! what they are to repr -/
/-! the def that draws one -/
@[simp] theorem W_dct0 (e : Env') (h : OH) {PD : D → OH → Prop} : (sDct0 e h).W PD = PD (.dct []) h := rfl
end HR
set_option Elab.async false
set_option linter.all false
set_option maxRecDepth 20000
set_option exponentiation.threshold 5000
set_option Elab.async false
set_option linter.all false
set_option maxRecDepth 20000
set_option exponentiation.threshold 5000
namespace HR
open PySem L2
/-! ### small things of the laws of errors -/
@[simp] theorem W_eqNS (neg : Bool) (y : Str) (h : OH) {PD : D → OH → Prop} (hy : PyData.strOk y = true) : (opEq neg .non (.str y) h).W PD = PD (.bl neg) h := by
  simp [opEq, SeqAt.shaped, PyData.canLay0, PyData.depth, PyData.eqv, hy]
end HR
set_option Elab.async false
set_option linter.all false
set_option maxRecDepth 20000
namespace HR
open PySem L2
/-! ### the bag of the laws of records and texts: draws -/
/-- the bag at i, after at most c draws -/
def Bag (ns : List Int) (h : OH) (i c : Nat) : Prop := ∃ p rest cnt total : Int, h[i]? = some (.lst [.lst (ns.map D.int), .int p, .int rest, .int cnt, .int total]) ∧ 0 ≤ p ∧ p ≤ ns.length ∧ 0 ≤ cnt ∧ cnt ≤ c ∧ 0 ≤ total ∧ total < 2305843009213693951
section
variable {ns : List Int} {h : OH} {i c : Nat}
theorem Bag.lt (s : Bag ns h i c) : i < h.length := by
  obtain ⟨p, r, n, t, e, _⟩ := s
  exact (List.getElem?_eq_some_iff.mp e).1
theorem Bag.mono {c' : Nat} (s : Bag ns h i c) (hc : c ≤ c') : Bag ns h i c' := by
  obtain ⟨p, r, n, t, e, a1, a2, a3, a4, a5⟩ := s
  exact ⟨p, r, n, t, e, a1, a2, a3, by omega, a5⟩
theorem Bag.app (s : Bag ns h i c) (t : OH) : Bag ns (h ++ t) i c := by
  have := s.lt
  obtain ⟨p, r, n, t', e, q⟩ := s
  exact ⟨p, r, n, t', by rw [List.getElem?_append_left this]; exact e, q⟩
theorem Bag.set {j : Nat} (s : Bag ns h i c) (n : j ≠ i) (o : OO) : Bag ns (h.set j o) i c := by
  obtain ⟨p, r, m, t, e, q⟩ := s
  exact ⟨p, r, m, t, by rw [List.getElem?_set_ne n]; exact e, q⟩
end
end HR
set_option Elab.async false
set_option linter.all false
set_option maxRecDepth 20000
namespace HR
open PySem L2
/-! ### records as texts -/
abbrev Item := Option Str
def dI : Item → D
  | none => .non
  | some x => .str x
theorem pure_dI (x : Item) : (dI x).pure = true := by cases x <;> rfl
@[simp] theorem pureL_dI (xs : List Item) : D.pureL (xs.map dI) = true := pureL_map _ pure_dI xs
@[simp] theorem ok_dash : PyData.strOk "-" = true := by decide +kernel
@[simp] theorem W_sM1 (g : Str → D → OH → Res D) (o a : SE) (e : Env') (h : OH) {PD : D → OH → Prop} : (sM1 g o a e h).W PD = (o e h).W fun x h1 => match x with | .str s => (a e h1).W fun d h2 => (g s d h2).W PD | _ => False := by
  unfold sM1
  rw [W_bind]
  congr; funext x h1
  cases x with
  | str s => rw [W_bind]
  | _ => rfl
end HR
set_option Elab.async false
set_option linter.all false
set_option maxRecDepth 20000
set_option exponentiation.threshold 5000
namespace HR
open PySem L2
/-! ### the simulation: it runs through -/
def runFs (t : Tk) (i : Nat) (b : Bool) (sp wt : Int) : List (String × D) := [("member", dMem t), ("index", .int i), ("is_ready", .bl b), ("spoken", .int sp), ("waited", .int wt)]
def oRun (t : Tk) (i : Nat) (b : Bool) (sp wt : Int) : OO := .ins "Running" (runFs t i b sp wt)
@[simp] theorem W_make (K : String) (g : FN) (a : SA) (e : Env') (h : OH) {PD : D → OH → Prop} : (sMake K g a e h).W PD = (a e h).W fun ys h1 => (g (.ref h1.length :: ys) (h1 ++ [.ins K []])).W fun d h2 => (match d with | .non => PD (.ref h1.length) h2 | _ => False) := by
  unfold sMake
  rw [W_bind]
  congr; funext ys h1
  rw [W_bind, W_noX]
  congr; funext d h2
  cases d <;> rfl
@[simp] theorem SW_fldA (K f : String) (o v : SE) (e : Env') (h : OH) {N C B : Env' → OH → Prop} {R : D → OH → Prop} : (sFldA K f o v e h).W N C B R = (o e h).W fun x h1 => isR x fun n => lkI h1[n]? fun K' fs => if K' = K then (lkS (fs.lookup f) fun d => match d with
    | .int i => (v e h1).W fun y h2 => (match y with
      | .int j => lkI h2[n]? fun K2 fs2 => if K2 = K ∧ fs2.length < 900 then N e (h2.set n (.ins K (putS f (.int (i + j)) fs2))) else False
      | _ => False)
    | _ => False) else False := by
  unfold sFldA
  rw [W_toS]
  congr; funext x h1
  cases x with
  | ref n =>
    dsimp only [isR]
    cases h1[n]? with
    | none => rfl
    | some ob =>
      cases ob with
      | ins K' fs =>
        simp only [lkI_ins]
        by_cases q : K' = K
        · rw [if_pos q, if_pos q]
          cases fs.lookup f with
          | none => rfl
          | some d =>
            simp only [lkS_some]
            cases d with
            | int i =>
              dsimp only
              rw [W_toS]
              congr; funext y h2
              cases y with
              | int j =>
                cases h2[n]? with
                | none => rfl
                | some ob2 =>
                  cases ob2 with
                  | ins K2 fs2 => simp only [lkI_ins]; split <;> rfl
                  | _ => rfl
              | _ => cases h2[n]? <;> rfl
            | _ => rfl
        · rw [if_neg q, if_neg q]; rfl
      | _ => rfl
  | _ => rfl
section
variable {t : Tk} {i : Nat} {b : Bool} {sp wt : Int}
@[simp] theorem rf_member : (runFs t i b sp wt).lookup "member" = some (dMem t) := rfl
@[simp] theorem rf_index : (runFs t i b sp wt).lookup "index" = some (.int i) := rfl
@[simp] theorem rf_ready : (runFs t i b sp wt).lookup "is_ready" = some (.bl b) := rfl
@[simp] theorem rf_spoken : (runFs t i b sp wt).lookup "spoken" = some (.int sp) := rfl
@[simp] theorem rf_waited : (runFs t i b sp wt).lookup "waited" = some (.int wt) := rfl
@[simp] theorem rf_len : (runFs t i b sp wt).length = 5 := rfl
@[simp] theorem rf_wait : hasNo (runFs t i b sp wt) "wait" = True := eq_true rfl
@[simp] theorem rf_speak : hasNo (runFs t i b sp wt) "speak" = True := eq_true rfl
@[simp] theorem put_index : putS "index" (.int ((i : Int) + 1)) (runFs t i b sp wt) = runFs t (i + 1) b sp wt := by simp [putS, runFs]
@[simp] theorem put_ready (x : Bool) : putS "is_ready" (.bl x) (runFs t i b sp wt) = runFs t i x sp wt := by simp [putS, runFs]
@[simp] theorem put_spoken (x : Int) : putS "spoken" (.int x) (runFs t i b sp wt) = runFs t i b x wt := by simp [putS, runFs]
@[simp] theorem put_waited (x : Int) : putS "waited" (.int x) (runFs t i b sp wt) = runFs t i b sp x := by simp [putS, runFs]
@[simp] theorem put_all : putS "waited" (.int 0) (putS "spoken" (.int 0) (putS "is_ready" (.bl false) (putS "index" (.int 0) (putS "member" (dMem t) [])))) = runFs t 0 false 0 0 := by simp [putS, runFs]
@[simp] theorem ins_set {h : OH} {n : Nat} {C : String} {fs : List (String × D)} (lt : n < h.length) : insAt (h.set n (.ins C fs)) (.ref n) = some (C, fs) := ins_ref (by simp [lt])
end
/-- the instances of all talkers, in order, from 0 on; K: no index is above -/
def RunSt (ts : List Tk) (h : OH) (K : Nat) : Prop := ∀ (k : Nat) (t : Tk), ts[k]? = some t → ∃ (i : Nat) (b : Bool) (sp wt : Int), i ≤ K ∧ h[k]? = some (oRun t i b sp wt)
section
variable {ts : List Tk} {h : OH} {K : Nat}
def rkAt (ts : List Tk) (k : Nat) : Int := (ts.getD k gTk).rank
end
end HR
set_option Elab.async false
set_option linter.all false
set_option maxRecDepth 20000
set_option exponentiation.threshold 5000
namespace HR
open PySem L2
section
variable {ts : List Tk} {h : OH} {K : Nat}
theorem RunSt.mono {K' : Nat} (S : RunSt ts h K) (hk : K ≤ K') : RunSt ts h K' := fun k t e => by
  obtain ⟨i, b, sp, wt, a, q⟩ := S k t e
  exact ⟨i, b, sp, wt, by omega, q⟩
theorem RunSt.lt (S : RunSt ts h K) {k : Nat} (hk : k < ts.length) : k < h.length := by
  obtain ⟨i, b, sp, wt, _, q⟩ := S k ts[k] (by simp [hk])
  exact (List.getElem?_eq_some_iff.mp q).1
theorem RunSt.other (S : RunSt ts h K) {n : Nat} (hn : ts.length ≤ n) (o : OO) : RunSt ts (h.set n o) K := fun k t e => by
  obtain ⟨i, b, sp, wt, a, q⟩ := S k t e
  have := (List.getElem?_eq_some_iff.mp e).1
  exact ⟨i, b, sp, wt, a, by rw [List.getElem?_set_ne (by omega)]; exact q⟩
theorem RunSt.app (S : RunSt ts h K) (o : OH) : RunSt ts (h ++ o) K := fun k t e => by
  obtain ⟨i, b, sp, wt, a, q⟩ := S k t e
  exact ⟨i, b, sp, wt, a, by rw [List.getElem?_append_left (List.getElem?_eq_some_iff.mp q).1]; exact q⟩
theorem RunSt.put (S : RunSt ts h K) {k : Nat} {t : Tk} (e : ts[k]? = some t) {i : Nat} {b : Bool} {sp wt : Int} {K' : Nat} (hi : i ≤ K') (hK : K ≤ K') : RunSt ts (h.set k (oRun t i b sp wt)) K' := fun j u q => by
  by_cases z : k = j
  · subst z
    rw [e] at q
    cases q
    have lt := S.lt (List.getElem?_eq_some_iff.mp e).1
    exact ⟨i, b, sp, wt, hi, by rw [List.getElem?_set_self lt]⟩
  · obtain ⟨i2, b2, sp2, wt2, a, r⟩ := S j u q
    exact ⟨i2, b2, sp2, wt2, by omega, by rw [List.getElem?_set_ne z]; exact r⟩
theorem RunSt.at_ (S : RunSt ts h K) {k : Nat} (hk : k < ts.length) : ∃ (i : Nat) (b : Bool) (sp wt : Int), i ≤ K ∧ h[k]? = some (oRun ts[k] i b sp wt) := S k ts[k] (by simp [hk])
end
end HR
set_option Elab.async false
set_option linter.all false
set_option maxRecDepth 20000
set_option exponentiation.threshold 5000
namespace HR
open PySem L2
/-! ### divisors and multiples -/
/-- the binary length -/
def bl2 (a : Nat) : Nat := if a = 0 then 0 else a.log2 + 1
theorem bl2_half {a r : Nat} (h0 : 0 < r) (h : 2 * r ≤ a) : bl2 r + 1 ≤ bl2 a := by
  unfold bl2
  rw [if_neg (by omega), if_neg (by omega)]
  have e : 2 ^ r.log2 ≤ r := Nat.log2_self_le (by omega)
  have := (Nat.le_log2 (k := r.log2 + 1) (n := a) (by omega)).mpr (by rw [Nat.pow_succ]; omega)
  omega
theorem bl2_mono {a b : Nat} (h : a ≤ b) : bl2 a ≤ bl2 b := by
  unfold bl2
  by_cases ha : a = 0
  · rw [if_pos ha]; exact Nat.zero_le _
  · rw [if_neg ha, if_neg (by omega)]
    have e : 2 ^ a.log2 ≤ a := Nat.log2_self_le ha
    have := (Nat.le_log2 (k := a.log2) (n := b) (by omega)).mpr (by omega)
    omega
theorem bl2_lt {a k : Nat} (h : a < 2 ^ k) : bl2 a ≤ k := by
  unfold bl2
  by_cases ha : a = 0
  · rw [if_pos ha]; exact Nat.zero_le _
  · rw [if_neg ha]
    have := (Nat.log2_lt ha).mpr h
    omega
theorem bl2_mul (a b : Nat) : bl2 (a * b) ≤ bl2 a + bl2 b := by
  by_cases ha : a = 0
  · subst ha; simp [bl2]
  · by_cases hb : b = 0
    · subst hb; simp [bl2]
    · refine bl2_lt ?_
      have h1 : a < 2 ^ bl2 a := by unfold bl2; rw [if_neg ha]; exact Nat.lt_log2_self
      have h2 : b < 2 ^ bl2 b := by unfold bl2; rw [if_neg hb]; exact Nat.lt_log2_self
      rw [Nat.pow_add]
      exact Nat.mul_lt_mul'' h1 h2
theorem bl2_log {a k : Nat} (h : bl2 a ≤ k) : a.log2 ≤ k := by
  unfold bl2 at h
  split at h
  · rename_i e; subst e; simp
  · omega
theorem mulOk_bl {a b : Nat} (h : bl2 a + bl2 b < 900000) : mulOk (a : Int) (b : Int) = true := by
  have h1 := bl2_log (Nat.le_refl (bl2 a))
  have h2 := bl2_log (Nat.le_refl (bl2 b))
  simp only [mulOk, Int.natAbs_natCast, Bool.or_eq_true, decide_eq_true_eq]
  right
  omega
theorem divOk_bl {i : Int} {b : Nat} (h0 : 0 < b) (h : bl2 b < 9000) : divOk i (b : Int) = true := by
  have h1 := bl2_log (Nat.le_refl (bl2 b))
  simp only [divOk, Int.natAbs_natCast, Bool.and_eq_true, decide_eq_true_eq]
  exact ⟨by omega, by omega⟩
/-- how far a step of the division algorithm is from its end -/
def gmu (a b : Nat) : Nat := 2 * (bl2 a + bl2 b) + if a < b then 1 else 0
theorem gmu_step {a b : Nat} (h : 0 < b) : gmu b (a % b) < gmu a b := by
  unfold gmu
  have hr := Nat.mod_lt a h
  rw [if_neg (by omega)]
  by_cases c : a < b
  · rw [if_pos c, Nat.mod_eq_of_lt c]; omega
  · rw [if_neg c]
    by_cases z : a % b = 0
    · rw [z]
      have : 1 ≤ bl2 a := by unfold bl2; rw [if_neg (by omega)]; omega
      have e0 : bl2 0 = 0 := rfl
      omega
    · have := Nat.div_add_mod a b
      have q : 1 ≤ a / b := Nat.div_pos (by omega) h
      have q2 : b ≤ b * (a / b) := Nat.le_mul_of_pos_right b q
      have := bl2_half (a := a) (r := a % b) (by omega) (by omega)
      omega
theorem gcd_ok {a b : Nat} (h : OH) (hb : bl2 a + bl2 b < 400000) : pureF Sh.common_divisor [.int (a : Int), .int (b : Int)] h = .ok (.int ((Nat.gcd a b : Nat) : Int)) h := by
  refine pure_eq h rfl rfl ?_
  unfold Sh.common_divisor; rw [W_fn]; unfold Sh.common_divisor_b
  refine SW_seqK fun K hK => ?_
  refine W_while (I := fun e _ => ∃ x y : Nat, e = [some (.int (x : Int)), some (.int (y : Int))] ∧ Nat.gcd x y = Nat.gcd a b) (fun e _ => match e with
    | [some (.int x), some (.int y)] => gmu x.toNat y.toNat
    | _ => 0) ⟨a, b, rfl, rfl⟩ (by show gmu (a : Int).toNat (b : Int).toNat < 1000000; simp only [Int.toNat_natCast, gmu]; split <;> omega) fun e h hI => ?_
  obtain ⟨x, y, rfl, hg⟩ := hI
  simp
  by_cases hy : 0 < y
  · have hy2 : (0 : Int) < y := by omega
    simp [sPar, hy, hy2]
    exact ⟨⟨y, x % y, ⟨rfl, rfl⟩, by rw [← hg, Nat.gcd_comm x y, Nat.gcd_rec y x, Nat.gcd_comm]⟩, gmu_step hy⟩
  · have hy0 : y = 0 := by omega
    subst hy0
    simp
    refine hK _ _ ?_
    simp
    rw [← hg]
    simp
theorem lcm_ok {a b : Nat} (h : OH) (ha : 0 < a) (hb : bl2 a + bl2 b < 4000) : pureF Sh.common_multiple [.int (a : Int), .int (b : Int)] h = .ok (.int ((Nat.lcm a b : Nat) : Int)) h := by
  refine pure_eq h rfl rfl ?_
  unfold Sh.common_multiple; rw [W_fn]; unfold Sh.common_multiple_b
  have g0 : 0 < Nat.gcd a b := Nat.gcd_pos_of_pos_left _ ha
  have g1 : bl2 (Nat.gcd a b) ≤ bl2 a := bl2_mono (Nat.gcd_le_left _ ha)
  have d1 : divOk (a : Int) ((Nat.gcd a b : Nat) : Int) = true := divOk_bl g0 (by omega)
  have e1 : (a : Int) / ((Nat.gcd a b : Nat) : Int) = ((a / Nat.gcd a b : Nat) : Int) := rfl
  have m1 : mulOk ((a / Nat.gcd a b : Nat) : Int) (b : Int) = true := mulOk_bl (by have := bl2_mono (Nat.div_le_self a (Nat.gcd a b)); omega)
  have e2 : ((a / Nat.gcd a b : Nat) : Int) * (b : Int) = ((Nat.lcm a b : Nat) : Int) := by
    rw [← Int.natCast_mul]
    congr 1
    rw [Nat.lcm, Nat.div_mul_right_comm (Nat.gcd_dvd_left a b)]
  have gc := fun h => gcd_ok (a := a) (b := b) h (by omega)
  simp [gc, d1]
  rw [e1, m1, e2]
  exact ⟨rfl, rfl⟩
end HR
set_option Elab.async false
set_option linter.all false
set_option maxRecDepth 20000
set_option exponentiation.threshold 5000
namespace HR
open PySem L2
/-! ### shares: the maths -/
/-- the silences of a cycle, its talks -/
def qs (t : Tk) : Nat := ((t.cyc.map fun p : Int × Int => p.1).sum).toNat
def ql (t : Tk) : Nat := ((t.cyc.map fun p : Int × Int => p.2).sum).toNat
theorem sum_rng {f : Int × Int → Int} {m : Int} : ∀ {l : List (Int × Int)}, (∀ p ∈ l, 1 ≤ f p ∧ f p ≤ m) → (l.length : Int) ≤ (l.map f).sum ∧ (l.map f).sum ≤ l.length * m
  | [], _ => by simp
  | p :: l, h => by
    have a := h p List.mem_cons_self
    have b := sum_rng (l := l) fun q hq => h q (List.mem_cons_of_mem _ hq)
    simp only [List.map_cons, List.sum_cons, List.length_cons]
    have e : ((l.length + 1 : Nat) : Int) * m = l.length * m + m := by rw [Int.natCast_add, Int.add_mul]; simp
    rw [e]
    omega
theorem t30_bl {n : Nat} (h : (n : Int) ≤ 8 * T30) : bl2 n ≤ 103 := bl2_lt (by simp only [T30] at h; omega)
section
variable {t : Tk} (w : WfTk T30 t)
include w
theorem qs_int : (t.cyc.map (·.1)).sum = (qs t : Int) := by
  have := (sum_rng (f := (·.1)) (m := T30) (l := t.cyc) fun p hp => ⟨(w.cyc p hp).1, (w.cyc p hp).2.1⟩).1
  unfold qs
  omega
theorem ql_int : (t.cyc.map (·.2)).sum = (ql t : Int) := by
  have := (sum_rng (f := (·.2)) (m := T30) (l := t.cyc) fun p hp => ⟨(w.cyc p hp).2.2.1, (w.cyc p hp).2.2.2⟩).1
  unfold ql
  omega
theorem qs_pos : 0 < qs t := by
  have := (sum_rng (f := (·.1)) (m := T30) (l := t.cyc) fun p hp => ⟨(w.cyc p hp).1, (w.cyc p hp).2.1⟩).1
  have := w.lc1
  have := qs_int w
  omega
theorem len_t30 : (t.cyc.length : Int) * T30 ≤ 8 * T30 := Int.mul_le_mul_of_nonneg_right (by have := w.lc; omega) (by decide)
theorem qs_bl : bl2 (qs t) ≤ 103 := t30_bl (by
  have := (sum_rng (f := (·.1)) (m := T30) (l := t.cyc) fun p hp => ⟨(w.cyc p hp).1, (w.cyc p hp).2.1⟩).2
  have := len_t30 w
  have := qs_int w
  omega)
theorem ql_bl : bl2 (ql t) ≤ 103 := t30_bl (by
  have := (sum_rng (f := (·.2)) (m := T30) (l := t.cyc) fun p hp => ⟨(w.cyc p hp).2.2.1, (w.cyc p hp).2.2.2⟩).2
  have := len_t30 w
  have := ql_int w
  omega)
end
/-- the talkers of a rank -/
def mt (ts : List Tk) (r : Nat) : List Tk := ts.filter fun t => decide (t.rank = (r : Int))
/-- the talkers down to a rank -/
def mu (ts : List Tk) (r : Nat) : List Tk := ts.filter fun t => decide (t.rank ≤ (r : Int))
theorem mu_sum (f : Tk → Nat) (r : Nat) : ∀ ts : List Tk, ((mu ts (r + 1)).map f).sum = ((mu ts r).map f).sum + ((mt ts (r + 1)).map f).sum
  | [] => rfl
  | t :: ts => by
    have ih := mu_sum f r ts
    unfold mu mt at *
    simp only [List.filter_cons]
    by_cases a : t.rank ≤ (r : Int)
    · have da : decide (t.rank ≤ (r : Int)) = true := decide_eq_true a
      have db : decide (t.rank ≤ ((r + 1 : Nat) : Int)) = true := decide_eq_true (by omega)
      have dc : decide (t.rank = ((r + 1 : Nat) : Int)) = false := decide_eq_false (by omega)
      simp only [da, db, dc, if_true, Bool.false_eq_true, if_false, List.map_cons, List.sum_cons]
      omega
    · have da : decide (t.rank ≤ (r : Int)) = false := decide_eq_false a
      by_cases c : t.rank = ((r + 1 : Nat) : Int)
      · have db : decide (t.rank ≤ ((r + 1 : Nat) : Int)) = true := decide_eq_true (by omega)
        have dc : decide (t.rank = ((r + 1 : Nat) : Int)) = true := decide_eq_true c
        simp only [da, db, dc, if_true, Bool.false_eq_true, if_false, List.map_cons, List.sum_cons]
        omega
      · have db : decide (t.rank ≤ ((r + 1 : Nat) : Int)) = false := decide_eq_false (by omega)
        have dc : decide (t.rank = ((r + 1 : Nat) : Int)) = false := decide_eq_false c
        simp only [da, db, dc, Bool.false_eq_true, if_false]
        exact ih
theorem sum_ones (l : List Tk) : (l.map fun _ => 1).sum = l.length := by
  induction l with
  | nil => rfl
  | cons x l ih => rw [List.map_cons, List.sum_cons, ih, List.length_cons]; omega
theorem mu_len (r : Nat) (ts : List Tk) : (mu ts (r + 1)).length = (mu ts r).length + (mt ts (r + 1)).length := by
  have := mu_sum (fun _ => 1) r ts
  rw [sum_ones, sum_ones, sum_ones] at this
  exact this
theorem mu_all {ts : List Tk} (h : ∀ t ∈ ts, t.rank ≤ 10) : mu ts 10 = ts := List.filter_eq_self.mpr fun t ht => decide_eq_true (h t ht)
theorem mu_zero {ts : List Tk} (h : ∀ t ∈ ts, 1 ≤ t.rank) : mu ts 0 = [] := List.filter_eq_nil_iff.mpr fun t ht => by
  have := h t ht
  simp only [decide_eq_true_eq]
  omega
/-- how long a rank takes for its silences: Q, a common multiple of them -/
structure QF (Q : List Tk → Nat) : Prop where
  nil : Q [] = 1
  dvd : ∀ {us : List Tk} {u : Tk}, u ∈ us → qs u ∣ Q us
  pos : ∀ {us : List Tk}, (∀ u ∈ us, 0 < qs u) → 0 < Q us
  bl : ∀ {us : List Tk}, (∀ u ∈ us, bl2 (qs u) ≤ 103) → bl2 (Q us) ≤ 1 + 103 * us.length
  dl : ∀ {us : List Tk} {u : Tk}, (∀ u ∈ us, bl2 (qs u) ≤ 103 ∧ 0 < qs u) → u ∈ us → bl2 (Q us / qs u) + 103 ≤ 1 + 103 * us.length
def lcmL (us : List Tk) : Nat := us.foldl (fun a u => Nat.lcm a (qs u)) 1
def prL (us : List Tk) : Nat := us.foldl (fun a u => a * qs u) 1
theorem lcmF_dvd : ∀ (us : List Tk) (a : Nat), a ∣ us.foldl (fun a u => Nat.lcm a (qs u)) a ∧ ∀ u ∈ us, qs u ∣ us.foldl (fun a u => Nat.lcm a (qs u)) a
  | [], a => ⟨Nat.dvd_refl _, by simp⟩
  | v :: us, a => by
    obtain ⟨h1, h2⟩ := lcmF_dvd us (Nat.lcm a (qs v))
    simp only [List.foldl_cons]
    refine ⟨Nat.dvd_trans (Nat.dvd_lcm_left _ _) h1, fun u hu => ?_⟩
    rcases List.mem_cons.mp hu with rfl | hu
    · exact Nat.dvd_trans (Nat.dvd_lcm_right _ _) h1
    · exact h2 u hu
theorem prF_mul : ∀ (us : List Tk) (a : Nat), us.foldl (fun a u => a * qs u) a = a * us.foldl (fun a u => a * qs u) 1
  | [], a => by simp
  | v :: us, a => by
    simp only [List.foldl_cons]
    rw [prF_mul us (a * qs v), prF_mul us (1 * qs v), Nat.one_mul, Nat.mul_assoc]
theorem prL_cons (v : Tk) (us : List Tk) : prL (v :: us) = qs v * prL us := by
  unfold prL
  rw [List.foldl_cons, prF_mul, Nat.one_mul]
theorem lcmF_pr : ∀ (us : List Tk) (a : Nat), us.foldl (fun a u => Nat.lcm a (qs u)) a ∣ a * prL us
  | [], a => by simp [prL]
  | v :: us, a => by
    simp only [List.foldl_cons]
    rw [prL_cons, ← Nat.mul_assoc]
    refine Nat.dvd_trans (lcmF_pr us _) (Nat.mul_dvd_mul_right ?_ _)
    exact Nat.lcm_dvd_mul _ _
theorem prL_pos {us : List Tk} (h : ∀ u ∈ us, 0 < qs u) : 0 < prL us := by
  induction us with
  | nil => decide
  | cons v us ih =>
    rw [prL_cons]
    exact Nat.mul_pos (h v List.mem_cons_self) (ih fun u hu => h u (List.mem_cons_of_mem _ hu))
theorem prL_bl {us : List Tk} (h : ∀ u ∈ us, bl2 (qs u) ≤ 103) : bl2 (prL us) ≤ 1 + 103 * us.length := by
  induction us with
  | nil => decide
  | cons v us ih =>
    rw [prL_cons]
    have := bl2_mul (qs v) (prL us)
    have := h v List.mem_cons_self
    have := ih fun u hu => h u (List.mem_cons_of_mem _ hu)
    simp only [List.length_cons]
    omega
theorem lcmL_dvd_pr (us : List Tk) : lcmL us ∣ prL us := by
  have := lcmF_pr us 1
  rwa [Nat.one_mul] at this
theorem prL_dvd {us : List Tk} {u : Tk} (h : u ∈ us) : qs u ∣ prL us := by
  induction us with
  | nil => simp at h
  | cons v us ih =>
    rw [prL_cons]
    rcases List.mem_cons.mp h with rfl | h
    · exact Nat.dvd_mul_right _ _
    · exact Nat.dvd_trans (ih h) (Nat.dvd_mul_left _ _)
theorem prL_dl {us : List Tk} {u : Tk} (h : ∀ u ∈ us, bl2 (qs u) ≤ 103 ∧ 0 < qs u) (hu : u ∈ us) : bl2 (prL us / qs u) + 103 ≤ 1 + 103 * us.length := by
  induction us with
  | nil => simp at hu
  | cons v us ih =>
    rw [prL_cons]
    simp only [List.length_cons]
    have hv := h v List.mem_cons_self
    by_cases e : u = v
    · subst e
      rw [Nat.mul_div_cancel_left _ hv.2]
      have := prL_bl (us := us) fun w hw => (h w (List.mem_cons_of_mem _ hw)).1
      omega
    · have hm : u ∈ us := by
        rcases List.mem_cons.mp hu with z | z
        · exact absurd z e
        · exact z
      rw [Nat.mul_div_assoc _ (prL_dvd hm)]
      have := bl2_mul (qs v) (prL us / qs u)
      have := ih (fun w hw => h w (List.mem_cons_of_mem _ hw)) hm
      omega
theorem qf_lcm : QF lcmL where
  dl := fun {us u} h hu => by
    have hp := prL_pos (us := us) fun v hv => (h v hv).2
    have h1 : lcmL us / qs u ≤ prL us / qs u := Nat.div_le_div_right (Nat.le_of_dvd hp (lcmL_dvd_pr us))
    have := bl2_mono h1
    have := prL_dl h hu
    omega
  nil := rfl
  dvd := fun hu => (lcmF_dvd _ 1).2 _ hu
  pos := fun h => Nat.pos_of_dvd_of_pos (lcmL_dvd_pr _) (prL_pos h)
  bl := fun {us} h => by
    by_cases z : prL us = 0
    · by_cases e : lcmL us = 0
      · rw [e]; simp [bl2]
      · -- a zero silence: the multiple is zero, too
        exfalso
        have : ∃ u ∈ us, qs u = 0 := by
          refine Classical.byContradiction fun c => ?_
          have := prL_pos (us := us) fun u hu => Nat.pos_of_ne_zero fun q => c ⟨u, hu, q⟩
          omega
        obtain ⟨u, hu, q⟩ := this
        have := (lcmF_dvd us 1).2 u hu
        rw [q] at this
        exact e (Nat.eq_zero_of_zero_dvd this)
    · exact Nat.le_trans (bl2_mono (Nat.le_of_dvd (by omega) (lcmL_dvd_pr us))) (prL_bl h)
/-- what a talker speaks meanwhile; how many ticks it takes -/
def sk (q : Nat) (u : Tk) : Nat := q / qs u * ql u
def lf (Q : List Tk → Nat) (us : List Tk) : Nat := Q us + (us.map (sk (Q us))).sum
/-- the products down to a rank -/
def tp (Q : List Tk → Nat) (ts : List Tk) : Nat → Nat
  | 0 => 1
  | k + 1 => tp Q ts k * Q (mt ts (k + 1))
def bt (Q : List Tk → Nat) (ts : List Tk) : Nat → Nat
  | 0 => 1
  | k + 1 => bt Q ts k * lf Q (mt ts (k + 1))
/-- the share of a talker, not yet in lowest terms -/
def fr (Q : List Tk → Nat) (ts : List Tk) (u : Tk) : Nat × Nat := (tp Q ts (u.rank.toNat - 1) * sk (Q (mt ts u.rank.toNat)) u, bt Q ts u.rank.toNat)
def red (p : Nat × Nat) : Nat × Nat := (p.1 / Nat.gcd p.1 p.2, p.2 / Nat.gcd p.1 p.2)
section
variable {Q : List Tk → Nat} (qf : QF Q) {ts : List Tk} (w : WfHall T30 ts)
include w
theorem mt_wf {r : Nat} {u : Tk} (h : u ∈ mt ts r) : u ∈ ts ∧ WfTk T30 u ∧ u.rank = r := by
  obtain ⟨a, b⟩ := List.mem_filter.mp h
  exact ⟨a, w.tk u a, of_decide_eq_true b⟩
include qf
theorem q_pos (r : Nat) : 0 < Q (mt ts r) := qf.pos fun u hu => qs_pos (mt_wf w hu).2.1
theorem lf_pos (r : Nat) : 0 < lf Q (mt ts r) := by
  have := q_pos qf w r
  unfold lf
  omega
theorem bt_pos : ∀ k, 0 < bt Q ts k
  | 0 => Nat.one_pos
  | k + 1 => Nat.mul_pos (bt_pos k) (lf_pos qf w _)
theorem q_bl (r : Nat) : bl2 (Q (mt ts r)) ≤ 1 + 103 * (mt ts r).length := qf.bl fun u hu => qs_bl (mt_wf w hu).2.1
theorem sk_bl {r : Nat} {u : Tk} (hu : u ∈ mt ts r) : bl2 (sk (Q (mt ts r)) u) ≤ 1 + 103 * (mt ts r).length := by
  have h1 := bl2_mul (Q (mt ts r) / qs u) (ql u)
  have h2 := qf.dl (us := mt ts r) (u := u) (fun v hv => ⟨qs_bl (mt_wf w hv).2.1, qs_pos (mt_wf w hv).2.1⟩) hu
  have h3 := ql_bl (mt_wf w hu).2.1
  unfold sk
  omega
end
end HR
set_option Elab.async false
set_option linter.all false
set_option maxRecDepth 20000
set_option exponentiation.threshold 5000
namespace HR
open PySem L2
/-! ### shares: bounds, lowest terms, the sum -/
theorem bl2_add (a b : Nat) : bl2 (a + b) ≤ max (bl2 a) (bl2 b) + 1 := by
  by_cases ha : a + b = 0
  · rw [ha]; simp [bl2]
  · refine bl2_lt ?_
    have h1 : a < 2 ^ bl2 a := by
      unfold bl2; split
      · rename_i e; subst e; decide
      · exact Nat.lt_log2_self
    have h2 : b < 2 ^ bl2 b := by
      unfold bl2; split
      · rename_i e; subst e; decide
      · exact Nat.lt_log2_self
    have h3 : 2 ^ bl2 a ≤ 2 ^ max (bl2 a) (bl2 b) := Nat.pow_le_pow_right (by decide) (Nat.le_max_left _ _)
    have h4 : 2 ^ bl2 b ≤ 2 ^ max (bl2 a) (bl2 b) := Nat.pow_le_pow_right (by decide) (Nat.le_max_right _ _)
    rw [Nat.pow_succ]
    omega
theorem bl2_sum {α : Type} {f : α → Nat} {B : Nat} : ∀ {us : List α}, (∀ u ∈ us, bl2 (f u) ≤ B) → ∀ a, bl2 a ≤ B → bl2 (a + (us.map f).sum) ≤ B + us.length
  | [], _, a, h => by simpa using h
  | v :: us, h, a, ha => by
    have e : a + ((v :: us).map f).sum = f v + (a + (us.map f).sum) := by simp; omega
    rw [e]
    have h1 := h v List.mem_cons_self
    have h2 := bl2_sum (us := us) (fun u hu => h u (List.mem_cons_of_mem _ hu)) a ha
    have h3 := bl2_add (f v) (a + (us.map f).sum)
    simp only [List.length_cons]
    omega
section
variable {Q : List Tk → Nat} (qf : QF Q) {ts : List Tk} (w : WfHall T30 ts)
include w qf
theorem lf_bl (r : Nat) : bl2 (lf Q (mt ts r)) ≤ 1 + 104 * (mt ts r).length := by
  have h1 := q_bl qf w r
  unfold lf
  have h2 := bl2_sum (us := mt ts r) (f := sk (Q (mt ts r))) (B := 1 + 103 * (mt ts r).length) (fun u hu => sk_bl qf w hu) (Q (mt ts r)) h1
  omega
theorem tp_bl : ∀ k, bl2 (tp Q ts k) ≤ 1 + k + 103 * (mu ts k).length
  | 0 => by show bl2 1 ≤ _; have : bl2 1 = 1 := by decide
            omega
  | k + 1 => by
    have h1 := bl2_mul (tp Q ts k) (Q (mt ts (k + 1)))
    have h2 := q_bl qf w (k + 1)
    have h3 := tp_bl k
    have h4 := mu_len k ts
    show bl2 (tp Q ts k * Q (mt ts (k + 1))) ≤ _
    omega
theorem bt_bl : ∀ k, bl2 (bt Q ts k) ≤ 1 + k + 104 * (mu ts k).length
  | 0 => by show bl2 1 ≤ _; have : bl2 1 = 1 := by decide
            omega
  | k + 1 => by
    have h1 := bl2_mul (bt Q ts k) (lf Q (mt ts (k + 1)))
    have h2 := lf_bl qf w (k + 1)
    have h3 := bt_bl k
    have h4 := mu_len k ts
    show bl2 (bt Q ts k * lf Q (mt ts (k + 1))) ≤ _
    omega
omit qf in
theorem mu_le (k : Nat) : (mu ts k).length ≤ 10 := Nat.le_trans (List.length_filter_le _ _) w.len
theorem tp_small {k : Nat} (hk : k ≤ 10) : bl2 (tp Q ts k) ≤ 1041 := by
  have := tp_bl qf w k
  have := mu_le w (k := k)
  omega
theorem bt_small {k : Nat} (hk : k ≤ 10) : bl2 (bt Q ts k) ≤ 1051 := by
  have := bt_bl qf w k
  have := mu_le w (k := k)
  omega
omit qf in
theorem mt_le (k : Nat) : (mt ts k).length ≤ 10 := Nat.le_trans (List.length_filter_le _ _) w.len
theorem q_small (k : Nat) : bl2 (Q (mt ts k)) ≤ 1031 := by
  have := q_bl qf w k
  have := mt_le w (k := k)
  omega
theorem lf_small (k : Nat) : bl2 (lf Q (mt ts k)) ≤ 1041 := by
  have := lf_bl qf w k
  have := mt_le w (k := k)
  omega
theorem sk_small (k : Nat) {u : Tk} (hu : u ∈ mt ts k) : bl2 (sk (Q (mt ts k)) u) ≤ 1031 := by
  have := sk_bl qf w hu
  have := mt_le w (k := k)
  omega
theorem tp_le_bt : ∀ k, tp Q ts k ≤ bt Q ts k
  | 0 => Nat.le_refl _
  | k + 1 => Nat.mul_le_mul (tp_le_bt k) (Nat.le_add_right _ _)
theorem fr_le {u : Tk} (hu : u ∈ ts) : (fr Q ts u).1 ≤ (fr Q ts u).2 := by
  have wu := w.tk u hu
  have h1 := wu.r1
  obtain ⟨k, hk⟩ : ∃ k, u.rank.toNat = k + 1 := ⟨u.rank.toNat - 1, by omega⟩
  have hm : u ∈ mt ts (k + 1) := List.mem_filter.mpr ⟨hu, decide_eq_true (by omega)⟩
  unfold fr
  rw [hk]
  dsimp only
  rw [Nat.add_sub_cancel]
  refine Nat.mul_le_mul (tp_le_bt qf w k) ?_
  have : ∀ us : List Tk, u ∈ us → sk (Q (mt ts (k + 1))) u ≤ (us.map (sk (Q (mt ts (k + 1))))).sum := fun us => by
    induction us with
    | nil => simp
    | cons v us ih =>
      intro h
      rw [List.map_cons, List.sum_cons]
      rcases List.mem_cons.mp h with rfl | h
      · omega
      · have := ih h; omega
  have := this _ hm
  unfold lf
  omega
theorem fr_small {u : Tk} (hu : u ∈ ts) : bl2 (fr Q ts u).1 ≤ 1051 ∧ bl2 (fr Q ts u).2 ≤ 1051 := by
  have wu := w.tk u hu
  have h2 := wu.r2
  have b : bl2 (fr Q ts u).2 ≤ 1051 := bt_small qf w (by omega)
  exact ⟨Nat.le_trans (bl2_mono (fr_le qf w hu)) b, b⟩
end
theorem red_mul {c x y : Nat} (h : 0 < c) : red (c * x, c * y) = red (x, y) := by
  unfold red
  dsimp only
  rw [Nat.gcd_mul_left]
  rw [Nat.mul_div_mul_left _ _ h, Nat.mul_div_mul_left _ _ h]
end HR
set_option Elab.async false
set_option linter.all false
set_option maxRecDepth 20000
set_option exponentiation.threshold 5000
namespace HR
open PySem L2
/-! ### shares_of, cycle_of: a rank's cycle -/
def dRC (us : List Tk) : D := .obj "RankCycle" [("members", .lst (us.map dMem)), ("quiet", .int (lcmL us : Nat)), ("left", .int (lf lcmL us : Nat))]
theorem pure_dRC (us : List Tk) : (dRC us).pure = true := by simp [dRC, D.pure, D.pureF]
theorem lcmF_bl {us : List Tk} (w : ∀ u ∈ us, WfTk T30 u) (k : Nat) (hl : us.length ≤ 10) : bl2 (lcmL (us.take k)) ≤ 1031 := by
  have := qf_lcm.bl (us := us.take k) fun u hu => qs_bl (w u (List.mem_of_mem_take hu))
  have : (us.take k).length ≤ 10 := by rw [List.length_take]; omega
  omega
theorem W_spk {d : D} {h : OH} {fs : List (String × D)} {q : Nat} {u : Tk} (e : insAt h d = some ("RankCycle", fs)) (hq : fs.lookup "quiet" = some (.int (q : Int))) (wu : WfTk T30 u) (hb : bl2 q ≤ 2000) {PD : D → OH → Prop} (z : PD (.int ((sk q u : Nat) : Int)) h) : (Sh.RankCycle_spoken_by [d, dMem u] h).W PD := by
  unfold Sh.RankCycle_spoken_by; rw [W_fn]; unfold Sh.RankCycle_spoken_by_b
  have d1 : divOk (q : Int) (qs u : Int) = true := divOk_bl (qs_pos wu) (by have := qs_bl wu; omega)
  have e1 : (q : Int) / (qs u : Int) = ((q / qs u : Nat) : Int) := rfl
  have m1 : mulOk ((q / qs u : Nat) : Int) (ql u : Int) = true := mulOk_bl (by have := ql_bl wu; have := bl2_mono (Nat.div_le_self q (qs u)); omega)
  have e2 : ((q / qs u : Nat) : Int) * (ql u : Int) = ((sk q u : Nat) : Int) := by rw [← Int.natCast_mul]; rfl
  simp [e, hq, dMem, dSch, List.lookup, atI_m1]
  rw [qs_int wu, ql_int wu]
  refine ⟨d1, ?_⟩
  rw [e1, e2]
  exact ⟨m1, z⟩
theorem mkRC {a : SA} {e : Env'} {h : OH} {PD : D → OH → Prop} {ts : List Tk} (w : WfHall T30 ts) (r : Nat) (z : (a e h).W fun ys h1 => ys = [.lst (ts.map dMem), .int (r : Nat)] ∧ PD (dRC (mt ts r)) h1) : (sMakeP "RankCycle" Sh.RankCycle_init a e h).W PD := by
  refine W_makeP (z.mono fun ys h1 z => ?_)
  obtain ⟨rfl, z⟩ := z
  refine ⟨by simp, ?_⟩
  have hl := w.len
  have sp := fun {d : D} {h : OH} {fs : List (String × D)} {q : Nat} {u : Tk} (e : insAt h d = some ("RankCycle", fs)) (hq : fs.lookup "quiet" = some (.int (q : Int))) (wu : WfTk T30 u) (hb : bl2 q ≤ 2000) {PD : D → OH → Prop} => W_spk e hq wu hb (PD := PD)
  have lm := fun {a b : Nat} (h : OH) (ha : 0 < a) (hb : bl2 a + bl2 b < 4000) => lcm_ok h ha hb
  unfold Sh.RankCycle_init; rw [W_fn]; unfold Sh.RankCycle_init_b
  generalize Sh.RankCycle_spoken_by = SK at sp ⊢
  generalize pureF Sh.common_multiple = CM at lm ⊢
  refine SW_seqK fun K hK => ?_
  simp [wipeD]
  refine W_lcMap ts dMem (fun t => decide (t.rank = (r : Int))) dMem _ (by simp [big]; omega) (fun x hx => ⟨_, rfl, by simp [dMem, List.lookup]; rfl⟩) ?_
  have hus : ∀ u ∈ mt ts r, WfTk T30 u := fun u hu => (mt_wf w hu).2.1
  have hln := mt_le w (k := r)
  rw [show ts.filter (fun t => decide (t.rank = (r : Int))) = mt ts r from rfl]
  generalize mt ts r = us at hus hln z ⊢
  simp
  refine hK _ _ ?_
  clear hK K
  refine SW_seqK fun K hK => ?_
  simp
  refine hK _ _ ?_
  clear hK K
  refine SW_seqK fun K hK => ?_
  simp [List.lookup]
  refine W_forL (fun k e h => h = [OO.ins "RankCycle" [("members", .lst (us.map dMem)), ("quiet", .int ((lcmL (us.take k) : Nat) : Int))]] ∧ ∃ x : Option D, e = [some (.ref 0), some (.lst (ts.map dMem)), some (.int (r : Int)), x]) _ _ _ ⟨rfl, _, rfl⟩ (fun k d hd e h hI => ?_) (fun e h hI => ?_)
  · obtain ⟨rfl, x, rfl⟩ := hI
    rw [List.getElem?_map, Option.map_eq_some_iff] at hd
    obtain ⟨u, hu, rfl⟩ := hd
    have wu := hus u (List.mem_of_getElem? hu)
    have hp : 0 < lcmL (us.take k) := qf_lcm.pos fun v hv => qs_pos (hus v (List.mem_of_mem_take hv))
    have hb := lcmF_bl hus k hln
    have hq := qs_bl wu
    have es : lcmL (us.take (k + 1)) = Nat.lcm (lcmL (us.take k)) (qs u) := by
      rw [List.take_add_one, hu]
      simp [lcmL, List.foldl_append]
    refine ⟨_, rfl, ?_⟩
    rw [es]
    generalize lcmL (us.take k) = a at hp hb ⊢
    simp [List.lookup, dMem, dSch, atI_m1]
    rw [qs_int wu, lm _ hp (by omega)]
    simp
  · obtain ⟨rfl, x, rfl⟩ := hI
    rw [List.length_map, List.take_length]
    refine hK _ _ ?_
    clear hK K
    have hb : bl2 (lcmL us) ≤ 1031 := by
      have := lcmF_bl hus us.length hln
      rwa [List.take_length] at this
    simp [List.lookup, wipeD]
    refine W_lcMap1 us dMem (fun u => .int ((sk (lcmL us) u : Nat) : Int)) _ (by simp [big]; omega) (fun u hu => ⟨_, rfl, ?_⟩) ?_
    · simp
      have v0 := fun {PD : D → OH → Prop} => sp (PD := PD) (d := .ref 0) (h := [OO.ins "RankCycle" [("members", .lst (us.map dMem)), ("quiet", .int ((lcmL us : Nat) : Int))]]) (fs := [("members", .lst (us.map dMem)), ("quiet", .int ((lcmL us : Nat) : Int))]) (q := lcmL us) (u := u) rfl rfl (hus u hu) (by omega)
      refine ⟨by simp [hasNo], v0 ?_⟩
      exact ⟨rfl, rfl⟩
    · have ei : intsOf (us.map fun u => D.int ((sk (lcmL us) u : Nat) : Int)) = some (us.map fun u => ((sk (lcmL us) u : Nat) : Int)) := by
        have := intsOf_map (us.map fun u => ((sk (lcmL us) u : Nat) : Int))
        rwa [List.map_map] at this
      have es : ((lcmL us : Nat) : Int) + (us.map fun u => ((sk (lcmL us) u : Nat) : Int)).sum = ((lf lcmL us : Nat) : Int) := by
        have : ∀ l : List Tk, (l.map fun u => ((sk (lcmL us) u : Nat) : Int)).sum = (((l.map (sk (lcmL us))).sum : Nat) : Int) := fun l => by
          induction l with
          | nil => rfl
          | cons v l ih => rw [List.map_cons, List.sum_cons, ih, List.map_cons, List.sum_cons]; omega
        rw [this]
        unfold lf
        omega
      rw [ei]
      simp
      rw [es]
      exact z
end HR
set_option Elab.async false
set_option linter.all false
set_option maxRecDepth 20000
set_option exponentiation.threshold 5000
namespace HR
open PySem L2
/-! ### cycle_of -/
/-- the tick behind the last talk of the prefix -/
def endT (ts : List Tk) (t : Tk) : Nat := TO ts (t.rank.toNat - 1) (spL ts t (t.rank.toNat - 1 + 1) (t.pre.length - 1)) + 1
def stF (ts : List Tk) (f : Nat) (t : Tk) : Nat := if t.pre.length = 0 then f else max f (endT ts t)
def stCy (ts : List Tk) : Nat := ts.foldl (stF ts) 0
theorem startOf {ts : List Tk} (w : WfHall T30 ts) (h : OH) : pureF Sh.start_of [.lst (ts.map dMem)] h = .ok (.int ((stCy ts : Nat) : Int)) h := by
  refine pure_eq h (by simp) rfl ?_
  have sb := fun {t : Tk} (ht : t ∈ ts) (k n : Nat) (hk : k < 10) (hr : t.rank = (k : Int) + 1) (hn : n + 1 < 2 ^ 200) (h : OH) => spanBy w ht k n hk hr hn h
  unfold Sh.start_of; rw [W_fn]; unfold Sh.start_of_b
  generalize pureF Sh.span_by = SB at sb ⊢
  refine SW_seqK fun K hK => ?_
  simp
  refine hK _ _ ?_
  clear hK K
  refine SW_seqK fun K hK => ?_
  simp
  refine W_forL (fun j e h => ∃ x2 x3 : Option D, e = [some (.lst (ts.map dMem)), some (.int (((ts.take j).foldl (stF ts) 0 : Nat) : Int)), x2, x3]) _ _ _ ⟨_, _, rfl⟩ (fun j d hd e h hI => ?_) (fun e h hI => ?_)
  · obtain ⟨x2, x3, rfl⟩ := hI
    rw [List.getElem?_map, Option.map_eq_some_iff] at hd
    obtain ⟨t, ht, rfl⟩ := hd
    have hm := List.mem_of_getElem? ht
    have wt := w.tk t hm
    have et : (ts.take (j + 1)).foldl (stF ts) 0 = stF ts ((ts.take j).foldl (stF ts) 0) t := by
      rw [List.take_add_one, ht]
      simp [List.foldl_append]
    rw [et]
    generalize (ts.take j).foldl (stF ts) 0 = f
    have r1 := wt.r1
    have r2 := wt.r2
    have lp := wt.lp
    refine ⟨_, rfl, ?_⟩
    refine SW_seqK fun K hK => ?_
    have im : ∀ g : OH, insAt g (dMem t) = some ("Member", [("name", .str t.name), ("rank", .int t.rank), ("schedule", dSch t.pre t.cyc)]) := fun g => rfl
    simp [im, List.lookup, dSch]
    refine hK _ _ ?_
    clear hK K
    by_cases hp : t.pre.length = 0
    · simp [hp, stF]
    · have hp0 : 0 < t.pre.length := by omega
      have sp := fun h => sb hm (t.rank.toNat - 1) (t.pre.length - 1) (by omega) (by omega) (by omega) h
      have en : ((t.pre.length - 1 : Nat) : Int) = (t.pre.length : Int) - 1 := by omega
      rw [en] at sp
      simp [hp0, sp]
      have e1 : stF ts f t = max f (endT ts t) := if_neg hp
      rw [e1]
      unfold endT
      generalize TO ts (t.rank.toNat - 1) (spL ts t (t.rank.toNat - 1 + 1) (t.pre.length - 1)) = x
      rw [Nat.max_def]
      split <;> split <;> omega
  · obtain ⟨x2, x3, rfl⟩ := hI
    rw [List.length_map, List.take_length]
    refine hK _ _ ?_
    simp
    rfl
/-- the length of the cycle, and what is left of it, down to a rank -/
def rnd (left L : Nat) : Nat := L / Nat.gcd left L
def cyS (p : Nat × Nat) (us : List Tk) : Nat × Nat := (p.1 * rnd p.2 (lf lcmL us), p.2 * rnd p.2 (lf lcmL us) / lf lcmL us * lcmL us)
def cyN (ts : List Tk) : Nat → Nat × Nat
  | 0 => (1, 1)
  | k + 1 => cyS (cyN ts k) (mt ts (k + 1))
theorem rnd_mul {a L : Nat} (hL : 0 < L) : a * rnd a L / L = a / Nat.gcd a L := by
  unfold rnd
  have g0 : 0 < Nat.gcd a L := Nat.gcd_pos_of_pos_right _ hL
  obtain ⟨x, hx⟩ := Nat.gcd_dvd_left a L
  obtain ⟨y, hy⟩ := Nat.gcd_dvd_right a L
  generalize Nat.gcd a L = g at g0 hx hy ⊢
  subst hx hy
  have hy0 : 0 < y := Nat.pos_of_ne_zero fun z => by rw [z, Nat.mul_zero] at hL; omega
  rw [Nat.mul_div_cancel_left _ g0, Nat.mul_div_cancel_left _ g0]
  rw [show g * x * y = (g * y) * x by ac_rfl]
  exact Nat.mul_div_cancel_left _ (Nat.mul_pos g0 hy0)
section
variable {ts : List Tk} (w : WfHall T30 ts)
include w
theorem cyN_ok : ∀ k, 0 < (cyN ts k).1 ∧ 0 < (cyN ts k).2 ∧ (cyN ts k).1 ≤ bt lcmL ts k ∧ (cyN ts k).2 ≤ tp lcmL ts k
  | 0 => ⟨Nat.one_pos, Nat.one_pos, Nat.le_refl _, Nat.le_refl _⟩
  | k + 1 => by
    obtain ⟨a, b, c, d⟩ := cyN_ok k
    have hL := lf_pos qf_lcm w (k + 1)
    have hQ := q_pos qf_lcm w (k + 1)
    have g0 : 0 < Nat.gcd (cyN ts k).2 (lf lcmL (mt ts (k + 1))) := Nat.gcd_pos_of_pos_right _ hL
    have r0 : 0 < rnd (cyN ts k).2 (lf lcmL (mt ts (k + 1))) := Nat.div_pos (Nat.le_of_dvd hL (Nat.gcd_dvd_right _ _)) g0
    have r1 : rnd (cyN ts k).2 (lf lcmL (mt ts (k + 1))) ≤ lf lcmL (mt ts (k + 1)) := Nat.div_le_self _ _
    refine ⟨Nat.mul_pos a r0, ?_, Nat.mul_le_mul c r1, ?_⟩
    · show 0 < _ / _ * _
      rw [rnd_mul hL]
      exact Nat.mul_pos (Nat.div_pos (Nat.le_of_dvd b (Nat.gcd_dvd_left _ _)) g0) hQ
    · show _ / _ * _ ≤ tp lcmL ts k * lcmL (mt ts (k + 1))
      rw [rnd_mul hL]
      exact Nat.mul_le_mul (Nat.le_trans (Nat.div_le_self _ _) d) (Nat.le_refl _)
theorem cyN_bl {k : Nat} (hk : k ≤ 10) : bl2 (cyN ts k).1 ≤ 1051 ∧ bl2 (cyN ts k).2 ≤ 1041 := by
  obtain ⟨a, b, c, d⟩ := cyN_ok w k
  exact ⟨Nat.le_trans (bl2_mono c) (bt_small qf_lcm w hk), Nat.le_trans (bl2_mono d) (tp_small qf_lcm w hk)⟩
end
theorem cycleOf {d : D} {ts : List Tk} (hd : Hallish d ts) (w : WfHall T30 ts) (h : OH) : pureF Sh.cycle_of [d] h = .ok (.tup [.int ((stCy ts : Nat) : Int), .int (((cyN ts 10).1 : Nat) : Int)]) h := by
  refine pure_eq h (by simp [hd.pure]) rfl ?_
  have ch := hd.chk
  have rc := fun {a : SA} {e : Env'} {h : OH} {PD : D → OH → Prop} (r : Nat) => mkRC (a := a) (e := e) (h := h) (PD := PD) w r
  have gc := fun {a b : Nat} (h : OH) (hb : bl2 a + bl2 b < 400000) => gcd_ok h hb
  have so := startOf w
  unfold Sh.cycle_of; rw [W_fn]; unfold Sh.cycle_of_b
  generalize pureF Sh.checked_hall = CH at ch ⊢
  generalize Sh.RankCycle_init = RI at rc ⊢
  generalize pureF Sh.common_divisor = CD at gc ⊢
  generalize pureF Sh.start_of = SO at so ⊢
  refine SW_seqK fun K hK => ?_
  simp [ch]
  refine hK _ _ ?_
  clear hK K
  refine SW_seqK fun K hK => ?_
  simp
  refine hK _ _ ?_
  clear hK K
  refine SW_seqK fun K hK => ?_
  simp
  refine ⟨by decide, ?_⟩
  refine W_forL (fun k e h => ∃ x4 x5 x6 : Option D, e = [some d, some (.lst (ts.map dMem)), some (.int (((cyN ts k).1 : Nat) : Int)), some (.int (((cyN ts k).2 : Nat) : Int)), x4, x5, x6]) _ _ _ ⟨_, _, _, rfl⟩ (fun k dd hdd e h hI => ?_) (fun e h hI => ?_)
  · obtain ⟨x4, x5, x6, rfl⟩ := hI
    obtain ⟨hk, rfl⟩ := rngD_at hdd
    have hk10 : k < 10 := hk
    have er : (1 : Int) + (k : Nat) = ((k + 1 : Nat) : Int) := by omega
    rw [er]
    obtain ⟨a0, b0, _, _⟩ := cyN_ok w k
    obtain ⟨a1, b1⟩ := cyN_bl w (k := k) (by omega)
    have hL := lf_pos qf_lcm w (k + 1)
    have hL1 := lf_small qf_lcm w (k + 1)
    have hQ1 := q_small qf_lcm w (k + 1)
    have es : cyN ts (k + 1) = cyS (cyN ts k) (mt ts (k + 1)) := rfl
    rw [es]
    generalize cyN ts k = p at a0 b0 a1 b1 ⊢
    obtain ⟨a, b⟩ := p
    dsimp only at a0 b0 a1 b1 ⊢
    refine ⟨_, rfl, ?_⟩
    refine SW_seqK fun K hK => ?_
    simp
    refine rc (k + 1) ?_
    simp
    refine hK _ _ ?_
    clear hK K
    have ia : ∀ g : OH, insAt g (dRC (mt ts (k + 1))) = some ("RankCycle", [("members", .lst ((mt ts (k + 1)).map dMem)), ("quiet", .int (lcmL (mt ts (k + 1)) : Nat)), ("left", .int (lf lcmL (mt ts (k + 1)) : Nat))]) := fun g => rfl
    unfold cyS
    dsimp only
    generalize lf lcmL (mt ts (k + 1)) = L at hL hL1 ia ⊢
    generalize lcmL (mt ts (k + 1)) = Q at hQ1 ia ⊢
    generalize dRC (mt ts (k + 1)) = RC at ia ⊢
    have g := fun h => gc (a := b) (b := L) h (by omega)
    have g0 : 0 < Nat.gcd b L := Nat.gcd_pos_of_pos_right _ hL
    have gb : bl2 (Nat.gcd b L) ≤ 1041 := Nat.le_trans (bl2_mono (Nat.gcd_le_left _ b0)) b1
    have d1 : divOk (L : Int) ((Nat.gcd b L : Nat) : Int) = true := divOk_bl g0 (by omega)
    have e1 : (L : Int) / ((Nat.gcd b L : Nat) : Int) = ((rnd b L : Nat) : Int) := rfl
    have rb : bl2 (rnd b L) ≤ 1041 := Nat.le_trans (bl2_mono (Nat.div_le_self _ _)) hL1
    refine SW_seqK fun K hK => ?_
    simp [ia, List.lookup, g, d1]
    rw [e1]
    refine hK _ _ ?_
    clear hK K
    generalize rnd b L = R at rb ⊢
    have m1 : mulOk (a : Int) (R : Int) = true := mulOk_bl (by omega)
    have m2 : mulOk (b : Int) (R : Int) = true := mulOk_bl (by omega)
    have mb := bl2_mul b R
    have d2 : divOk ((b : Int) * (R : Int)) (L : Int) = true := divOk_bl hL (by omega)
    have e2 : (b : Int) * (R : Int) / (L : Int) = ((b * R / L : Nat) : Int) := by rw [← Int.natCast_mul]; rfl
    have m3 : mulOk ((b * R / L : Nat) : Int) (Q : Int) = true := mulOk_bl (by have := bl2_mono (Nat.div_le_self (b * R) L); omega)
    refine SW_seqK fun K hK => ?_
    simp [m1]
    refine hK _ _ ?_
    clear hK K
    simp [ia, List.lookup, m2, d2]
    rw [e2]
    exact m3
  · obtain ⟨x4, x5, x6, rfl⟩ := hI
    have ln : (rngD 1 10).length = 10 := rfl
    rw [ln]
    refine hK _ _ ?_
    simp [so]
end HR
set_option Elab.async false
set_option linter.all false
set_option maxRecDepth 20000
set_option exponentiation.threshold 5000
namespace HR
open PySem L2
/-! ### what the program takes for halls: any frozen value -/
mutual
def szD : D → Bool
  | .lst xs => decide (xs.length ≤ 1000) && szL xs
  | .tup xs => decide (xs.length ≤ 1000) && szL xs
  | .str x => decide (x.length ≤ 1000)
  | .non => true
  | .bl _ => true
  | .int _ => true
  | .dct [] => true
  | _ => false
def szL : List D → Bool
  | [] => true
  | x :: xs => szD x && szL xs
end
def sqD : D → Option (List D)
  | .lst xs => some xs
  | .tup xs => some xs
  | _ => none
@[simp] theorem isi_t1 : isiB "NoneType" "list" = false := by decide
@[simp] theorem isi_t2 : isiB "NoneType" "tuple" = false := by decide
@[simp] theorem isi_t3 : isiB "bool" "list" = false := by decide
@[simp] theorem isi_t4 : isiB "bool" "tuple" = false := by decide
@[simp] theorem isi_t5 : isiB "dict" "list" = false := by decide
@[simp] theorem isi_t6 : isiB "dict" "tuple" = false := by decide
@[simp] theorem isi_t7 : isiB "NoneType" "int" = false := by decide
@[simp] theorem isi_t8 : isiB "list" "int" = false := by decide
@[simp] theorem isi_t9 : isiB "tuple" "int" = false := by decide
@[simp] theorem isi_ta : isiB "dict" "int" = false := by decide
@[simp] theorem isi_tb : isiB "bool" "bool" = true := by decide
@[simp] theorem isi_tc : isiB "NoneType" "str" = false := by decide
@[simp] theorem isi_td : isiB "list" "str" = false := by decide
@[simp] theorem isi_te : isiB "tuple" "str" = false := by decide
@[simp] theorem isi_tf : isiB "dict" "str" = false := by decide
@[simp] theorem isi_tg : isiB "bool" "str" = false := by decide
/-! ### halls with lists and tuples exchanged -/
def AllR {ξ : Type} (R : D → ξ → Prop) (xs : List D) (ps : List ξ) : Prop := xs.length = ps.length ∧ ∀ (k : Nat) (x : D), xs[k]? = some x → ∃ p, ps[k]? = some p ∧ R x p
def DrT (d : D) (p : Int × Int) : Prop := sqD d = some [.int p.1, .int p.2]
def DrTs (d : D) (ts : List (Int × Int)) : Prop := ∃ xs, sqD d = some xs ∧ AllR DrT xs ts
def DrTk (d : D) (t : Tk) : Prop := ∃ a b, sqD d = some [.str t.name, .int t.rank, a, b] ∧ DrTs a t.pre ∧ DrTs b t.cyc
theorem AllR.all {ξ : Type} {R : D → ξ → Prop} {xs : List D} {ps : List ξ} (ar : AllR R xs ps) {p : D → Bool} (h : ∀ x q, x ∈ xs → q ∈ ps → R x q → p x = true) : xs.all p = true := by
  rw [List.all_eq_true]
  intro x hx
  obtain ⟨k, hk⟩ := List.mem_iff_getElem?.mp hx
  obtain ⟨q, hq, r⟩ := ar.2 k x hk
  exact h x q hx (List.mem_of_getElem? hq) r
end HR
set_option Elab.async false
set_option linter.all false
set_option maxRecDepth 20000
set_option exponentiation.threshold 5000
namespace HR
open PySem L2
/-! ### shares_of -/
theorem getK_put (ks : List (Key × D)) (k j : Key) (d : D) : getK (putD ks k d) j = if j = k then some d else getK ks j := by
  have hmap : ∀ ks : List (Key × D), getK (ks.map fun kv => if kv.1 = k then (kv.1, d) else kv) j = (getK ks j).map fun x => if j = k then d else x := by
    intro ks
    induction ks with
    | nil => rfl
    | cons p r ih =>
      unfold getK at *
      rw [List.map_cons, List.find?_cons, List.find?_cons]
      by_cases h : p.1 = k
      · rw [if_pos h]
        by_cases e : p.1 = j
        · have ejk : j = k := e.symm.trans h
          rw [show decide ((p.1, d).1 = j) = true from decide_eq_true e]
          simp [ejk]
        · rw [show decide ((p.1, d).1 = j) = false from decide_eq_false e]
          exact ih
      · rw [if_neg h]
        by_cases e : p.1 = j
        · have ejk : ¬ j = k := fun z => h (e.trans z)
          rw [show decide (p.1 = j) = true from decide_eq_true e]
          simp [ejk]
        · rw [show decide (p.1 = j) = false from decide_eq_false e]
          exact ih
  have hany : (ks.any fun kv => decide (kv.1 = k)) = (getK ks k).isSome := by
    induction ks with
    | nil => rfl
    | cons p r ih =>
      unfold getK at *
      rw [List.any_cons, List.find?_cons]
      by_cases e : p.1 = k
      · rw [decide_eq_true e]; rfl
      · rw [decide_eq_false e, Bool.false_or]; exact ih
  unfold putD
  split
  · rename_i a
    rw [hmap]
    by_cases e : j = k
    · rw [hany] at a
      obtain ⟨x, hx⟩ := Option.isSome_iff_exists.mp a
      rw [e, hx]
      simp
    · simp [e]
  · rename_i a
    rw [hany] at a
    have gn : getK ks k = none := by
      cases q : getK ks k with
      | none => rfl
      | some x => rw [q] at a; exact absurd rfl a
    unfold getK at *
    rw [List.find?_append]
    by_cases e : j = k
    · subst e
      have : ks.find? (fun kv => decide (kv.1 = j)) = none := by simpa using gn
      rw [this]
      simp
    · have : ([(k, d)] : List (Key × D)).find? (fun kv => decide (kv.1 = j)) = none := by simp; exact fun z => e z.symm
      rw [this]
      simp [e]
def dPr (p : Nat × Nat) : D := .tup [.int (p.1 : Int), .int (p.2 : Int)]
def dRow (n : D) (p : Nat × Nat) : D := .tup [n, .int (p.1 : Int), .int (p.2 : Int)]
/-- the answer -/
def sharD (ts : List Tk) : List D := (ts.map fun t => dRow (.str t.name) (red (fr lcmL ts t))) ++ [dRow .non (red (tp lcmL ts 10, bt lcmL ts 10))]
theorem shar_pure (ts : List Tk) : D.pureL (sharD ts) = true := by
  have a : ∀ l : List Tk, D.pureL (l.map fun t => dRow (.str t.name) (red (fr lcmL ts t))) = true := pureL_map _ fun t => rfl
  unfold sharD
  have app : ∀ xs ys : List D, D.pureL xs = true → D.pureL ys = true → D.pureL (xs ++ ys) = true := fun xs ys => by
    induction xs with
    | nil => exact fun _ h => h
    | cons x xs ih =>
      intro h1 h2
      simp only [List.cons_append, D.pureL, Bool.and_eq_true] at h1 ⊢
      exact ⟨h1.1, ih h1.2 h2⟩
  exact app _ _ (a ts) rfl
/-- the names with their shares -/
def shE (ts : List Tk) : List (D × (Nat × Nat)) := ts.map (fun t => (D.str t.name, fr lcmL ts t)) ++ [(.non, (tp lcmL ts 10, bt lcmL ts 10))]
theorem shE_rows (ts : List Tk) : sharD ts = (shE ts).map fun q => dRow q.1 (red q.2) := by
  unfold sharD shE
  rw [List.map_append, List.map_map]
  rfl
theorem shE_names (ts : List Tk) : ts.map (fun t => D.str t.name) ++ [.non] = (shE ts).map (·.1) := by
  unfold shE
  rw [List.map_append, List.map_map]
  rfl
theorem shE_ok {ts : List Tk} (w : WfHall T30 ts) {q : D × (Nat × Nat)} (h : q ∈ shE ts) : 0 < q.2.2 ∧ bl2 q.2.1 ≤ 1051 ∧ bl2 q.2.2 ≤ 1051 := by
  rcases List.mem_append.mp h with h | h
  · obtain ⟨u, hu, rfl⟩ := List.mem_map.mp h
    have := fr_small qf_lcm w hu
    exact ⟨bt_pos qf_lcm w _, this⟩
  · rw [List.mem_singleton] at h
    subst h
    have := tp_small qf_lcm w (k := 10) (by decide)
    exact ⟨bt_pos qf_lcm w _, by show bl2 (tp lcmL ts 10) ≤ _; omega, bt_small qf_lcm w (by decide)⟩
theorem nd_name {ts : List Tk} (w : WfHall T30 ts) {u v : Tk} (hu : u ∈ ts) (hv : v ∈ ts) (e : u.name = v.name) : u = v := by
  have nd := w.nd
  obtain ⟨i, hi⟩ := List.mem_iff_getElem?.mp hu
  obtain ⟨j, hj⟩ := List.mem_iff_getElem?.mp hv
  have l1 : (ts.map (·.name))[i]? = some u.name := by rw [List.getElem?_map, hi]; rfl
  have l2 : (ts.map (·.name))[j]? = some u.name := by rw [List.getElem?_map, hj, e]; rfl
  have := (List.getElem?_inj (List.getElem?_eq_some_iff.mp l1).1 nd).mp (l1.trans l2.symm)
  subst this
  rw [hi] at hj
  exact Option.some.inj hj
/-- the dict so far: the talkers told in S -/
structure FD (ts : List Tk) (S : Tk → Prop) (n : Nat) (ks : List (Key × D)) : Prop where
  len : ks.length ≤ n
  at_ : ∀ u ∈ ts, S u → getK ks (.inr u.name) = some (dPr (fr lcmL ts u))
theorem FD.put {ts : List Tk} (w : WfHall T30 ts) {S : Tk → Prop} {n : Nat} {ks : List (Key × D)} (f : FD ts S n ks) {v : Tk} (hv : v ∈ ts) {T : Tk → Prop} (hT : ∀ u, T u → S u ∨ u = v) : FD ts T (n + 1) (putD ks (.inr v.name) (dPr (fr lcmL ts v))) := by
  refine ⟨?_, fun u hu hs => ?_⟩
  · have := putD_len ks (.inr v.name) (dPr (fr lcmL ts v))
    have := f.len
    omega
  · rw [getK_put]
    by_cases e : u.name = v.name
    · rw [nd_name w hu hv e, if_pos rfl]
    · rw [if_neg fun z => e (Sum.inr.inj z)]
      rcases hT u hs with h | h
      · exact f.at_ u hu h
      · exact absurd (by rw [h]) e
theorem spkP {us : List Tk} {u : Tk} (wu : WfTk T30 u) (hb : bl2 (lcmL us) ≤ 2000) (h : OH) : pureF Sh.RankCycle_spoken_by [dRC us, dMem u] h = .ok (.int ((sk (lcmL us) u : Nat) : Int)) h := by
  refine pure_eq h (by simp [pure_dRC]) rfl ?_
  exact W_spk (fs := [("members", .lst (us.map dMem)), ("quiet", .int (lcmL us : Nat)), ("left", .int (lf lcmL us : Nat))]) rfl rfl wu hb rfl
noncomputable def SHB (P : Program) (w : World) (Z : SS) : SS := (sSeq (sSet 1 (sCall (withD [] (pureF Sh.checked_hall)) (sCons (sVar 0) sNil))) (sSeq (sAsg (gT 2 (gCs (gN 2) (gCs (gN 3) gNl))) (sTup (sCons (sC (.int 1)) (sCons (sC (.int 1)) sNil)))) (sSeq (sSet 4 sDctO) (sSeq (sFor (sRng2 (sC (.int 1)) (sBin opAdd (sC (.int (10))) (sC (.int 1)))) (gN 5) (sSeq (sSet 6 (sMakeP "RankCycle" Sh.RankCycle_init (sCons (sVar 1) (sCons (sVar 5) sNil)))) (sSeq (sFor (sIt (sUn (opFld "members") (sVar 6))) (gN 7) (sIxK (sVar 4) (sUn (opFld "name") (sVar 7)) (sTup (sCons (sBin opMul (sVar 2) (sMeth "RankCycle" "spoken_by" (pureF Sh.RankCycle_spoken_by) (sVar 6) (sCons (sVar 7) sNil))) (sCons (sBin opMul (sVar 3) (sUn (opFld "left") (sVar 6))) sNil))))) (sPar 2 3 (sCons (sBin opMul (sVar 2) (sUn (opFld "quiet") (sVar 6))) (sCons (sBin opMul (sVar 3) (sUn (opFld "left") (sVar 6))) sNil)))))) (sSeq (sSet 8 (sBin opAdd (sLc false (sIt (sVar 1)) (gN 7) sYes (sUn (opFld "name") (sVar 7)) [7]) (sLst (sCons (sC .non) sNil)))) (sSeq (sPutN (hexN P w) (sVar 4) (sC .non) (sTup (sCons (sVar 2) (sCons (sVar 3) sNil)))) (sSeq (sSet 9 (sLstO sNil)) (sSeq (sFor (sIt (sVar 8)) (gN 10) (sSeq (sSet 11 (sCall (withD [] (pureF Sh.common_divisor)) (sCons (sBin opIx (sBin (opGetN (hexN P w)) (sVar 4) (sVar 10)) (sC (.int 0))) (sCons (sBin opIx (sBin (opGetN (hexN P w)) (sVar 4) (sVar 10)) (sC (.int 1))) sNil)))) (sExpr (sMtO gAppend (sVar 9) (sCons (sTup (sCons (sVar 10) (sCons (sBin opDiv (sBin opIx (sBin (opGetN (hexN P w)) (sVar 4) (sVar 10)) (sC (.int 0))) (sVar 11)) (sCons (sBin opDiv (sBin opIx (sBin (opGetN (hexN P w)) (sVar 4) (sVar 10)) (sC (.int 1))) (sVar 11)) sNil)))) sNil))))) Z))))))))
theorem shb1 (P : Program) (w : World) : Sh.shares_of_1_b P w = SHB P w (sRet (frzE (sVar 9))) := rfl
set_option maxHeartbeats 1000000 in
theorem sharesB {N C B : Env' → OH → Prop} {R : D → OH → Prop} {d : D} {ts : List Tk} (hd : Hallish d ts) (w : WfHall T30 ts) (P : Program) (wd : World) (h : OH) {Z : SS} (q : ∀ ks x (e : Env'), e[9]? = some (some (.ref (h.length + 1))) → (Z e (h ++ [.nd (hexN P wd) ks x, .lst (sharD ts)])).W N C B R) :
    (SHB P wd Z [some d, none, none, none, none, none, none, none, none, none, none, none] h).W N C B R := by
  have hl := w.len
  have ch := hd.chk
  have rc := fun {a : SA} {e : Env'} {h : OH} {PD : D → OH → Prop} (r : Nat) => mkRC (a := a) (e := e) (h := h) (PD := PD) w r
  have sp := fun {us : List Tk} {u : Tk} (wu : WfTk T30 u) (hb : bl2 (lcmL us) ≤ 2000) (h : OH) => spkP wu hb h
  have gc := fun {a b : Nat} (h : OH) (hb : bl2 a + bl2 b < 400000) => gcd_ok h hb
  unfold SHB
  generalize pureF Sh.checked_hall = CH at ch ⊢
  generalize Sh.RankCycle_init = RI at rc ⊢
  generalize pureF Sh.common_divisor = CD at gc ⊢
  generalize pureF Sh.RankCycle_spoken_by = SK at sp ⊢
  refine SW_seqK fun K hK => ?_
  simp [ch]
  refine hK _ _ ?_
  clear hK K
  refine SW_seqK fun K hK => ?_
  simp [sPar]
  refine hK _ _ ?_
  clear hK K
  refine SW_seqK fun K hK => ?_
  simp
  refine hK _ _ ?_
  clear hK K
  refine SW_seqK fun K hK => ?_
  simp
  refine ⟨by decide, ?_⟩
  refine W_forL (fun k e h' => ∃ ks, FD ts (fun u => u.rank ≤ (k : Nat)) (10 * k) ks ∧ h' = h ++ [.dct ks] ∧ ∃ x5 x6 x7 : Option D, e = [some d, some (.lst (ts.map dMem)), some (.int ((tp lcmL ts k : Nat) : Int)), some (.int ((bt lcmL ts k : Nat) : Int)), some (.ref h.length), x5, x6, x7, none, none, none, none]) _ _ _
    ⟨[], ⟨Nat.le_refl _, fun u hu hs => absurd hs (by have := (w.tk u hu).r1; simp only [Int.natCast_zero]; omega)⟩, rfl, _, _, _, rfl⟩ (fun k dd hdd e h' hI => ?_) (fun e h' hI => ?_)
  · obtain ⟨ks, f, rfl, x5, x6, x7, rfl⟩ := hI
    obtain ⟨hk, rfl⟩ := rngD_at hdd
    have hk10 : k < 10 := hk
    have er : (1 : Int) + (k : Nat) = ((k + 1 : Nat) : Int) := by omega
    rw [er]
    refine ⟨_, rfl, ?_⟩
    have hqp := q_pos qf_lcm w (k + 1)
    have hqs := q_small qf_lcm w (k + 1)
    have hls := lf_small qf_lcm w (k + 1)
    have hts := tp_small qf_lcm w (k := k) (by omega)
    have hbs := bt_small qf_lcm w (k := k) (by omega)
    refine SW_seqK fun K hK => ?_
    simp
    refine rc (k + 1) ?_
    simp
    refine hK _ _ ?_
    clear hK K
    refine SW_seqK fun K hK => ?_
    simp [dRC, List.lookup]
    refine W_forL (fun j e h' => ∃ ks, FD ts (fun u => u.rank ≤ (k : Nat) ∨ u ∈ (mt ts (k + 1)).take j) (10 * k + j) ks ∧ h' = h ++ [.dct ks] ∧ ∃ x7 : Option D, e = [some d, some (.lst (ts.map dMem)), some (.int ((tp lcmL ts k : Nat) : Int)), some (.int ((bt lcmL ts k : Nat) : Int)), some (.ref h.length), some (.int ((k : Int) + 1)), some (dRC (mt ts (k + 1))), x7, none, none, none, none]) _ _ _
      ⟨ks, ⟨f.len, fun u hu hs => f.at_ u hu (by simpa using hs)⟩, rfl, _, rfl⟩ (fun j dd hdd e h' hI => ?_) (fun e h' hI => ?_)
    · obtain ⟨ks, f, rfl, x7, rfl⟩ := hI
      rw [List.getElem?_map, Option.map_eq_some_iff] at hdd
      obtain ⟨u, hu, rfl⟩ := hdd
      have hm := List.mem_of_getElem? hu
      obtain ⟨hut, wu, hur⟩ := mt_wf w hm
      have hj : j < 10 := by
        have := (List.getElem?_eq_some_iff.mp hu).1
        have := mt_le w (k := k + 1)
        omega
      refine ⟨_, rfl, ?_⟩
      have e1 : ((tp lcmL ts k : Nat) : Int) * ((sk (lcmL (mt ts (k + 1))) u : Nat) : Int) = (((fr lcmL ts u).1 : Nat) : Int) := by
        have : u.rank.toNat = k + 1 := by omega
        unfold fr
        rw [this, ← Int.natCast_mul]
        rfl
      have e2 : ((bt lcmL ts k : Nat) : Int) * ((lf lcmL (mt ts (k + 1)) : Nat) : Int) = (((fr lcmL ts u).2 : Nat) : Int) := by
        have : u.rank.toNat = k + 1 := by omega
        unfold fr
        rw [this, ← Int.natCast_mul]
        rfl
      have m1 : mulOk ((tp lcmL ts k : Nat) : Int) ((sk (lcmL (mt ts (k + 1))) u : Nat) : Int) = true := mulOk_bl (by have := sk_small qf_lcm w (k + 1) hm; omega)
      have m2 : mulOk ((bt lcmL ts k : Nat) : Int) ((lf lcmL (mt ts (k + 1)) : Nat) : Int) = true := mulOk_bl (by omega)
      have s1 := fun h => sp (us := mt ts (k + 1)) wu (by omega) h
      have f2 := f.put w hut (T := fun u => u.rank ≤ (k : Nat) ∨ u ∈ (mt ts (k + 1)).take (j + 1)) fun v hv => by
        rcases hv with hv | hv
        · exact .inl (.inl hv)
        · rw [List.take_add_one, hu] at hv
          simp at hv
          rcases hv with hv | hv
          · exact .inl (.inr hv)
          · exact .inr hv
      have hks := f.len
      have hRC : dRC (mt ts (k + 1)) = .obj "RankCycle" [("members", .lst ((mt ts (k + 1)).map dMem)), ("quiet", .int (lcmL (mt ts (k + 1)) : Nat)), ("left", .int (lf lcmL (mt ts (k + 1)) : Nat))] := rfl
      have ia : ∀ g : OH, insAt g (dRC (mt ts (k + 1))) = some ("RankCycle", [("members", .lst ((mt ts (k + 1)).map dMem)), ("quiet", .int (lcmL (mt ts (k + 1)) : Nat)), ("left", .int (lf lcmL (mt ts (k + 1)) : Nat))]) := fun g => rfl
      have im : ∀ g : OH, insAt g (dMem u) = some ("Member", [("name", .str u.name), ("rank", .int u.rank), ("schedule", dSch u.pre u.cyc)]) := fun g => rfl
      have hn : hasNo [("members", .lst ((mt ts (k + 1)).map dMem)), ("quiet", .int (lcmL (mt ts (k + 1)) : Nat)), ("left", .int (lf lcmL (mt ts (k + 1)) : Nat))] "spoken_by" := rfl
      simp [ia, im, hn, List.lookup, s1, m1, m2, e1, e2]
      refine ⟨by simp only [big]; omega, ?_⟩
      simpa [dPr, Nat.add_assoc] using f2
    · obtain ⟨ks, f, rfl, x7, rfl⟩ := hI
      rw [List.length_map, List.take_length] at f
      refine hK _ _ ?_
      clear hK K
      have ia : ∀ g : OH, insAt g (dRC (mt ts (k + 1))) = some ("RankCycle", [("members", .lst ((mt ts (k + 1)).map dMem)), ("quiet", .int (lcmL (mt ts (k + 1)) : Nat)), ("left", .int (lf lcmL (mt ts (k + 1)) : Nat))]) := fun g => rfl
      have m1 : mulOk ((tp lcmL ts k : Nat) : Int) ((lcmL (mt ts (k + 1)) : Nat) : Int) = true := mulOk_bl (by omega)
      have m2 : mulOk ((bt lcmL ts k : Nat) : Int) ((lf lcmL (mt ts (k + 1)) : Nat) : Int) = true := mulOk_bl (by omega)
      have e1 : ((tp lcmL ts k : Nat) : Int) * ((lcmL (mt ts (k + 1)) : Nat) : Int) = ((tp lcmL ts (k + 1) : Nat) : Int) := by rw [← Int.natCast_mul]; rfl
      have e2 : ((bt lcmL ts k : Nat) : Int) * ((lf lcmL (mt ts (k + 1)) : Nat) : Int) = ((bt lcmL ts (k + 1) : Nat) : Int) := by rw [← Int.natCast_mul]; rfl
      simp [sPar, ia, List.lookup, m1, m2, e1, e2]
      refine ⟨?_, fun u hu hs => f.at_ u hu ?_⟩
      · have := f.len
        have := mt_le w (k := k + 1)
        omega
      · by_cases c : u.rank ≤ (k : Nat)
        · exact .inl c
        · exact .inr (List.mem_filter.mpr ⟨hu, decide_eq_true (by omega)⟩)
  · obtain ⟨ks, f, rfl, x5, x6, x7, rfl⟩ := hI
    refine hK _ _ ?_
    clear hK K
    have ln : (rngD 1 10).length = 10 := rfl
    rw [ln] at f ⊢
    refine SW_seqK fun K hK => ?_
    simp [wipeD]
    refine W_lcMap1 ts dMem (fun t => .str t.name) _ (by simp [big]; omega) (fun x hx => ⟨_, rfl, by simp [dMem, List.lookup]⟩) ?_
    simp
    refine ⟨by omega, ?_⟩
    rw [shE_names]
    refine hK _ _ ?_
    clear hK K
    refine SW_seqK fun K hK => ?_
    simp
    refine hK _ _ ?_
    clear hK K
    refine SW_seqK fun K hK => ?_
    simp
    refine hK _ _ ?_
    clear hK K
    have q2 := q ks (dPr (tp lcmL ts 10, bt lcmL ts 10))
    rw [shE_rows] at q2
    have gets : ∀ e ∈ shE ts, ∀ (g : OH) (PD : D → OH → Prop), g[h.length]? = some (.nd (hexN P wd) ks (dPr (tp lcmL ts 10, bt lcmL ts 10))) → (opGetN (hexN P wd) (.ref h.length) e.1 g).W PD = PD (dPr e.2) g := by
      intro e he g PD hg
      rcases List.mem_append.mp he with he | he
      · obtain ⟨u, hu, rfl⟩ := List.mem_map.mp he
        exact W_getN1 hg (f.at_ u hu (by have := (w.tk u hu).r2; simpa using this))
      · rw [List.mem_singleton] at he
        subst he
        exact W_getN0 hg
    have oks := fun q (hq : q ∈ shE ts) => shE_ok w hq
    have len : (shE ts).length ≤ 11 := by simp [shE]; omega
    have hx : D.tup [D.int ((tp lcmL ts 10 : Nat) : Int), D.int ((bt lcmL ts 10 : Nat) : Int)] = dPr (tp lcmL ts 10, bt lcmL ts 10) := rfl
    rw [hx]
    clear hx
    generalize shE ts = E at q2 gets oks len ⊢
    generalize dPr (tp lcmL ts 10, bt lcmL ts 10) = x0 at q2 gets ⊢
    refine SW_seqK fun K hK => ?_
    simp
    refine W_forL (fun j e h' => h' = h ++ [.nd (hexN P wd) ks x0, .lst ((E.take j).map fun q => dRow q.1 (red q.2))] ∧ ∃ x10 x11 : Option D, e = [some d, some (.lst (ts.map dMem)), some (.int ((tp lcmL ts 10 : Nat) : Int)), some (.int ((bt lcmL ts 10 : Nat) : Int)), some (.ref h.length), x5, x6, x7, some (.lst (E.map (·.1))), some (.ref (h.length + 1)), x10, x11]) _ _ _
      ⟨rfl, _, _, rfl⟩ (fun j dd hdd e h' hI => ?_) (fun e h' hI => ?_)
    · obtain ⟨rfl, x10, x11, rfl⟩ := hI
      rw [List.getElem?_map, Option.map_eq_some_iff] at hdd
      obtain ⟨⟨n, p⟩, hp, rfl⟩ := hdd
      have hm := List.mem_of_getElem? hp
      have hj : j < 11 := by
        have := (List.getElem?_eq_some_iff.mp hp).1
        omega
      obtain ⟨p0, p1, p2⟩ := oks _ hm
      have gt := gets _ hm
      dsimp only at p0 p1 p2 gt ⊢
      rw [List.take_add_one, hp]
      have g := fun h => gc (a := p.1) (b := p.2) h (by omega)
      have g0 : 0 < Nat.gcd p.1 p.2 := Nat.gcd_pos_of_pos_right _ p0
      have gb : bl2 (Nat.gcd p.1 p.2) ≤ 1051 := Nat.le_trans (bl2_mono (Nat.gcd_le_right _ p0)) p2
      have d1 : divOk (p.1 : Int) ((Nat.gcd p.1 p.2 : Nat) : Int) = true := divOk_bl g0 (by omega)
      have d2 : divOk (p.2 : Int) ((Nat.gcd p.1 p.2 : Nat) : Int) = true := divOk_bl g0 (by omega)
      have e1 : (p.1 : Int) / ((Nat.gcd p.1 p.2 : Nat) : Int) = (((red p).1 : Nat) : Int) := rfl
      have e2 : (p.2 : Int) / ((Nat.gcd p.1 p.2 : Nat) : Int) = (((red p).2 : Nat) : Int) := rfl
      refine ⟨_, rfl, ?_⟩
      refine SW_seqK fun K hK => ?_
      have gt2 := fun (l : List D) (PD : D → OH → Prop) => gt (h ++ [.nd (hexN P wd) ks x0, .lst l]) PD (by simp)
      simp [gt2, dPr, g]
      refine hK _ _ ?_
      clear hK K
      simp [gt2, dPr, d1, d2, e1, e2]
      exact ⟨by omega, rfl⟩
    · obtain ⟨rfl, x10, x11, rfl⟩ := hI
      rw [List.length_map, List.take_length]
      refine hK _ _ ?_
      exact q2 _ rfl
theorem shares1 {d : D} {ts : List Tk} (hd : Hallish d ts) (w : WfHall T30 ts) (P : Program) (wd : World) (h : OH) : pureF (Sh.shares_of_1 P wd) [d] h = .ok (.lst (sharD ts)) h := by
  refine pure_eq h (by simp [hd.pure]) (by rw [D.pure]; exact shar_pure ts) ?_
  unfold Sh.shares_of_1; rw [W_fn, shb1]
  refine sharesB hd w P wd [] fun ks x e he => ?_
  have v9 : ∀ (h : OH) (PD : D → OH → Prop), (sVar 9 e h).W PD = PD (.ref 1) h := fun h PD => by simp only [sVar, he]; rfl
  simp [v9]
end HR
set_option Elab.async false
set_option linter.all false
set_option maxRecDepth 20000
set_option exponentiation.threshold 5000
namespace HR
open PySem L2
/-! ### cycles of ranks: the maths (law k34) -/
def nl (x : Run) : Str × Int := (x.t.name, x.len)
/-! the start -/
def sv (ts : List Tk) (t : Tk) : Nat := if t.pre.length = 0 then 0 else endT ts t
theorem stCy_sv (ts : List Tk) : stCy ts = (ts.map (sv ts)).foldl max 0 := by
  unfold stCy
  rw [List.foldl_map]
  congr 1
  funext f t
  unfold stF sv
  split
  · rw [Nat.max_zero]
  · rfl
theorem le_fmax : ∀ {l : List Nat} {a : Nat}, a ≤ l.foldl max a ∧ ∀ x ∈ l, x ≤ l.foldl max a
  | [], _ => ⟨Nat.le_refl _, by simp⟩
  | x :: l, a => by
    obtain ⟨h1, h2⟩ := le_fmax (l := l) (a := max a x)
    rw [List.foldl_cons]
    refine ⟨Nat.le_trans (Nat.le_max_left _ _) h1, fun y hy => ?_⟩
    rcases List.mem_cons.mp hy with rfl | hy
    · exact Nat.le_trans (Nat.le_max_right _ _) h1
    · exact h2 y hy
/-! the talkers down to a rank -/
end HR
set_option Elab.async false
set_option linter.all false
set_option maxRecDepth 20000
set_option exponentiation.threshold 5000
namespace HR
open PySem L2
/-! ### without prefixes -/
def np (t : Tk) : Tk := { t with pre := [] }
/-! ### one rank alone -/
/-! ### the other way round -/
/-! ### packed ranks -/
end HR
set_option Elab.async false
set_option linter.all false
set_option maxRecDepth 20000
set_option exponentiation.threshold 5000
namespace HR
open PySem L2
/-! ### everything repeats: schedules, ranks -/
section
variable {f : Int × Int → Int} {p c : List (Int × Int)}
theorem acc_per (hc : 1 ≤ c.length) {n : Nat} (h : p.length ≤ n) (m : Nat) : acc f p c (n + m * c.length) = acc f p c n + m * (c.map f).sum := by
  have hr : (n - p.length) % c.length ≤ c.length := Nat.le_of_lt (Nat.mod_lt _ hc)
  have en : n = p.length + (n - p.length) / c.length * c.length + (n - p.length) % c.length := by
    have := Nat.div_add_mod (n - p.length) c.length
    rw [Nat.mul_comm] at this
    omega
  generalize (n - p.length) / c.length = q at *
  generalize (n - p.length) % c.length = r at *
  have e2 : n + m * c.length = p.length + (q + m) * c.length + r := by rw [en, Nat.add_mul]; omega
  rw [e2, acc_cyc (q + m) r hr, en, acc_cyc q r hr]
  push_cast
  rw [Int.add_mul]
  omega
theorem nth_per (hc : 1 ≤ c.length) {n : Nat} (h : p.length ≤ n) (m : Nat) : nth p c (n + m * c.length) = nth p c n := by
  unfold nth
  rw [if_neg (by omega), if_neg (by omega)]
  have e : n + m * c.length - p.length = n - p.length + m * c.length := by omega
  rw [e, Nat.add_mul_mod_self_right]
end
/-- the quiet tick at which the last talk of the prefix becomes ready -/
def pe (t : Tk) : Nat := (acc (·.1) t.pre t.cyc t.pre.length).toNat
section
variable {t : Tk} (w : WfTk T30 t)
include w
theorem pe_int : ((pe t : Nat) : Int) = acc (·.1) t.pre t.cyc t.pre.length := Int.toNat_of_nonneg (by have := acc_ge w.pos1 t.pre.length; omega)
theorem cnt_pe {q : Nat} (h : pe t ≤ q) : t.pre.length ≤ cnt t.pre t.cyc q := by
  rcases Nat.lt_or_ge (cnt t.pre t.cyc q) t.pre.length with l | l
  · exfalso
    have a := (cnt_at w.pos1 q).2
    have b := acc_mono w.pos1 (show cnt t.pre t.cyc q + 1 ≤ t.pre.length by omega)
    have := pe_int w
    omega
  · exact l
theorem cnt_per {q : Nat} (h : pe t ≤ q) (m : Nat) : cnt t.pre t.cyc (q + m * qs t) = cnt t.pre t.cyc q + m * t.cyc.length := by
  have hp := cnt_pe w h
  obtain ⟨a1, a2⟩ := cnt_at w.pos1 q
  obtain ⟨b1, b2⟩ := cnt_at w.pos1 (q + m * qs t)
  have e0 := acc_per (f := (·.1)) (p := t.pre) w.lc1 hp m
  have e1 := acc_per (f := (·.1)) (p := t.pre) w.lc1 (n := cnt t.pre t.cyc q + 1) (by omega) m
  rw [qs_int w] at e0 e1
  refine acc_inj w.pos1 b1 b2 ?_ ?_
  · rw [e0]; push_cast; omega
  · rw [show cnt t.pre t.cyc q + m * t.cyc.length + 1 = cnt t.pre t.cyc q + 1 + m * t.cyc.length by omega, e1]; push_cast; omega
theorem len2_per {q : Nat} (h : pe t ≤ q) (m : Nat) : len2 t.pre t.cyc (q + m * qs t) = len2 t.pre t.cyc q + m * ql t := by
  have a := len2_z w.pos2 q
  have b := len2_z w.pos2 (q + m * qs t)
  rw [cnt_per w h m, acc_per (f := (·.2)) (p := t.pre) w.lc1 (cnt_pe w h) m, ql_int w] at b
  have e : ((m * ql t : Nat) : Int) = (m : Int) * (ql t : Int) := by push_cast; rfl
  omega
end
section
variable {ts : List Tk} (w : WfHall T30 ts)
include w
/-- the talkers of a rank are all behind their prefixes -/
def Beh (ts : List Tk) (r q : Nat) : Prop := ∀ t ∈ mt ts r, pe t ≤ q
theorem lcm_mul {r : Nat} {t : Tk} (ht : t ∈ mt ts r) (j : Nat) : j * lcmL (mt ts r) = j * (lcmL (mt ts r) / qs t) * qs t := by
  rw [Nat.mul_assoc, Nat.div_mul_cancel (qf_lcm.dvd ht)]
theorem LL_per {r q : Nat} (h : Beh ts r q) (j : Nat) : LL ts r (q + j * lcmL (mt ts r)) = LL ts r q + j * ((mt ts r).map (sk (lcmL (mt ts r)))).sum := by
  have e : ∀ q, LL ts r q = ((mt ts r).map fun t => len2 t.pre t.cyc q).sum := fun q => rfl
  rw [e, e]
  have key : ∀ us : List Tk, (∀ t ∈ us, t ∈ mt ts r) → (us.map fun t => len2 t.pre t.cyc (q + j * lcmL (mt ts r))).sum = (us.map fun t => len2 t.pre t.cyc q).sum + j * (us.map (sk (lcmL (mt ts r)))).sum := fun us => by
    induction us with
    | nil => intro _; simp
    | cons t us ih =>
      intro hu
      have ht := hu t List.mem_cons_self
      have wt := (mt_wf w ht).2.1
      have i := ih fun v hv => hu v (List.mem_cons_of_mem _ hv)
      simp only [List.map_cons, List.sum_cons]
      rw [i, lcm_mul w ht j, len2_per wt (h t ht), Nat.mul_add]
      unfold sk
      rw [Nat.mul_assoc]
      omega
  exact key _ fun t ht => ht
theorem LI_per {r q : Nat} (h : Beh ts r q) (j : Nat) : LI ts r (q + j * lcmL (mt ts r)) = LI ts r q + j * lf lcmL (mt ts r) := by
  unfold LI lf
  rw [LL_per w h, Nat.mul_add]
  omega
end
end HR
set_option Elab.async false
set_option linter.all false
set_option maxRecDepth 20000
set_option exponentiation.threshold 5000
namespace HR
open PySem L2
/-! ### between the ends of a talk somebody speaks -/
section
variable {ts : List Tk} {t : Tk}
def lsum (L : List Run) : Int := (L.map (·.len)).sum
theorem runAt_len (w : WfTk T30 t) (r q : Nat) (hq : 0 < q) (hr : t.rank = (r : Int)) : (len2 t.pre t.cyc q : Int) - len2 t.pre t.cyc (q - 1) = lsum ((runAt r q t).toList) := by
  obtain ⟨p, rfl⟩ : ∃ p, q = p + 1 := ⟨q - 1, by omega⟩
  have a := len2_z w.pos2 (p + 1)
  have b := len2_z w.pos2 p
  rw [show p + 1 - 1 = p from by omega]
  obtain ⟨c1, c2⟩ := cnt_at w.pos1 p
  obtain ⟨d1, d2⟩ := cnt_at w.pos1 (p + 1)
  unfold runAt
  by_cases h : acc (·.1) t.pre t.cyc (cnt t.pre t.cyc p + 1) ≤ ((p + 1 : Nat) : Int)
  · have e : cnt t.pre t.cyc (p + 1) = cnt t.pre t.cyc p + 1 := by rw [cnt, if_pos h]
    have e2 : acc (·.1) t.pre t.cyc (cnt t.pre t.cyc p + 1) = ((p + 1 : Nat) : Int) := by omega
    rw [e, if_pos ⟨hr, by omega, e2⟩]
    rw [e] at a
    have d : acc (·.2) t.pre t.cyc (cnt t.pre t.cyc p + 1) = acc (·.2) t.pre t.cyc (cnt t.pre t.cyc p) + (nth t.pre t.cyc (cnt t.pre t.cyc p)).2 := rfl
    simp [lsum]
    omega
  · have e : cnt t.pre t.cyc (p + 1) = cnt t.pre t.cyc p := by rw [cnt, if_neg h]
    rw [e] at a
    rw [e, if_neg (fun z => by have := z.2.2; omega)]
    simp [lsum]
    omega
theorem LL_run (w : ∀ t ∈ ts, WfTk T30 t) (r q : Nat) (hq : 0 < q) : (LL ts r q : Int) - LL ts r (q - 1) = lsum (runL ts r q) := by
  unfold LL runL
  induction ts with
  | nil => simp [lsum]
  | cons t ts ih =>
    have i := ih fun x hx => w x (List.mem_cons_of_mem _ hx)
    by_cases h : (t.rank == (r : Int)) = true
    · have hr : t.rank = (r : Int) := by simpa using h
      have k := runAt_len (w t List.mem_cons_self) r q hq hr
      simp only [List.filter_cons_of_pos (p := fun t : Tk => t.rank == (r : Int)) h, List.map_cons, List.sum_cons, List.filterMap_cons]
      cases e : runAt r q t with
      | none => rw [e] at k; simp [lsum] at k i ⊢; omega
      | some x => rw [e] at k; simp [lsum] at k i ⊢; omega
    · have hr : ¬ t.rank = (r : Int) := by simpa using h
      have k : runAt r q t = none := by unfold runAt; rw [if_neg fun z => hr z.1]
      simp only [List.filter_cons_of_neg (p := fun t : Tk => t.rank == (r : Int)) h, List.filterMap_cons, k]
      exact i
theorem findT_some : ∀ (L : List Run) (off : Int), 0 ≤ off → off < lsum L → findT off L ≠ none
  | [], off, h0, h1 => by simp [lsum] at h1; omega
  | x :: r, off, h0, h1 => by
    unfold findT
    split
    · simp
    · refine findT_some r (off - x.len) (by omega) ?_
      simp [lsum] at h1 ⊢
      omega
end
end HR
set_option Elab.async false
set_option linter.all false
set_option maxRecDepth 20000
set_option exponentiation.threshold 5000
namespace HR
open PySem L2
/-! ### the simulation, exactly -/
/-- who is chosen: the ready ones of the least rank, the started ones of them first -/
def chooseG {α : Type} (rk : α → Int) (b st : α → Bool) (L : List α) : Option α := match L.filter b with
  | [] => none
  | x :: r => (((x :: r).filter fun y => rk y == (r.map rk).foldl min (rk x)).filter st ++ (x :: r).filter fun y => rk y == (r.map rk).foldl min (rk x)).head?
end HR
set_option Elab.async false
set_option linter.all false
set_option maxRecDepth 20000
set_option exponentiation.threshold 5000
namespace HR
open PySem L2
structure Rs where
  i : Nat
  b : Bool
  sp : Int
  wt : Int
abbrev Cf := Tk × Rs
def waitR (t : Tk) (r : Rs) : Rs := ⟨r.i, r.wt + 1 == (nth t.pre t.cyc r.i).1, r.sp, r.wt + 1⟩
def speakR (t : Tk) (r : Rs) : Rs := if r.sp + 1 = (nth t.pre t.cyc r.i).2 then ⟨r.i + 1, false, 0, 0⟩ else ⟨r.i, r.b, r.sp + 1, r.wt⟩
/-- does one wait at a tick -/
def waits (c : Option Tk) (x : Cf) : Bool := !x.2.b && (match c with | none => true | some u => decide (x.1.rank < u.rank))
def afterW (c : Option Tk) (x : Cf) : Cf := if waits c x then (x.1, waitR x.1 x.2) else x
def start (ts : List Tk) : List Cf := ts.map fun t => (t, ⟨0, false, 0, 0⟩)
def dN : Option Str → D
  | none => .non
  | some x => .str x
def oCf (x : Cf) : OO := oRun x.1 x.2.i x.2.b x.2.sp x.2.wt
theorem afterW_fst (c : Option Tk) (x : Cf) : (afterW c x).1 = x.1 := by
  unfold afterW
  split <;> rfl
/-! ### the program -/
end HR
set_option Elab.async false
set_option linter.all false
set_option maxRecDepth 20000
set_option exponentiation.threshold 5000
namespace HR
open PySem L2
/-- the heap in the midst of the waiting: the first i are through -/
def WaitIs (c : Option Tk) (S : List Cf) (i : Nat) (h : OH) : Prop := ∀ (k : Nat) (x : Cf), S[k]? = some x → h[k]? = some (oCf (if k < i then afterW c x else x))
theorem WaitIs.put {c : Option Tk} {S : List Cf} {i : Nat} {h : OH} (R : WaitIs c S i h) {x : Cf} (e : S[i]? = some x) {y : Cf} (q : afterW c x = y) : WaitIs c S (i + 1) (h.set i (oCf y)) := fun k z ez => by
  have lt : i < h.length := (List.getElem?_eq_some_iff.mp (R i x e)).1
  by_cases n : k = i
  · subst n
    rw [e] at ez
    cases ez
    rw [if_pos (by omega), q, List.getElem?_set_self lt]
  · have := R k z ez
    rw [List.getElem?_set_ne (by omega)]
    by_cases l : k < i
    · rw [if_pos l] at this
      rw [if_pos (by omega)]
      exact this
    · rw [if_neg l] at this
      rw [if_neg (by omega)]
      exact this
theorem WaitIs.tk {c : Option Tk} {S : List Cf} {i : Nat} {h : OH} (R : WaitIs c S i h) {k : Nat} {x : Cf} (e : S[k]? = some x) : ∃ r, h[k]? = some (oCf (x.1, r)) := by
  have := R k x e
  split at this
  · refine ⟨(afterW c x).2, ?_⟩
    rw [this, ← afterW_fst c x]
  · exact ⟨x.2, this⟩
end HR
set_option Elab.async false
set_option linter.all false
set_option maxRecDepth 20000
set_option exponentiation.threshold 5000
namespace HR
open PySem L2
/-! ### a record, read tick by tick -/
/-- what it shows of one member: the talks that are over, the one that may go on, the quiet ticks since -/
structure Ob where
  done : List (Int × Int)
  cur : Option (Int × Int)
  q : Int
def Ob.tk (o : Ob) : List (Int × Int) := o.done ++ o.cur.toList
structure RdS where
  obs : Nat → Ob
  lp : Int → Int
variable (rk : Nat → Int)
def S0 : RdS := ⟨fun _ => ⟨[], none, 0⟩, fun _ => -1⟩
/-! ### a record without a fault: what the end tells of what came before -/
end HR
set_option Elab.async false
set_option linter.all false
set_option maxRecDepth 20000
set_option exponentiation.threshold 5000
namespace HR
open PySem L2
/-! ### the hall with the talks of a record produces the record -/
def rkT (ts : List Tk) (j : Nat) : Int := (ts.getD j gTk).rank
end HR
set_option Elab.async false
set_option linter.all false
set_option maxRecDepth 20000
set_option exponentiation.threshold 5000
namespace HR
open PySem L2
/-! ### what a hall produces has no fault -/
def whoI (ts : List Tk) (r : Nat → Rs) : Option Nat := chooseG (rkT ts) (fun j => (r j).b) (fun j => decide (0 < (r j).sp)) (List.range ts.length)
def stepI (ts : List Tk) (r : Nat → Rs) (j : Nat) : Rs := match whoI ts r with
  | none => if (r j).b then r j else waitR (ts.getD j gTk) (r j)
  | some k => if j = k then speakR (ts.getD j gTk) (r j) else if !(r j).b && decide (rkT ts j < rkT ts k) then waitR (ts.getD j gTk) (r j) else r j
end HR
set_option Elab.async false
set_option linter.all false
set_option maxRecDepth 20000
set_option exponentiation.threshold 5000
set_option Elab.async false
set_option linter.all false
set_option maxRecDepth 20000
set_option exponentiation.threshold 5000
namespace HR
open PySem L2
/-! ### law k01: lists and tuples exchanged at random -/
def Drs (j i : Nat) (x : D) (R : D → Prop) : Prop := ∀ (h : OH) (P : D → OH → Prop), Spr h i → (∀ d h', R d → Spr h' i → Chg i h h' → P d h') → (Sh.l_dressed_n j [.ref i, x] h).W P
theorem Drs.mono {j i : Nat} {x : D} {R R' : D → Prop} (a : Drs j i x R) (q : ∀ d, R d → R' d) : Drs j i x R' := fun h P s z => a h P s fun d h' r => z d h' (q d r)
structure RTk (t : Tk) (d : D) : Prop where
  dr : DrTk d t
  sz : szD d = true
  rp : Rp d 3 6775
end HR
set_option Elab.async false
set_option linter.all false
set_option maxRecDepth 20000
set_option exponentiation.threshold 5000
namespace HR
open PySem L2
/-! ### law k01: talkers with one part changed -/
structure CH (d : D) : Prop where
  sz : szD d = true
  rp : Rp d 3 13540
end HR
set_option Elab.async false
set_option linter.all false
set_option maxRecDepth 20000
set_option exponentiation.threshold 5000
namespace HR
open PySem L2
/-! ### law k01: names with one other character; a hall that is changed in place -/
/-- n own talkers in a row -/
structure Sb (n : Nat) (f : Nat → Tk) (h : OH) : Prop where
  pre : ∀ m, m < n → h[3 * m]? = some (.lst ((f m).pre.map dT))
  cyc : ∀ m, m < n → h[3 * m + 1]? = some (.lst ((f m).cyc.map dT))
  tk : ∀ m, m < n → h[3 * m + 2]? = some (.lst [.str (f m).name, .int (f m).rank, .ref (3 * m), .ref (3 * m + 1)])
def rf (m : Nat) : D := .ref (3 * m + 2)
def upd1 (f : Nat → Tk) (k : Nat) (t : Tk) : Nat → Tk := fun m => if m = k then t else f m
theorem Sb.rank {n k : Nat} {f : Nat → Tk} {h : OH} (s : Sb n f h) (hk : k < n) (hl : 3 * n ≤ h.length) (r : Int) : Sb n (upd1 f k { f k with rank := r }) (h.set (3 * k + 2) (.lst [.str (f k).name, .int r, .ref (3 * k), .ref (3 * k + 1)])) := by
  refine ⟨fun m hm => ?_, fun m hm => ?_, fun m hm => ?_⟩
  · rw [List.getElem?_set_ne (by omega)]
    unfold upd1
    split
    · subst m; exact s.pre k hk
    · exact s.pre m hm
  · rw [List.getElem?_set_ne (by omega)]
    unfold upd1
    split
    · subst m; exact s.cyc k hk
    · exact s.cyc m hm
  · unfold upd1
    split
    · subst m
      rw [List.getElem?_set_self (by omega)]
    · rw [List.getElem?_set_ne (by omega)]
      exact s.tk m hm
end HR
set_option Elab.async false
set_option linter.all false
set_option maxRecDepth 20000
set_option exponentiation.threshold 5000
namespace HR
open PySem L2
/-! ### the law's own run (maths) -/
section
variable {ts : List Tk} {r : Nat → Rs}
def r00 : Nat → Rs := fun _ => ⟨0, false, 0, 0⟩
/-- the states at the ticks -/
def itI (ts : List Tk) : Nat → Nat → Rs
  | 0 => r00
  | n + 1 => stepI ts (itI ts n)
end
end HR
set_option Elab.async false
set_option linter.all false
set_option maxRecDepth 20000
namespace HR
open PySem L2
/-! ### the clocks count the simulation's ticks -/
section
variable {ts : List Tk}
/-- is a tick quiet for rank k -/
def qt (ts : List Tk) (k n : Nat) : Bool := match whoI ts (itI ts n) with
  | none => true
  | some j => decide ((k : Int) < rkT ts j)
theorem acc_s (f : Int × Int → Int) (p c : List (Int × Int)) (n : Nat) : acc f p c (n + 1) = acc f p c n + f (nth p c n) := rfl
end
end HR
set_option Elab.async false
set_option linter.all false
set_option maxRecDepth 20000
namespace HR
open PySem L2
/-! ### live halls: one rank, many ticks (maths) -/
/-- a seat: its schedule, the current talk, whether it is ready, what of the talk is spoken, how far its silences have advanced -/
structure St where
  pre : List (Int × Int)
  cyc : List (Int × Int)
  i : Nat
  b : Bool
  sp : Nat
  tot : Nat
def St.len (s : St) : Nat := (nth s.pre s.cyc s.i).2.toNat
def St.rest (s : St) : Nat := s.len - s.sp
structure StOk (s : St) : Prop where
  p1 : Pos1 (·.1) s.pre s.cyc
  p2 : Pos1 (·.2) s.pre s.cyc
  sil : s.b = false → acc (·.1) s.pre s.cyc s.i ≤ s.tot ∧ (s.tot : Int) < acc (·.1) s.pre s.cyc (s.i + 1) ∧ s.sp = 0
  rdy : s.b = true → acc (·.1) s.pre s.cyc (s.i + 1) = s.tot ∧ s.sp < s.len
/-- the talk is over -/
def St.done (s : St) : St := { s with i := s.i + 1, b := false, sp := 0 }
/-- some ticks of the talk -/
def St.say (x : Nat) (s : St) : St := { s with sp := s.sp + x }
/-- one quiet tick -/
def St.wait (s : St) : St := { s with tot := s.tot + 1, b := decide (((s.tot + 1 : Nat) : Int) = acc (·.1) s.pre s.cyc (s.i + 1)) }
/-- many quiet ticks -/
def St.pass (q : Nat) (s : St) : St :=
  if cnt s.pre s.cyc (s.tot + q) > s.i then
    (if acc (·.1) s.pre s.cyc (cnt s.pre s.cyc (s.tot + q)) = ((s.tot + q : Nat) : Int) then { s with i := cnt s.pre s.cyc (s.tot + q) - 1, b := true, tot := s.tot + q } else { s with i := cnt s.pre s.cyc (s.tot + q), tot := s.tot + q })
  else { s with tot := s.tot + q }
/-- what is left of it is over -/
def St.fin (s : St) : St := if s.b then s.done else s
theorem len_pos {s : St} (k : StOk s) : 1 ≤ s.len := by
  have := nth_pos k.p2 s.i
  unfold St.len
  omega
theorem rest_pos {s : St} (k : StOk s) (hb : s.b = true) : 1 ≤ s.rest := by
  have := (k.rdy hb).2
  unfold St.rest
  omega
theorem done_ok {s : St} (k : StOk s) (hb : s.b = true) : StOk s.done := by
  obtain ⟨a, c⟩ := k.rdy hb
  have := nth_pos k.p1 (s.i + 1)
  refine ⟨k.p1, k.p2, fun _ => ⟨?_, ?_, rfl⟩, fun h => by cases h⟩
  · simp only [St.done]; omega
  · simp only [St.done, acc_s (·.1) s.pre s.cyc (s.i + 1)]; omega
theorem say_ok {s : St} (k : StOk s) (hb : s.b = true) {x : Nat} (hx : x < s.rest) : StOk (s.say x) := by
  obtain ⟨a, c⟩ := k.rdy hb
  unfold St.rest at hx
  refine ⟨k.p1, k.p2, fun h => ?_, fun _ => ⟨a, ?_⟩⟩
  · simp only [St.say] at h
    rw [hb] at h
    cases h
  · show s.sp + x < s.len
    omega
theorem wait_ok {s : St} (k : StOk s) (hb : s.b = false) : StOk s.wait := by
  obtain ⟨a, c, d⟩ := k.sil hb
  have l := len_pos k
  refine ⟨k.p1, k.p2, fun h => ?_, fun h => ?_⟩
  · simp only [St.wait, decide_eq_false_iff_not] at h
    simp only [St.wait]
    exact ⟨by omega, by omega, d⟩
  · simp only [St.wait, decide_eq_true_eq] at h
    simp only [St.wait]
    refine ⟨by omega, ?_⟩
    show s.sp < s.len
    omega
theorem cnt_sil {s : St} (k : StOk s) (hb : s.b = false) : cnt s.pre s.cyc s.tot = s.i := by
  obtain ⟨a, c, d⟩ := k.sil hb
  obtain ⟨c1, c2⟩ := cnt_at k.p1 s.tot
  exact acc_inj k.p1 (q := (s.tot : Int)) c1 c2 a c
theorem cnt_up (p c : List (Int × Int)) (a : Nat) : ∀ q, cnt p c a ≤ cnt p c (a + q)
  | 0 => Nat.le_refl _
  | q + 1 => Nat.le_trans (cnt_up p c a q) (cnt_mono (a + q)).1
/-- after many quiet ticks, when all is said -/
theorem pass_fin {s : St} (k : StOk s) (hb : s.b = false) (q : Nat) : (s.pass q).fin = { s with i := cnt s.pre s.cyc (s.tot + q), tot := s.tot + q } := by
  have e := cnt_sil k hb
  have sp := (k.sil hb).2.2
  have up := cnt_up s.pre s.cyc s.tot q
  unfold St.pass
  split
  · rename_i h
    split
    · simp only [St.fin, if_true, St.done]
      rw [show cnt s.pre s.cyc (s.tot + q) - 1 + 1 = cnt s.pre s.cyc (s.tot + q) by omega, sp, ← hb]
    · simp only [St.fin, hb, Bool.false_eq_true, if_false]
  · rename_i h
    have : cnt s.pre s.cyc (s.tot + q) = s.i := by omega
    simp only [St.fin, hb, Bool.false_eq_true, if_false, this]
theorem pass_succ {s : St} (k : StOk s) (hb : s.b = false) (q : Nat) : s.pass (q + 1) = (s.pass q).fin.wait := by
  rw [pass_fin k hb q]
  have e := cnt_sil k hb
  have up := cnt_up s.pre s.cyc s.tot q
  obtain ⟨c1, c2⟩ := cnt_at k.p1 (s.tot + q)
  obtain ⟨d1, d2⟩ := cnt_at k.p1 (s.tot + q + 1)
  have l1 := nth_pos k.p1 (cnt s.pre s.cyc (s.tot + q) + 1)
  have hs := acc_s (·.1) s.pre s.cyc (cnt s.pre s.cyc (s.tot + q) + 1)
  unfold St.pass St.wait
  rw [show s.tot + (q + 1) = s.tot + q + 1 by omega]
  by_cases c : acc (·.1) s.pre s.cyc (cnt s.pre s.cyc (s.tot + q) + 1) ≤ ((s.tot + q + 1 : Nat) : Int)
  · have n : cnt s.pre s.cyc (s.tot + q + 1) = cnt s.pre s.cyc (s.tot + q) + 1 := by
      rw [cnt, if_pos c]
    rw [n, if_pos (by omega), if_pos (by omega)]
    have t : ((s.tot + q + 1 : Nat) : Int) = acc (·.1) s.pre s.cyc (cnt s.pre s.cyc (s.tot + q) + 1) := by omega
    simp only [Nat.add_sub_cancel, t, decide_true]
  · have n : cnt s.pre s.cyc (s.tot + q + 1) = cnt s.pre s.cyc (s.tot + q) := by
      rw [cnt, if_neg c]
    rw [n]
    have t : ¬ ((s.tot + q + 1 : Nat) : Int) = acc (·.1) s.pre s.cyc (cnt s.pre s.cyc (s.tot + q) + 1) := by omega
    have t2 : ¬ acc (·.1) s.pre s.cyc (cnt s.pre s.cyc (s.tot + q)) = ((s.tot + q + 1 : Nat) : Int) := by omega
    simp only [t, t2, decide_false, if_false]
    split
    · rw [hb]
    · have : cnt s.pre s.cyc (s.tot + q) = s.i := by omega
      rw [this, hb]
theorem pass_zero {s : St} (k : StOk s) (hb : s.b = false) : s.pass 0 = s := by
  have e := cnt_sil k hb
  unfold St.pass
  rw [Nat.add_zero, e, if_neg (by omega)]
theorem pass_ok {s : St} (k : StOk s) (hb : s.b = false) : ∀ q, StOk (s.pass q)
  | 0 => by rw [pass_zero k hb]; exact k
  | q + 1 => by
    rw [pass_succ k hb q]
    have p := pass_ok k hb q
    have f : StOk (s.pass q).fin ∧ (s.pass q).fin.b = false := by
      unfold St.fin
      cases h : (s.pass q).b with
      | false => simp only [Bool.false_eq_true, if_false]; exact ⟨p, h⟩
      | true => simp only [if_true]; exact ⟨done_ok p h, rfl⟩
    exact wait_ok f.1 f.2
end HR
set_option Elab.async false
set_option linter.all false
set_option maxRecDepth 20000
namespace HR
open PySem L2
/-! ### live halls: the ticks that are left to one rank, many at once (maths) -/
/-- the lengths of the talks that become ready within q quiet ticks -/
def St.within (s : St) (q : Nat) : Int := acc (·.2) s.pre s.cyc (cnt s.pre s.cyc (s.tot + q)) - acc (·.2) s.pre s.cyc (cnt s.pre s.cyc s.tot)
theorem within_zero (s : St) : s.within 0 = 0 := by simp [St.within]
theorem acc_up {f : Int × Int → Int} {p c : List (Int × Int)} (h : Pos1 f p c) (a : Nat) : ∀ d, acc f p c a ≤ acc f p c (a + d)
  | 0 => Int.le_refl _
  | d + 1 => by
    have := acc_up h a d
    have l := nth_pos h (a + d)
    have e := acc_s f p c (a + d)
    rw [show a + (d + 1) = a + d + 1 by omega, e]
    omega
theorem within_mono {s : St} (k : StOk s) (q d : Nat) : s.within q ≤ s.within (q + d) := by
  have u := cnt_up s.pre s.cyc (s.tot + q) d
  have := acc_up k.p2 (cnt s.pre s.cyc (s.tot + q)) (cnt s.pre s.cyc (s.tot + q + d) - cnt s.pre s.cyc (s.tot + q))
  rw [show cnt s.pre s.cyc (s.tot + q) + (cnt s.pre s.cyc (s.tot + q + d) - cnt s.pre s.cyc (s.tot + q)) = cnt s.pre s.cyc (s.tot + q + d) by omega] at this
  unfold St.within
  rw [show s.tot + (q + d) = s.tot + q + d by omega]
  omega
theorem within_nn {s : St} (k : StOk s) (q : Nat) : 0 ≤ s.within q := by
  have := within_mono k 0 q
  rw [within_zero, Nat.zero_add] at this
  exact this
theorem within_fin (s : St) (q : Nat) : s.fin.within q = s.within q := by
  unfold St.fin
  split <;> rfl
theorem within_wait (s : St) (q : Nat) : s.within (q + 1) = s.within 1 + s.wait.within q := by
  simp only [St.within, St.wait]
  rw [show s.tot + (q + 1) = s.tot + 1 + q by omega]
  omega
theorem wait_rest {s : St} (k : StOk s) (hb : s.b = false) : s.within 1 = if s.wait.b then (s.wait.rest : Int) else 0 := by
  have e := cnt_sil k hb
  obtain ⟨a, c, d⟩ := k.sil hb
  have l := nth_pos k.p2 s.i
  have ea := acc_s (·.2) s.pre s.cyc s.i
  by_cases h : ((s.tot + 1 : Nat) : Int) = acc (·.1) s.pre s.cyc (s.i + 1)
  · have n : cnt s.pre s.cyc (s.tot + 1) = s.i + 1 := by
      rw [cnt, e, if_pos (by omega)]
    have hb2 : s.wait.b = true := by simp [St.wait, h]
    rw [if_pos hb2]
    simp only [St.within, n, e, St.rest, St.len, St.wait, d]
    omega
  · have n : cnt s.pre s.cyc (s.tot + 1) = s.i := by
      rw [cnt, e, if_neg (by omega)]
    have hb2 : s.wait.b = false := decide_eq_false h
    rw [hb2]
    simp only [St.within, n, e]
    simp
theorem wait_fin_ok {s : St} (k : StOk s) (hb : s.b = false) : StOk s.wait.fin ∧ s.wait.fin.b = false := by
  have w := wait_ok k hb
  unfold St.fin
  cases h : s.wait.b with
  | false => simp only [Bool.false_eq_true, if_false]; exact ⟨w, h⟩
  | true => simp only [if_true]; exact ⟨done_ok w h, rfl⟩
theorem fin_sil {s : St} (hb : s.b = false) : s.fin = s := by
  unfold St.fin
  rw [hb]
  rfl
theorem pass_one {s : St} (k : StOk s) (hb : s.b = false) : s.pass 1 = s.wait := by
  rw [show (1 : Nat) = 0 + 1 from rfl, pass_succ k hb 0, pass_zero k hb, fin_sil hb]
theorem pass_pre {s : St} (k : StOk s) (hb : s.b = false) : ∀ m, s.pass (m + 2) = (s.wait.fin).pass (m + 1)
  | 0 => by
    obtain ⟨k1, b1⟩ := wait_fin_ok k hb
    rw [show 0 + 2 = 1 + 1 from rfl, pass_succ k hb 1, pass_one k hb, Nat.zero_add, pass_one k1 b1]
  | m + 1 => by
    obtain ⟨k1, b1⟩ := wait_fin_ok k hb
    rw [show m + 1 + 2 = (m + 2) + 1 from rfl, pass_succ k hb (m + 2), pass_pre k hb m, ← pass_succ k1 b1 (m + 1)]
section
variable {ι : Type} [DecidableEq ι]
/-- one place is changed -/
def updS (σ : ι → St) (i : ι) (s : St) : ι → St := fun j => if j = i then s else σ j
@[simp] theorem updS_same (σ : ι → St) (i : ι) (s : St) : updS σ i s i = s := by simp [updS]
theorem updS_ne {σ : ι → St} {i j : ι} {s : St} (h : j ≠ i) : updS σ i s j = σ j := by simp [updS, h]
/-- one tick that is left to the rank; whether it is quiet -/
def tickR (ss : List ι) (x : (ι → St) × List ι) : ((ι → St) × List ι) × Bool := match x.2 with
  | i :: r => (if (x.1 i).rest = 1 then (updS x.1 i (x.1 i).done, r) else (updS x.1 i ((x.1 i).say 1), i :: r), false)
  | [] => ((fun j => if j ∈ ss then (x.1 j).wait else x.1 j, ss.filter fun j => (x.1 j).wait.b), true)
/-- n ticks, and how many of them are quiet -/
def runR (ss : List ι) : Nat → (ι → St) × List ι → ((ι → St) × List ι) × Nat
  | 0, x => (x, 0)
  | n + 1, x => ((runR ss n (tickR ss x).1).1, (runR ss n (tickR ss x).1).2 + (tickR ss x).2.toNat)
/-- the seats of a queue speak in turn -/
def spkQ (σ : ι → St) : List ι → Nat → (ι → St) × List ι
  | [], _ => (σ, [])
  | i :: r, n => if n < (σ i).rest then (updS σ i ((σ i).say n), i :: r) else spkQ (updS σ i (σ i).done) r (n - (σ i).rest)
def blog (σ : ι → St) (q : List ι) : Nat := (q.map fun i => (σ i).rest).sum
def wthn (σ : ι → St) (ss : List ι) (m : Nat) : Int := (ss.map fun i => (σ i).within m).sum
/-- the rank's own state is sound -/
structure ROk (ss : List ι) (x : (ι → St) × List ι) : Prop where
  nd : ss.Nodup
  nq : x.2.Nodup
  ok : ∀ i ∈ ss, StOk (x.1 i)
  q : ∀ i, i ∈ x.2 ↔ i ∈ ss ∧ (x.1 i).b = true
theorem say_zero (s : St) : s.say 0 = s := rfl
theorem say_say (s : St) (x y : Nat) : (s.say x).say y = s.say (x + y) := by
  simp only [St.say, Nat.add_assoc]
theorem say_rest (s : St) (x : Nat) : (s.say x).rest = s.rest - x := by
  simp only [St.say, St.rest, St.len]
  omega
theorem say_done {s : St} (x : Nat) : (s.say x).done = s.done := rfl
theorem updS_updS (σ : ι → St) (i : ι) (s t : St) : updS (updS σ i s) i t = updS σ i t := by
  funext j
  unfold updS
  split <;> simp [*]
theorem updS_self (σ : ι → St) (i : ι) : updS σ i (σ i) = σ := by
  funext j
  unfold updS
  split
  · simp [*]
  · rfl
theorem run_add (ss : List ι) : ∀ (a b : Nat) (x : (ι → St) × List ι), runR ss (a + b) x = ((runR ss b (runR ss a x).1).1, (runR ss b (runR ss a x).1).2 + (runR ss a x).2)
  | 0, b, x => by simp [runR]
  | a + 1, b, x => by
    rw [show a + 1 + b = (a + b) + 1 by omega]
    simp only [runR]
    rw [run_add ss a b]
    simp only [Nat.add_assoc]
/-- the head speaks some ticks of its rest, not all -/
theorem run_head (ss : List ι) (σ : ι → St) (i : ι) (r : List ι) : ∀ n, n < (σ i).rest → runR ss n (σ, i :: r) = ((updS σ i ((σ i).say n), i :: r), 0)
  | 0, h => by rw [say_zero, updS_self]; rfl
  | n + 1, h => by
    rw [run_add ss n 1, run_head ss σ i r n (by omega)]
    have hr : ((σ i).say n).rest ≠ 1 := by rw [say_rest]; omega
    simp only [runR, tickR, updS_same, if_neg hr, updS_updS, say_say]
    rfl
theorem run_first (ss : List ι) (σ : ι → St) (i : ι) (r : List ι) (h : 1 ≤ (σ i).rest) : runR ss (σ i).rest (σ, i :: r) = ((updS σ i (σ i).done, r), 0) := by
  obtain ⟨n, e⟩ : ∃ n, (σ i).rest = n + 1 := ⟨(σ i).rest - 1, by omega⟩
  rw [e, run_add ss n 1, run_head ss σ i r n (by omega)]
  have hr : ((σ i).say n).rest = 1 := by rw [say_rest]; omega
  simp only [runR, tickR, updS_same, if_pos hr, updS_updS, say_done]
  rfl
theorem blog_cons (σ : ι → St) (i : ι) (r : List ι) : blog σ (i :: r) = (σ i).rest + blog σ r := by simp [blog]
theorem blog_upd {σ : ι → St} {i : ι} {s : St} {r : List ι} (h : i ∉ r) : blog (updS σ i s) r = blog σ r := by
  unfold blog
  congr 1
  refine List.map_congr_left fun j hj => ?_
  rw [updS_ne (i := i) (j := j) (fun z => h (z ▸ hj))]
/-- while somebody of the queue speaks -/
theorem run_spk (ss : List ι) : ∀ (q : List ι) (σ : ι → St) (n : Nat), q.Nodup → (∀ i ∈ q, 1 ≤ (σ i).rest) → n ≤ blog σ q → runR ss n (σ, q) = (spkQ σ q n, 0)
  | [], σ, n, _, _, h => by
    have : n = 0 := by simpa [blog] using h
    subst this
    rfl
  | i :: r, σ, n, nd, pos, h => by
    rw [List.nodup_cons] at nd
    rw [blog_cons] at h
    unfold spkQ
    by_cases c : n < (σ i).rest
    · rw [if_pos c, run_head ss σ i r n c]
    · rw [if_neg c]
      have e : n = (σ i).rest + (n - (σ i).rest) := by omega
      conv => lhs; rw [e]
      rw [run_add, run_first ss σ i r (pos i List.mem_cons_self)]
      have hp : ∀ j ∈ r, 1 ≤ (updS σ i (σ i).done j).rest := fun j hj => by
        rw [updS_ne (i := i) (j := j) (fun z => nd.1 (z ▸ hj))]
        exact pos j (List.mem_cons_of_mem _ hj)
      rw [run_spk ss r _ _ nd.2 hp (by rw [blog_upd nd.1]; omega)]
      rfl
/-- all speak to the end -/
theorem spk_all : ∀ (q : List ι) (σ : ι → St), q.Nodup → spkQ σ q (blog σ q) = (fun j => if j ∈ q then (σ j).done else σ j, [])
  | [], σ, _ => by simp [spkQ]
  | i :: r, σ, nd => by
    rw [List.nodup_cons] at nd
    unfold spkQ
    rw [blog_cons, if_neg (by omega), Nat.add_sub_cancel_left, ← blog_upd (s := (σ i).done) nd.1, spk_all r _ nd.2]
    refine Prod.ext ?_ rfl
    funext j
    by_cases c : j = i
    · subst c
      simp [nd.1]
    · simp [List.mem_cons, c, updS_ne c]
end
end HR
set_option Elab.async false
set_option linter.all false
set_option maxRecDepth 20000
namespace HR
open PySem L2
section
variable {ι : Type} [DecidableEq ι]
/-- m is the number of quiet ticks among n that are left -/
def IsQ (σ : ι → St) (ss q : List ι) (n m : Nat) : Prop :=
  (n : Int) ≤ blog σ q + m + wthn σ ss m ∧ ∀ j, j < m → (blog σ q : Int) + j + wthn σ ss j < n
/-- what the program makes of n ticks, m of them quiet -/
def advR (σ : ι → St) (ss q : List ι) (n m : Nat) : (ι → St) × List ι :=
  if m = 0 then spkQ σ q n else
    let σ2 : ι → St := fun j => if j ∈ ss then ((spkQ σ q (blog σ q)).1 j).pass m else (spkQ σ q (blog σ q)).1 j
    spkQ σ2 (ss.filter fun j => (σ2 j).b) (n - ((blog σ q : Int) + m + wthn σ ss (m - 1)).toNat)
theorem sum_nn {f : ι → Int} : ∀ {l : List ι}, (∀ i ∈ l, 0 ≤ f i) → 0 ≤ (l.map f).sum
  | [], _ => by simp
  | i :: l, h => by
    have h1 := h i List.mem_cons_self
    have h2 := sum_nn (f := f) (l := l) fun j hj => h j (List.mem_cons_of_mem _ hj)
    simp only [List.map_cons, List.sum_cons]
    omega
theorem sum_add {f g : ι → Int} : ∀ {l : List ι}, (l.map fun i => f i + g i).sum = (l.map f).sum + (l.map g).sum
  | [] => by simp
  | i :: l => by
    simp only [List.map_cons, List.sum_cons, sum_add (f := f) (g := g) (l := l)]
    omega
theorem wthn_congr {σ τ : ι → St} {ss : List ι} (h : ∀ i ∈ ss, ∀ q, (σ i).within q = (τ i).within q) (m : Nat) : wthn σ ss m = wthn τ ss m := by
  unfold wthn
  congr 1
  exact List.map_congr_left fun i hi => h i hi m
theorem wthn_nn {σ : ι → St} {ss : List ι} (h : ∀ i ∈ ss, StOk (σ i)) (m : Nat) : 0 ≤ wthn σ ss m := sum_nn fun i hi => within_nn (h i hi) m
theorem wthn_zero (σ : ι → St) (ss : List ι) : wthn σ ss 0 = 0 := by
  unfold wthn
  simp only [within_zero]
  induction ss with
  | nil => rfl
  | cons i ss ih => simp only [List.map_cons, List.sum_cons, ih]; rfl
theorem blog_sum (σ : ι → St) (ss : List ι) (b : ι → Bool) : ((blog σ (ss.filter b) : Nat) : Int) = (ss.map fun i => if b i then ((σ i).rest : Int) else 0).sum := by
  induction ss with
  | nil => rfl
  | cons i ss ih =>
    rw [List.map_cons, List.sum_cons, ← ih, List.filter_cons]
    cases b i with
    | true => simp only [if_true, blog_cons]; omega
    | false => simp
/-- the state of the rank after a quiet tick -/
theorem quiet_step {ss : List ι} {σ : ι → St} (k : ROk ss (σ, [])) :
    ROk ss (tickR ss (σ, [])).1 ∧ ((blog (tickR ss (σ, [])).1.1 (tickR ss (σ, [])).1.2 : Nat) : Int) = wthn σ ss 1 ∧ ∀ m, wthn σ ss (m + 1) = wthn σ ss 1 + wthn (tickR ss (σ, [])).1.1 ss m := by
  have sil : ∀ i ∈ ss, (σ i).b = false := fun i hi => by
    cases h : (σ i).b with
    | false => rfl
    | true => exact nomatch (k.q i).mpr ⟨hi, h⟩
  refine ⟨⟨k.nd, k.nd.filter _, fun i hi => ?_, fun i => ?_⟩, ?_, fun m => ?_⟩
  · simp only [tickR, if_pos hi]
    exact wait_ok (k.ok i hi) (sil i hi)
  · simp only [tickR, List.mem_filter]
    constructor
    · rintro ⟨h1, h2⟩
      exact ⟨h1, by rw [if_pos h1]; exact h2⟩
    · rintro ⟨h1, h2⟩
      rw [if_pos h1] at h2
      exact ⟨h1, h2⟩
  · simp only [tickR]
    rw [blog_sum]
    unfold wthn
    congr 1
    refine List.map_congr_left fun i hi => ?_
    rw [wait_rest (k.ok i hi) (sil i hi), if_pos hi]
  · have e : wthn (tickR ss (σ, [])).1.1 ss m = (ss.map fun i => (σ i).wait.within m).sum := by
      unfold wthn
      congr 1
      exact List.map_congr_left fun i hi => by simp only [tickR, if_pos hi]
    rw [e]
    unfold wthn
    rw [← sum_add]
    congr 1
    exact List.map_congr_left fun i hi => within_wait (σ i) m
/-- a rank with nobody in the queue -/
theorem all_fin {ss q : List ι} {σ : ι → St} (k : ROk ss (σ, q)) : (fun j => if j ∈ q then (σ j).done else σ j) = fun j => if j ∈ ss then (σ j).fin else σ j := by
  funext j
  by_cases h : j ∈ q
  · obtain ⟨a, b⟩ := (k.q j).mp h
    have b : (σ j).b = true := b
    rw [if_pos h, if_pos a]
    simp [St.fin, b]
  · rw [if_neg h]
    by_cases a : j ∈ ss
    · rw [if_pos a]
      have b : (σ j).b = false := by
        cases hb : (σ j).b with
        | false => rfl
        | true => exact absurd ((k.q j).mpr ⟨a, hb⟩) h
      rw [fin_sil b]
    · rw [if_neg a]
theorem fin_ok {s : St} (k : StOk s) : StOk s.fin ∧ s.fin.b = false := by
  unfold St.fin
  cases h : s.b with
  | false => simp only [Bool.false_eq_true, if_false]; exact ⟨k, h⟩
  | true => simp only [if_true]; exact ⟨done_ok k h, rfl⟩
/-- after the queue has spoken -/
theorem said_ok {ss q : List ι} {σ : ι → St} (k : ROk ss (σ, q)) : ROk ss ((spkQ σ q (blog σ q)).1, []) ∧ runR ss (blog σ q) (σ, q) = (((spkQ σ q (blog σ q)).1, []), 0) ∧ (∀ m, wthn (spkQ σ q (blog σ q)).1 ss m = wthn σ ss m) ∧ (spkQ σ q (blog σ q)).1 = fun j => if j ∈ ss then (σ j).fin else σ j := by
  have e := spk_all q σ k.nq
  have e1 : (spkQ σ q (blog σ q)).1 = fun j => if j ∈ ss then (σ j).fin else σ j := by rw [e]; exact all_fin k
  refine ⟨⟨k.nd, List.nodup_nil, fun i hi => ?_, fun i => ?_⟩, ?_, fun m => ?_, e1⟩
  · show StOk ((spkQ σ q (blog σ q)).1 i)
    rw [e1]
    simp only [if_pos hi]
    exact (fin_ok (k.ok i hi)).1
  · show i ∈ [] ↔ i ∈ ss ∧ ((spkQ σ q (blog σ q)).1 i).b = true
    rw [e1]
    constructor
    · intro h; exact nomatch h
    · rintro ⟨h1, h2⟩
      simp only [if_pos h1] at h2
      rw [(fin_ok (k.ok i h1)).2] at h2
      exact nomatch h2
  · rw [run_spk ss q σ _ k.nq (fun i hi => rest_pos (k.ok i ((k.q i).mp hi).1) ((k.q i).mp hi).2) (Nat.le_refl _), e]
  · refine wthn_congr (fun i hi x => ?_) m
    rw [e1]
    simp only [if_pos hi]
    exact within_fin _ x
/-- THE THEOREM: n ticks, one after another, are what the program reckons -/
theorem run_adv (ss : List ι) : ∀ (n : Nat) (σ : ι → St) (q : List ι) (m : Nat), ROk ss (σ, q) → IsQ σ ss q n m → runR ss n (σ, q) = (advR σ ss q n m, m) := by
  intro n
  induction n using Nat.strongRecOn with
  | _ n ih =>
    intro σ q m k hq
    obtain ⟨q1, q2⟩ := hq
    have pos : ∀ i ∈ q, 1 ≤ (σ i).rest := fun i hi => rest_pos (k.ok i ((k.q i).mp hi).1) ((k.q i).mp hi).2
    have w0 : wthn σ ss 0 = 0 := wthn_zero σ ss
    rcases Nat.eq_zero_or_pos m with rfl | hm
    · rw [run_spk ss q σ n k.nq pos (by omega)]
      rfl
    · have lt := q2 0 hm
      obtain ⟨k1, r1, w1, e1⟩ := said_ok k
      have en : n = blog σ q + ((n - blog σ q - 1) + 1) := by omega
      obtain ⟨k2, b2, w2⟩ := quiet_step k1
      generalize hσ1 : (spkQ σ q (blog σ q)).1 = σ1 at k1 r1 w1 e1 k2 b2 w2
      generalize hx : (tickR ss (σ1, [])).1 = x at k2 b2 w2
      obtain ⟨σ2, q'⟩ := x
      have hx1 : σ2 = fun j => if j ∈ ss then (σ1 j).wait else σ1 j := (congrArg Prod.fst hx).symm
      have hx2 : q' = ss.filter fun j => (σ1 j).wait.b := (congrArg Prod.snd hx).symm
      dsimp only at b2 w2
      have wz : wthn σ2 ss 0 = 0 := wthn_zero σ2 ss
      -- what is left behind the first quiet tick
      have hq' : IsQ σ2 ss q' (n - blog σ q - 1) (m - 1) := by
        refine ⟨?_, fun j hj => ?_⟩
        · have := w2 (m - 1)
          rw [show m - 1 + 1 = m by omega, w1] at this
          have z := w1 1
          omega
        · have := w2 j
          have h2 := q2 (j + 1) (by omega)
          rw [w1] at this
          have z := w1 1
          omega
      have hrun := ih (n - blog σ q - 1) (by omega) σ2 q' (m - 1) k2 hq'
      have step : runR ss n (σ, q) = (advR σ2 ss q' (n - blog σ q - 1) (m - 1), m) := by
        rw [en, run_add, r1]
        simp only [runR]
        rw [hx, hrun]
        simp only [tickR, Bool.toNat_true, Nat.add_zero]
        rw [show blog σ q + (n - blog σ q - 1 + 1) - blog σ q - 1 = n - blog σ q - 1 by omega, show m - 1 + 1 = m by omega]
      rw [step]
      refine Prod.ext ?_ rfl
      show advR σ2 ss q' (n - blog σ q - 1) (m - 1) = advR σ ss q n m
      have sil : ∀ i ∈ ss, (σ1 i).b = false := fun i hi => by
        cases h : (σ1 i).b with
        | false => rfl
        | true => exact nomatch (k1.q i).mpr ⟨hi, h⟩
      unfold advR
      rw [if_neg (show ¬ m = 0 by omega)]
      simp only [hσ1]
      rcases Nat.eq_zero_or_pos (m - 1) with m0 | m0
      · rw [if_pos m0]
        have m1 : m = 1 := by omega
        subst m1
        have eσ : (fun j => if j ∈ ss then (σ1 j).pass 1 else σ1 j) = σ2 := by
          rw [hx1]
          funext j
          by_cases h : j ∈ ss
          · rw [if_pos h, if_pos h, pass_one (k1.ok j h) (sil j h)]
          · rw [if_neg h, if_neg h]
        rw [eσ]
        have eq' : q' = ss.filter fun j => (σ2 j).b := by
          rw [hx2, hx1]
          refine List.filter_congr fun j hj => ?_
          simp only [if_pos hj]
        have ef : (ss.filter fun j => (if j ∈ ss then (σ1 j).pass 1 else σ1 j).b) = q' := by
          rw [eq', ← eσ]
        rw [ef, show 1 - 1 = 0 from rfl, w0]
        congr 1
      · rw [if_neg (by omega)]
        obtain ⟨_, _, _, e3⟩ := said_ok k2
        rw [e3]
        have eσ : (fun j => if j ∈ ss then ((fun j => if j ∈ ss then (σ2 j).fin else σ2 j) j).pass (m - 1) else (fun j => if j ∈ ss then (σ2 j).fin else σ2 j) j) = fun j => if j ∈ ss then (σ1 j).pass m else σ1 j := by
          funext j
          by_cases h : j ∈ ss
          · simp only [if_pos h, hx1]
            obtain ⟨z, rfl⟩ : ∃ z, m = z + 2 := ⟨m - 2, by omega⟩
            rw [pass_pre (k1.ok j h) (sil j h) z, show z + 2 - 1 = z + 1 from rfl]
          · simp only [if_neg h, hx1]
        refine congr (congr (congrArg spkQ eσ) ?_) ?_
        · refine List.filter_congr fun j hj => ?_
          exact congrArg St.b (congrFun eσ j)
        have n2 : 0 ≤ wthn σ2 ss (m - 1 - 1) := wthn_nn k2.ok _
        have n3 : 0 ≤ wthn σ ss 1 := wthn_nn k.ok _
        have := w2 (m - 1 - 1)
        rw [show m - 1 - 1 + 1 = m - 1 by omega, w1] at this
        have z := w1 1
        omega
end
end HR
set_option Elab.async false
set_option linter.all false
set_option maxRecDepth 20000
namespace HR
open PySem L2
section
variable {ι : Type} [DecidableEq ι]
abbrev RSt (ι : Type) := (ι → St) × List ι
def updR (x : Nat → RSt ι) (r : Nat) (y : RSt ι) : Nat → RSt ι := fun j => if j = r then y else x j
@[simp] theorem updR_same (x : Nat → RSt ι) (r : Nat) (y : RSt ι) : updR x r y r = y := by simp [updR]
theorem updR_ne {x : Nat → RSt ι} {r j : Nat} {y : RSt ι} (h : j ≠ r) : updR x r y j = x j := by simp [updR, h]
/-- n ticks of the ranks rs, one after another: what is quiet for one is left to the next -/
def casc (ss : Nat → List ι) : List Nat → Nat → (Nat → RSt ι) → (Nat → RSt ι) × Nat
  | [], n, x => (x, n)
  | r :: rs, n, x => casc ss rs (runR (ss r) n (x r)).2 (updR x r (runR (ss r) n (x r)).1)
theorem casc_out (ss : Nat → List ι) : ∀ (rs : List Nat) (n : Nat) (x : Nat → RSt ι) (r : Nat), r ∉ rs → (casc ss rs n x).1 r = x r
  | [], _, _, _, _ => rfl
  | s :: rs, n, x, r, h => by
    rw [List.mem_cons, not_or] at h
    unfold casc
    rw [casc_out ss rs _ _ r h.2, updR_ne h.1]
/-- soundness stays -/
theorem tickR_ok {ss : List ι} {x : RSt ι} (k : ROk ss x) : ROk ss (tickR ss x).1 := by
  obtain ⟨σ, q⟩ := x
  cases q with
  | nil => exact (quiet_step k).1
  | cons i r =>
    have nq := k.nq
    rw [List.nodup_cons] at nq
    have hi := (k.q i).mp List.mem_cons_self
    have ki := k.ok i hi.1
    have kr := rest_pos ki hi.2
    simp only [tickR]
    have other : ∀ j, j ≠ i → (j ∈ r ↔ j ∈ ss ∧ (σ j).b = true) := fun j hj => by
      have := k.q j
      rw [List.mem_cons] at this
      constructor
      · intro h; exact this.mp (.inr h)
      · intro h; exact (this.mpr h).resolve_left hj
    split
    · rename_i e
      refine ⟨k.nd, nq.2, fun j hj => ?_, fun j => ?_⟩
      · by_cases c : j = i
        · subst c
          simp only [updS_same]
          exact done_ok ki hi.2
        · simp only [updS_ne c]
          exact k.ok j hj
      · by_cases c : j = i
        · subst c
          simp only [updS_same]
          constructor
          · intro h; exact absurd h nq.1
          · intro h; exact absurd h.2 (by simp [St.done])
        · simp only [updS_ne c]
          exact other j c
    · rename_i e
      refine ⟨k.nd, k.nq, fun j hj => ?_, fun j => ?_⟩
      · by_cases c : j = i
        · subst c
          simp only [updS_same]
          have e' : ¬ (σ j).rest = 1 := e
          have kr' : 1 ≤ (σ j).rest := kr
          exact say_ok (x := 1) ki hi.2 (by show 1 < (σ j).rest; omega)
        · simp only [updS_ne c]
          exact k.ok j hj
      · by_cases c : j = i
        · subst c
          simp only [updS_same, List.mem_cons, true_or, true_iff]
          exact ⟨hi.1, hi.2⟩
        · simp only [updS_ne c, List.mem_cons, c, false_or]
          exact other j c
theorem run_ok {ss : List ι} : ∀ (n : Nat) {x : RSt ι}, ROk ss x → ROk ss (runR ss n x).1
  | 0, _, k => k
  | n + 1, _, k => run_ok n (tickR_ok k)
theorem casc_ok {ss : Nat → List ι} : ∀ (rs : List Nat) (n : Nat) {x : Nat → RSt ι}, (∀ r, ROk (ss r) (x r)) → ∀ r, ROk (ss r) ((casc ss rs n x).1 r)
  | [], _, _, k, r => k r
  | s :: rs, n, x, k, r => by
    unfold casc
    refine casc_ok rs _ (fun j => ?_) r
    by_cases c : j = s
    · subst c
      rw [updR_same]
      exact run_ok n (k j)
    · rw [updR_ne c]
      exact k j
end
end HR
set_option Elab.async false
set_option linter.all false
set_option maxRecDepth 20000
set_option exponentiation.threshold 5000
namespace HR
open PySem L2
/-! ### seats of a live hall: what the methods do -/
def seatF (t : Tk) (s : St) : List (String × D) := [("name", .str t.name), ("rank", .int t.rank), ("schedule", dSch t.pre t.cyc), ("index", .int s.i), ("is_ready", .bl s.b), ("spoken", .int s.sp), ("silence_total", .int s.tot)]
section
variable (t : Tk) (s : St)
@[simp] theorem seat_name : (seatF t s).lookup "name" = some (.str t.name) := rfl
@[simp] theorem seat_rank : (seatF t s).lookup "rank" = some (.int t.rank) := rfl
@[simp] theorem seat_schedule : (seatF t s).lookup "schedule" = some (dSch t.pre t.cyc) := rfl
@[simp] theorem seat_index : (seatF t s).lookup "index" = some (.int s.i) := rfl
@[simp] theorem seat_ready : (seatF t s).lookup "is_ready" = some (.bl s.b) := rfl
@[simp] theorem seat_spoken : (seatF t s).lookup "spoken" = some (.int s.sp) := rfl
@[simp] theorem seat_total : (seatF t s).lookup "silence_total" = some (.int s.tot) := rfl
@[simp] theorem seat_no1 : hasNo (seatF t s) "rest_of_talk" := rfl
@[simp] theorem seat_no2 : hasNo (seatF t s) "rest_of_silence" := rfl
@[simp] theorem seat_no3 : hasNo (seatF t s) "total_spoken" := rfl
@[simp] theorem seat_no4 : hasNo (seatF t s) "length_within" := rfl
@[simp] theorem seat_no5 : hasNo (seatF t s) "speak_ticks" := rfl
@[simp] theorem seat_no6 : hasNo (seatF t s) "let_silences_pass" := rfl
@[simp] theorem seat_no7 : hasNo (seatF t s) "row" := rfl
@[simp] theorem seat_no8 : hasNo (seatF t s) "copied" := rfl
@[simp] theorem seat_len : (seatF t s).length = 7 := rfl
@[simp] theorem seat_adds (x : Nat) : putS "spoken" (.int ((s.sp : Int) + (x : Int))) (seatF t s) = seatF t { s with sp := s.sp + x } := by rw [← Int.natCast_add]; rfl
@[simp] theorem seat_addt (x : Nat) : putS "silence_total" (.int ((s.tot : Int) + (x : Int))) (seatF t s) = seatF t { s with tot := s.tot + x } := by rw [← Int.natCast_add]; rfl
@[simp] theorem seat_addi (i : Nat) : putS "index" (.int ((i : Int) + 1)) (seatF t s) = seatF t { s with i := i + 1 } := rfl
@[simp] theorem seat_puts0 : putS "spoken" (.int 0) (seatF t s) = seatF t { s with sp := 0 } := rfl
@[simp] theorem seat_putb (b : Bool) : putS "is_ready" (.bl b) (seatF t s) = seatF t { s with b := b } := rfl
@[simp] theorem seat_puti (i : Nat) : putS "index" (.int (i : Int)) (seatF t s) = seatF t { s with i := i } := rfl
end
def schF (p c : List (Int × Int)) : List (String × D) := [("prefix", .lst (p.map dT)), ("cycle", .lst (c.map dT)), ("prefix_silences", .lst ((sums (p.map (·.1))).map D.int)), ("prefix_lengths", .lst ((sums (p.map (·.2))).map D.int)), ("cycle_silences", .lst ((sums (c.map (·.1))).map D.int)), ("cycle_lengths", .lst ((sums (c.map (·.2))).map D.int))]
section
variable (p c : List (Int × Int)) (h : OH)
@[simp] theorem insAt_sch : insAt h (dSch p c) = some ("Schedule", schF p c) := rfl
@[simp] theorem sch_prefix : (schF p c).lookup "prefix" = some (.lst (p.map dT)) := rfl
@[simp] theorem sch_cycle : (schF p c).lookup "cycle" = some (.lst (c.map dT)) := rfl
@[simp] theorem sch_pl : (schF p c).lookup "prefix_lengths" = some (dSums (·.2) p) := rfl
@[simp] theorem sch_cl : (schF p c).lookup "cycle_lengths" = some (dSums (·.2) c) := rfl
@[simp] theorem sch_no1 : hasNo (schF p c) "nth_talk" := rfl
@[simp] theorem sch_no2 : hasNo (schF p c) "nth_ready" := rfl
@[simp] theorem sch_no3 : hasNo (schF p c) "count_ready" := rfl
@[simp] theorem sch_no4 : hasNo (schF p c) "length_ready" := rfl
@[simp] theorem sch_no5 : hasNo (schF p c) "sum_of_first" := rfl
end
structure SeatOk (t : Tk) (s : St) : Prop where
  w : WfTk T30 t
  ep : s.pre = t.pre
  ec : s.cyc = t.cyc
  k : StOk s
  tb : s.tot < 2 ^ 300
theorem SeatOk.len {t : Tk} {s : St} (o : SeatOk t s) : (s.len : Int) = (nth t.pre t.cyc s.i).2 := by
  have := nth_pos o.k.p2 s.i
  unfold St.len
  rw [← o.ep, ← o.ec]
  omega
end HR
set_option Elab.async false
set_option linter.all false
set_option maxRecDepth 20000
set_option exponentiation.threshold 5000
set_option Elab.async false
set_option linter.all false
set_option maxRecDepth 20000
set_option exponentiation.threshold 5000
set_option Elab.async false
set_option linter.all false
set_option maxRecDepth 20000
set_option exponentiation.threshold 5000
namespace HR
open PySem L2
/-! ### the seats of a rank speak and wait -/
/-- the seats at the places A of the heap: I who they are, σ their states -/
def SeatsAt (h : OH) (I : Nat → Tk) (σ : Nat → St) (A : List Nat) : Prop := ∀ a ∈ A, h[a]? = some (.ins "Seat" (seatF (I a) (σ a))) ∧ SeatOk (I a) (σ a)
/-- nothing but these places changed -/
structure ChA (A : List Nat) (h h' : OH) : Prop where
  len : h'.length = h.length
  keep : ∀ j, j ∉ A → h'[j]? = h[j]?
theorem ChA.refl (A : List Nat) (h : OH) : ChA A h h := ⟨rfl, fun _ _ => rfl⟩
theorem ChA.trans {A : List Nat} {h h1 h2 : OH} (a : ChA A h h1) (b : ChA A h1 h2) : ChA A h h2 := ⟨b.len.trans a.len, fun j hj => (b.keep j hj).trans (a.keep j hj)⟩
theorem ChA.set {A : List Nat} {h : OH} {a : Nat} (ha : a ∈ A) (o : OO) : ChA A h (h.set a o) := ⟨by simp, fun j hj => by
  rw [List.getElem?_set_ne]
  intro z
  exact hj (z ▸ ha)⟩
theorem SeatsAt.set {h : OH} {I : Nat → Tk} {σ : Nat → St} {A : List Nat} (S : SeatsAt h I σ A) {a : Nat} (ha : a ∈ A) {s : St} (o : SeatOk (I a) s) : SeatsAt (h.set a (.ins "Seat" (seatF (I a) s))) I (updS σ a s) A := by
  intro b hb
  obtain ⟨h1, h2⟩ := S b hb
  have la := (List.getElem?_eq_some_iff.mp (S a ha).1).1
  by_cases c : b = a
  · subst c
    rw [updS_same]
    exact ⟨by simp [la], o⟩
  · rw [updS_ne c, List.getElem?_set_ne (Ne.symm c)]
    exact ⟨h1, h2⟩
theorem SeatOk.say {t : Tk} {s : St} (o : SeatOk t s) (hb : s.b = true) {x : Nat} (hx : x < s.rest) : SeatOk t (s.say x) := ⟨o.w, o.ep, o.ec, say_ok o.k hb hx, o.tb⟩
theorem SeatOk.done {t : Tk} {s : St} (o : SeatOk t s) (hb : s.b = true) : SeatOk t s.done := ⟨o.w, o.ep, o.ec, done_ok o.k hb, o.tb⟩
end HR
set_option Elab.async false
set_option linter.all false
set_option maxRecDepth 20000
set_option exponentiation.threshold 5000
set_option Elab.async false
set_option linter.all false
set_option maxRecDepth 20000
set_option exponentiation.threshold 5000
namespace HR
open PySem L2
/-! ### the ticks that are left to a rank -/
section
variable {I : Nat → Tk} {σ : Nat → St} {A ss q : List Nat} {h : OH}
theorem SeatOk.pass {t : Tk} {s : St} (o : SeatOk t s) (hb : s.b = false) {m : Nat} (hm : s.tot + m < 2 ^ 300) : SeatOk t (s.pass m) := by
  refine ⟨o.w, ?_, ?_, pass_ok o.k hb m, ?_⟩
  · rw [← o.ep]; unfold St.pass; split <;> (try split) <;> rfl
  · rw [← o.ec]; unfold St.pass; split <;> (try split) <;> rfl
  · have : (s.pass m).tot = s.tot + m := by unfold St.pass; split <;> (try split) <;> rfl
    rw [this]; exact hm
end
end HR
set_option Elab.async false
set_option linter.all false
set_option maxRecDepth 20000
set_option exponentiation.threshold 5000
set_option Elab.async false
set_option linter.all false
set_option maxRecDepth 20000
set_option exponentiation.threshold 5000
set_option Elab.async false
set_option linter.all false
set_option maxRecDepth 20000
namespace HR
open PySem L2
/-! ### live halls by names (maths) -/
section
variable {ι κ : Type} [DecidableEq ι] [DecidableEq κ]
/-- the same rank, told by other places -/
structure NatR (f : ι → κ) (ss : List ι) (x : RSt ι) (y : RSt κ) : Prop where
  st : ∀ i ∈ ss, y.1 (f i) = x.1 i
  qu : y.2 = x.2.map f
  sub : ∀ i ∈ x.2, i ∈ ss
theorem casc_app (ss : Nat → List ι) : ∀ (a b : List Nat) (n : Nat) (x : Nat → RSt ι), casc ss (a ++ b) n x = casc ss b (casc ss a n x).2 (casc ss a n x).1
  | [], _, _, _ => rfl
  | r :: a, b, n, x => by
    simp only [List.cons_append, casc]
    exact casc_app ss a b _ _
theorem casc_snoc (ss : Nat → List ι) {a : List Nat} {r : Nat} (h : r ∉ a) (n : Nat) (x : Nat → RSt ι) : casc ss (a ++ [r]) n x = (updR (casc ss a n x).1 r (runR (ss r) (casc ss a n x).2 (x r)).1, (runR (ss r) (casc ss a n x).2 (x r)).2) := by
  rw [casc_app]
  simp only [casc, casc_out ss a n x r h]
/-- what of the ticks is left to the rank r -/
theorem casc_in (ss : Nat → List ι) : ∀ (rs : List Nat) (n : Nat) (x : Nat → RSt ι) (r : Nat), rs.Nodup → r ∈ rs → ∃ m, m ≤ n ∧ (casc ss rs n x).1 r = (runR (ss r) m (x r)).1
  | s :: rs, n, x, r, nd, hr => by
    rw [List.nodup_cons] at nd
    have rl : ∀ (n : Nat) (y : RSt ι), (runR (ss s) n y).2 ≤ n := by
      intro n
      induction n with
      | zero => intro y; exact Nat.le_refl _
      | succ n ih =>
        intro y
        simp only [runR]
        have := ih (tickR (ss s) y).1
        have : (tickR (ss s) y).2.toNat ≤ 1 := by cases (tickR (ss s) y).2 <;> decide
        omega
    by_cases c : r = s
    · subst c
      refine ⟨n, Nat.le_refl _, ?_⟩
      simp only [casc]
      rw [casc_out ss rs _ _ r nd.1, updR_same]
    · obtain ⟨m, hm, e⟩ := casc_in ss rs (runR (ss s) n (x s)).2 (updR x s (runR (ss s) n (x s)).1) r nd.2 ((List.mem_cons.mp hr).resolve_left c)
      refine ⟨m, Nat.le_trans hm (rl n _), ?_⟩
      simp only [casc]
      rw [e, updR_ne c]
end
end HR
set_option Elab.async false
set_option linter.all false
set_option maxRecDepth 20000
set_option exponentiation.threshold 5000
namespace HR
open PySem L2
/-! ### the law's own model of a hall: queues (maths) -/
section
variable {ts : List Tk} {S : RdS} {r : Nat → Rs}
/-- who waits to speak at rank q, in the order of the hall -/
def qI (ts : List Tk) (r : Nat → Rs) (q : Int) : List Nat := (List.range ts.length).filter fun j => (r j).b && decide (rkT ts j = q)
end
end HR
set_option Elab.async false
set_option linter.all false
set_option maxRecDepth 20000
set_option exponentiation.threshold 5000
set_option Elab.async false
set_option linter.all false
set_option maxRecDepth 20000
set_option exponentiation.threshold 5000
namespace HR
open PySem L2
/-! ### the law's own model of a hall: its objects -/
def seatD (t : Tk) (r : Rs) (tot : Int) : List (Key × D) := [(.inr "name", .str t.name), (.inr "rank", .int t.rank), (.inr "prefix", .lst (t.pre.map dT)), (.inr "cycle", .lst (t.cyc.map dT)), (.inr "index", .int r.i), (.inr "waited", .int r.wt), (.inr "begun", .int r.sp), (.inr "ready", .bl r.b), (.inr "total", .int tot)]
def queD (b : Nat) : List (Key × D) := (List.range 10).map fun (q : Nat) => (.inl (1 + (q : Int)), .ref (b + q))
def modD (b n : Nat) (tick sil : Int) : List (Key × D) := [(.inr "tick", .int tick), (.inr "silent", .int sil), (.inr "all", .lst ((List.range n).map fun k => .ref (b + 10 + 2 * k))), (.inr "queues", .dct (queD b))]
section
variable {t : Tk} {r : Rs} {tot : Int}
theorem g_name : getK (seatD t r tot) (.inr "name") = some (.str t.name) := by rfl
variable {b n : Nat} {tick sil : Int}
end
/-- the objects of the model stand from b on -/
structure MdIs (b : Nat) (ts : List Tk) (r : Nat → Rs) (tot : Nat → Int) (tick sil : Int) (h : OH) : Prop where
  seat : ∀ k, k < ts.length → h[b + 10 + 2 * k]? = some (.dct (seatD (ts.getD k gTk) (r k) (tot k)))
  que : ∀ q, q < 10 → h[b + q]? = some (.lst ((qI ts r (1 + (q : Int))).map fun k => D.str (ts.getD k gTk).name))
  mod : h[b + 10 + 2 * ts.length]? = some (.dct (modD b ts.length tick sil))
end HR
set_option Elab.async false
set_option linter.all false
set_option maxRecDepth 20000
namespace HR
open PySem L2
/-! ### a live hall by names: its state, and what ticks do (maths) -/
structure LV where
  hall : List Tk
  σ : Str → St
  Q : Nat → List Str
  tick : Nat
  sil : Nat
def RK : List Nat := List.range' 1 10
theorem RK_nd : RK.Nodup := by decide
theorem RK_mem {r : Nat} : r ∈ RK ↔ 1 ≤ r ∧ r ≤ 10 := by
  unfold RK
  rw [List.mem_range'_1]
  omega
def LV.at (v : LV) (r : Nat) : List Str := (v.hall.filter fun t => decide (t.rank = (r : Int))).map (·.name)
def LV.x (v : LV) : Nat → RSt Str := fun r => (v.σ, v.Q r)
def LV.rk (v : LV) (nm : Str) : Nat := match v.hall.find? (fun t => decide (t.name = nm)) with
  | some t => t.rank.toNat
  | none => 1
def LV.ca (v : LV) (n : Nat) : (Nat → RSt Str) × Nat := casc v.at RK n v.x
def LV.adv (v : LV) (n : Nat) : LV := { v with σ := fun nm => ((v.ca n).1 (v.rk nm)).1 nm, Q := fun r => ((v.ca n).1 r).2, tick := v.tick + n, sil := v.sil + (v.ca n).2 }
structure LvOk (v : LV) : Prop where
  w : WfHall T30 v.hall
  r : ∀ r, ROk (v.at r) (v.x r)
  s : ∀ t ∈ v.hall, (v.σ t.name).pre = t.pre ∧ (v.σ t.name).cyc = t.cyc ∧ (v.σ t.name).tot ≤ v.tick
theorem LV.mem_at {v : LV} {r : Nat} {nm : Str} : nm ∈ v.at r ↔ ∃ t ∈ v.hall, t.name = nm ∧ t.rank = (r : Int) := by
  unfold LV.at
  rw [List.mem_map]
  constructor
  · rintro ⟨t, ht, rfl⟩
    obtain ⟨a, b⟩ := List.mem_filter.mp ht
    exact ⟨t, a, rfl, of_decide_eq_true b⟩
  · rintro ⟨t, a, rfl, b⟩
    exact ⟨t, List.mem_filter.mpr ⟨a, decide_eq_true b⟩, rfl⟩
theorem nameInj {ts : List Tk} (nd : (ts.map (·.name)).Nodup) {t u : Tk} (ht : t ∈ ts) (hu : u ∈ ts) (e : t.name = u.name) : t = u := by
  obtain ⟨i, hi, ei⟩ := List.mem_iff_getElem.mp ht
  obtain ⟨j, hj, ej⟩ := List.mem_iff_getElem.mp hu
  have a : (ts.map (·.name))[i]? = some t.name := by simp [hi, ei]
  have b : (ts.map (·.name))[j]? = some t.name := by rw [e]; simp [hj, ej]
  have := (List.getElem?_inj (by simpa using hi) nd).mp (a.trans b.symm)
  subst this
  exact ei.symm.trans ej
section
variable {v : LV}
theorem LvOk.rk (k : LvOk v) {t : Tk} (ht : t ∈ v.hall) : v.rk t.name = t.rank.toNat := by
  unfold LV.rk
  cases e : v.hall.find? (fun u => decide (u.name = t.name)) with
  | none =>
    have := List.find?_eq_none.mp e t ht
    simp at this
  | some u =>
    have a := List.find?_some e
    have b := List.mem_of_find?_eq_some e
    have := nameInj k.w.nd b ht (of_decide_eq_true a)
    subst this
    rfl
theorem LvOk.rank (k : LvOk v) {t : Tk} (ht : t ∈ v.hall) : ((t.rank.toNat : Nat) : Int) = t.rank ∧ t.rank.toNat ∈ RK := by
  have w := k.w.tk t ht
  have a := w.r1
  have b := w.r2
  refine ⟨by omega, RK_mem.mpr ⟨by omega, by omega⟩⟩
theorem LvOk.inAt (k : LvOk v) {t : Tk} (ht : t ∈ v.hall) : t.name ∈ v.at t.rank.toNat := LV.mem_at.mpr ⟨t, ht, rfl, (k.rank ht).1.symm⟩
theorem LvOk.rkAt (k : LvOk v) {nm : Str} {r : Nat} (h : nm ∈ v.at r) : v.rk nm = r := by
  obtain ⟨t, ht, rfl, e⟩ := LV.mem_at.mp h
  rw [k.rk ht, e]
  rfl
theorem LvOk.sub (k : LvOk v) (r : Nat) : ∀ i ∈ v.Q r, i ∈ v.at r := fun i hi => ((k.r r).q i |>.mp hi).1
theorem ROk.nat {ι : Type} [DecidableEq ι] {ss : List ι} {x y : RSt ι} (k : ROk ss x) (h : NatR id ss x y) : ROk ss y := by
  have e : y.2 = x.2 := by rw [h.qu, List.map_id]
  refine ⟨k.nd, by rw [e]; exact k.nq, fun i hi => ?_, fun i => ?_⟩
  · rw [show y.1 i = x.1 i from h.st i hi]
    exact k.ok i hi
  · rw [e, k.q i]
    constructor
    · rintro ⟨a, b⟩
      exact ⟨a, by rw [show y.1 i = x.1 i from h.st i a]; exact b⟩
    · rintro ⟨a, b⟩
      exact ⟨a, by rw [← show y.1 i = x.1 i from h.st i a]; exact b⟩
theorem LvOk.advX (k : LvOk v) (n r : Nat) : NatR id (v.at r) ((v.ca n).1 r) ((v.adv n).x r) := by
  refine ⟨fun i hi => ?_, by rw [List.map_id]; rfl, fun i hi => ?_⟩
  · show ((v.ca n).1 (v.rk i)).1 i = ((v.ca n).1 r).1 i
    rw [k.rkAt hi]
  · exact ((casc_ok RK n k.r r).q i |>.mp hi).1
/-- what stays of a seat -/
structure StK (n : Nat) (s s' : St) : Prop where
  p : s'.pre = s.pre
  c : s'.cyc = s.cyc
  t : s'.tot ≤ s.tot + n
theorem tickR_k {ι : Type} [DecidableEq ι] (ss : List ι) (x : RSt ι) (i : ι) : StK 1 (x.1 i) ((tickR ss x).1.1 i) := by
  obtain ⟨σ, q⟩ := x
  cases q with
  | nil =>
    simp only [tickR]
    split
    · exact ⟨rfl, rfl, Nat.le_refl _⟩
    · exact ⟨rfl, rfl, Nat.le_succ _⟩
  | cons j q =>
    simp only [tickR]
    split
    · by_cases c : i = j
      · subst c; dsimp only; rw [updS_same]; exact ⟨rfl, rfl, Nat.le_succ _⟩
      · dsimp only; rw [updS_ne c]; exact ⟨rfl, rfl, Nat.le_succ _⟩
    · by_cases c : i = j
      · subst c; dsimp only; rw [updS_same]; exact ⟨rfl, rfl, Nat.le_succ _⟩
      · dsimp only; rw [updS_ne c]; exact ⟨rfl, rfl, Nat.le_succ _⟩
theorem runR_k {ι : Type} [DecidableEq ι] (ss : List ι) : ∀ (n : Nat) (x : RSt ι) (i : ι), StK n (x.1 i) ((runR ss n x).1.1 i)
  | 0, _, _ => ⟨rfl, rfl, Nat.le_refl _⟩
  | n + 1, x, i => by
    have a := tickR_k ss x i
    have b := runR_k ss n (tickR ss x).1 i
    simp only [runR]
    have h1 := a.t
    have h2 := b.t
    exact ⟨b.p.trans a.p, b.c.trans a.c, by omega⟩
theorem LvOk.advSt (k : LvOk v) (n : Nat) {t : Tk} (ht : t ∈ v.hall) : (v.adv n).σ t.name = ((v.ca n).1 t.rank.toNat).1 t.name := by
  show ((v.ca n).1 (v.rk t.name)).1 t.name = _
  rw [k.rk ht]
theorem LvOk.adv (k : LvOk v) (n : Nat) : LvOk (v.adv n) := by
  refine ⟨k.w, fun r => (casc_ok RK n k.r r).nat (k.advX n r), fun t ht => ?_⟩
  obtain ⟨a, b, c⟩ := k.s t ht
  obtain ⟨m, hm, e⟩ := casc_in v.at RK n v.x t.rank.toNat RK_nd (k.rank ht).2
  have z := runR_k (v.at t.rank.toNat) m (v.x t.rank.toNat) t.name
  rw [← e] at z
  have z' : StK m (v.σ t.name) ((v.adv n).σ t.name) := by rw [k.advSt n ht]; exact z
  refine ⟨z'.p.trans a, z'.c.trans b, ?_⟩
  have := z'.t
  show _ ≤ v.tick + n
  omega
/-- the rank whose head speaks -/
def LV.fr (v : LV) : Option Nat := RK.find? fun r => !(v.Q r).isEmpty
def LV.loud (v : LV) : Option Str := v.fr.bind fun r => (v.Q r).head?
theorem LV.fr_some {f : Nat} (e : v.fr = some f) : f ∈ RK ∧ v.Q f ≠ [] ∧ ∀ r ∈ RK, r < f → v.Q r = [] := by
  unfold LV.fr at e
  have a := List.mem_of_find?_eq_some e
  have b := List.find?_some e
  refine ⟨a, fun z => (by rw [z] at b; exact absurd b (by decide)), fun r hr lt => ?_⟩
  have h : ∀ rs : List Nat, rs.Pairwise (· < ·) → rs.find? (fun r => !(v.Q r).isEmpty) = some f → r ∈ rs → v.Q r = [] := by
    intro rs
    induction rs with
    | nil => intro _ z; cases z
    | cons s rs ih =>
      intro p z hr
      rw [List.pairwise_cons] at p
      rw [List.find?_cons] at z
      cases c : !(v.Q s).isEmpty with
      | true =>
        rw [c] at z
        cases z
        rcases List.mem_cons.mp hr with rfl | hr
        · omega
        · have := p.1 r hr
          omega
      | false =>
        rw [c] at z
        rcases List.mem_cons.mp hr with rfl | hr
        · cases d : v.Q r with
          | nil => rfl
          | cons x y => rw [d] at c; cases c
        · exact ih p.2 z hr
  exact h RK (by decide) e hr
theorem LV.fr_none (e : v.fr = none) : ∀ r ∈ RK, v.Q r = [] := fun r hr => by
  have := List.find?_eq_none.mp e r hr
  cases d : v.Q r with
  | nil => rfl
  | cons x y => rw [d] at this; exact absurd rfl this
end
end HR
set_option Elab.async false
set_option linter.all false
set_option maxRecDepth 20000
namespace HR
open PySem L2
section
variable {v : LV}
theorem LV.loud_some {nm : Str} (e : v.loud = some nm) : ∃ f q, v.fr = some f ∧ v.Q f = nm :: q := by
  unfold LV.loud at e
  cases h : v.fr with
  | none => rw [h] at e; cases e
  | some f =>
    rw [h] at e
    simp only [Option.bind_some] at e
    cases d : v.Q f with
    | nil => rw [d] at e; cases e
    | cons x q =>
      rw [d] at e
      simp only [List.head?_cons, Option.some.injEq] at e
      subst e
      exact ⟨f, q, rfl, d⟩
theorem LV.loud_none : v.loud = none ↔ v.fr = none := by
  constructor
  · intro e
    cases h : v.fr with
    | none => rfl
    | some f =>
      have := (LV.fr_some h).2.1
      unfold LV.loud at e
      rw [h] at e
      simp only [Option.bind_some] at e
      cases d : v.Q f with
      | nil => exact absurd d this
      | cons x q => rw [d] at e; cases e
  · intro e
    unfold LV.loud
    rw [e]
    rfl
/-- the one who speaks -/
theorem LvOk.louds (k : LvOk v) {nm : Str} (e : v.loud = some nm) : ∃ t ∈ v.hall, t.name = nm ∧ v.fr = some t.rank.toNat ∧ (v.σ nm).b = true ∧ ∃ q, v.Q t.rank.toNat = nm :: q := by
  obtain ⟨f, q, h1, h2⟩ := LV.loud_some e
  have m : nm ∈ v.Q f := by rw [h2]; exact List.mem_cons_self
  obtain ⟨a, b⟩ := (k.r f).q nm |>.mp m
  obtain ⟨t, ht, rfl, er⟩ := LV.mem_at.mp a
  have ef : t.rank.toNat = f := by rw [er]; rfl
  exact ⟨t, ht, rfl, by rw [ef]; exact h1, b, q, by rw [ef]; exact h2⟩
theorem LvOk.seat (k : LvOk v) (hb : v.tick < 2 ^ 300) {t : Tk} (ht : t ∈ v.hall) : SeatOk t (v.σ t.name) := by
  obtain ⟨a, b, c⟩ := k.s t ht
  have kk := (k.r t.rank.toNat).ok t.name (k.inAt ht)
  exact ⟨k.w.tk t ht, a, b, kk, by omega⟩
/-- at tick 0 -/
def LV.new (ts : List Tk) : LV := ⟨ts, fun nm => match ts.find? (fun t => decide (t.name = nm)) with
  | some t => ⟨t.pre, t.cyc, 0, false, 0, 0⟩
  | none => ⟨[], [], 0, false, 0, 0⟩, fun _ => [], 0, 0⟩
theorem find_name {ts : List Tk} (nd : (ts.map (·.name)).Nodup) {t : Tk} (ht : t ∈ ts) : ts.find? (fun u => decide (u.name = t.name)) = some t := by
  cases e : ts.find? (fun u => decide (u.name = t.name)) with
  | none =>
    have := List.find?_eq_none.mp e t ht
    simp at this
  | some u =>
    have a := List.find?_some e
    have b := List.mem_of_find?_eq_some e
    rw [nameInj nd b ht (of_decide_eq_true a)]
theorem LV.new_st {ts : List Tk} (w : WfHall T30 ts) {t : Tk} (ht : t ∈ ts) : (LV.new ts).σ t.name = ⟨t.pre, t.cyc, 0, false, 0, 0⟩ := by
  simp only [LV.new, find_name w.nd ht]
theorem LV.new_ok {ts : List Tk} (w : WfHall T30 ts) : LvOk (LV.new ts) := by
  refine ⟨w, fun r => ⟨?_, List.nodup_nil, fun i hi => ?_, fun i => ⟨fun h => absurd h List.not_mem_nil, ?_⟩⟩, fun t ht => ?_⟩
  · unfold LV.at
    exact (w.nd.sublist (List.filter_sublist.map _))
  · obtain ⟨t, ht, rfl, _⟩ := LV.mem_at.mp hi
    show StOk ((LV.new ts).σ t.name)
    rw [LV.new_st w ht]
    have wt := w.tk t ht
    refine ⟨wt.pos1, wt.pos2, fun _ => ⟨by simp [acc], ?_, rfl⟩, fun h => nomatch h⟩
    have := nth_pos wt.pos1 0
    simp only [acc]
    omega
  · rintro ⟨h1, h2⟩
    obtain ⟨t, ht, rfl, _⟩ := LV.mem_at.mp h1
    have h2 : ((LV.new ts).σ t.name).b = true := h2
    rw [LV.new_st w ht] at h2
    cases h2
  · rw [LV.new_st w ht]
    exact ⟨rfl, rfl, Nat.le_refl _⟩
end
end HR
set_option Elab.async false
set_option linter.all false
set_option maxRecDepth 20000
set_option exponentiation.threshold 5000
namespace HR
open PySem L2
/-! ### the reading of a record by the program -/
def obFs (j : Nat) (m : Str × Int) (l : Nat) (o : Ob) : List (String × D) := [("position", .int j), ("name", .str m.1), ("rank", .int m.2), ("found_talks", .ref l), ("quiet_ticks", .int o.q), ("is_open", .bl o.cur.isSome)]
section
variable {j : Nat} {m : Str × Int} {l : Nat} {o : Ob}
@[simp] theorem ofs_pos : (obFs j m l o).lookup "position" = some (.int j) := rfl
@[simp] theorem ofs_name : (obFs j m l o).lookup "name" = some (.str m.1) := rfl
@[simp] theorem ofs_rank : (obFs j m l o).lookup "rank" = some (.int m.2) := rfl
@[simp] theorem ofs_talks : (obFs j m l o).lookup "found_talks" = some (.ref l) := rfl
@[simp] theorem ofs_q : (obFs j m l o).lookup "quiet_ticks" = some (.int o.q) := rfl
@[simp] theorem ofs_open : (obFs j m l o).lookup "is_open" = some (.bl o.cur.isSome) := rfl
@[simp] theorem ofs_len : (obFs j m l o).length = 6 := rfl
@[simp] theorem ofs_n1 : hasNo (obFs j m l o) "speak_on" = True := eq_true rfl
@[simp] theorem ofs_n2 : hasNo (obFs j m l o) "pass_tick" = True := eq_true rfl
end
theorem ixN_last {n : Nat} : ixN (n + 1) (-1) = some n := by
  unfold ixN
  rw [if_neg (by decide), if_pos (by omega)]
  congr 1
  omega
theorem atI_last {α : Type} (xs : List α) (x : α) : atI (xs ++ [x]) (-1) = some x := by
  have e : (xs ++ [x]).length = xs.length + 1 := by simp
  unfold atI
  rw [e, ixN_last]
  simp
end HR
set_option Elab.async false
set_option linter.all false
set_option maxRecDepth 20000
set_option exponentiation.threshold 5000
namespace HR
open PySem L2
def rdRefs (b n : Nat) : List D := (List.range n).map fun j => D.ref (b + 1 + 2 * j)
def rdFs (b n : Nat) (flt : D) : List (String × D) := [("observed", .lst (rdRefs b n)), ("last_position", .ref (b + 1 + 2 * n)), ("fault", flt)]
section
variable {ms : List (Str × Int)} {b : Nat} {S : RdS} {flt : D} {h : OH}
@[simp] theorem rfs_obs (b n : Nat) (flt : D) : (rdFs b n flt).lookup "observed" = some (.lst (rdRefs b n)) := rfl
@[simp] theorem rfs_lp (b n : Nat) (flt : D) : (rdFs b n flt).lookup "last_position" = some (.ref (b + 1 + 2 * n)) := rfl
@[simp] theorem rfs_flt (b n : Nat) (flt : D) : (rdFs b n flt).lookup "fault" = some flt := rfl
@[simp] theorem rfs_len (b n : Nat) (flt : D) : (rdFs b n flt).length = 3 := rfl
@[simp] theorem rfs_n1 (b n : Nat) (flt : D) : hasNo (rdFs b n flt) "kind_of_fault" = True := eq_true rfl
@[simp] theorem rfs_n2 (b n : Nat) (flt : D) : hasNo (rdFs b n flt) "read_tick" = True := eq_true rfl
def gMb : Str × Int := (gTk.name, gTk.rank)
structure WfM (ms : List (Str × Int)) : Prop where
  len : ms.length ≤ 10
  rk : ∀ m ∈ ms, 1 ≤ m.2 ∧ m.2 ≤ 10
  nm : ∀ m ∈ ms, WfN m.1
  nd : (ms.map (·.1)).Nodup
end
end HR
set_option Elab.async false
set_option linter.all false
set_option maxRecDepth 20000
set_option exponentiation.threshold 5000
set_option Elab.async false
set_option linter.all false
set_option maxRecDepth 20000
set_option exponentiation.threshold 5000
namespace HR
open PySem L2
def dMb (m : Str × Int) : D := .tup [.str m.1, .int m.2]
@[simp] theorem pure_dMb (m : Str × Int) : (dMb m).pure = true := by simp [dMb]
@[simp] theorem pureL_dMb (ms : List (Str × Int)) : D.pureL (ms.map dMb) = true := pureL_map _ pure_dMb ms
@[simp] theorem pureL_dN (xs : List (Option Str)) : D.pureL (xs.map dN) = true := pureL_map _ (fun x => by cases x <;> rfl) xs
def nmM (ms : List (Str × Int)) (x : Option Nat) : Option Str := x.map fun k => (ms.getD k gMb).1
end HR
set_option Elab.async false
set_option linter.all false
set_option maxRecDepth 20000
set_option exponentiation.threshold 5000
set_option Elab.async false
set_option linter.all false
set_option maxRecDepth 20000
set_option exponentiation.threshold 5000
namespace HR
open PySem L2
section
variable {ms : List (Str × Int)}
/-- the first members and a record -/
structure Rc (ms : List (Str × Int)) (xs : List (Option Nat)) : Prop where
  w : WfM ms
  hx : ∀ x ∈ xs, ∀ k, x = some k → k < ms.length
  hl : xs.length ≤ 400
def recD (ms : List (Str × Int)) (xs : List (Option Nat)) : D := .lst ((xs.map (nmM ms)).map dN)
@[simp] theorem pure_recD (ms : List (Str × Int)) (xs : List (Option Nat)) : (recD ms xs).pure = true := by simp [recD, -List.map_map]
variable {xs : List (Option Nat)}
end
end HR
set_option Elab.async false
set_option linter.all false
set_option maxRecDepth 20000
set_option exponentiation.threshold 5000
set_option Elab.async false
set_option linter.all false
set_option maxRecDepth 20000
set_option exponentiation.threshold 5000
set_option Elab.async false
set_option linter.all false
set_option maxRecDepth 20000
set_option exponentiation.threshold 5000
set_option Elab.async false
set_option linter.all false
set_option maxRecDepth 20000
set_option exponentiation.threshold 5000
set_option Elab.async false
set_option linter.all false
set_option maxRecDepth 20000
set_option exponentiation.threshold 5000
set_option Elab.async false
set_option linter.all false
set_option maxRecDepth 20000
set_option exponentiation.threshold 5000
set_option Elab.async false
set_option linter.all false
set_option maxRecDepth 20000
set_option exponentiation.threshold 5000
set_option Elab.async false
set_option linter.all false
set_option maxRecDepth 20000
set_option exponentiation.threshold 5000
set_option Elab.async false
set_option linter.all false
set_option maxRecDepth 20000
set_option exponentiation.threshold 5000
namespace HR
open PySem L2
/-! ### law k73: the helpers of the law -/
section
variable {ms : List (Str × Int)} {xs : List (Option Nat)} {ts : List Tk} {t : Tk}
theorem Rc.sub (r : Rc ms xs) {ys : List (Option Nat)} (h1 : ∀ y ∈ ys, y ∈ xs) (h2 : ys.length ≤ xs.length) : Rc ms ys := ⟨r.w, fun y hy => r.hx y (h1 y hy), Nat.le_trans h2 r.hl⟩
theorem Rc.take (r : Rc ms xs) (n : Nat) : Rc ms (xs.take n) := r.sub (fun y hy => List.mem_of_mem_take hy) (by simp; omega)
end
end HR
set_option Elab.async false
set_option linter.all false
set_option maxRecDepth 20000
set_option exponentiation.threshold 5000
set_option Elab.async false
set_option linter.all false
set_option maxRecDepth 20000
set_option exponentiation.threshold 5000
set_option Elab.async false
set_option linter.all false
set_option maxRecDepth 20000
set_option exponentiation.threshold 5000
namespace HR
open PySem L2
/-! ### the law's own model of a hall: one tick -/
section
variable {ts : List Tk} {S : RdS} {r : Nat → Rs} {tot : Nat → Int} {tick sil : Int} {b : Nat} {h : OH}
/-- only the model's own objects are changed -/
def Frm (b n : Nat) (h h' : OH) : Prop := h.length ≤ h'.length ∧ ∀ j, j < h.length → (j < b ∨ b + 10 + 2 * n < j) → h'[j]? = h[j]?
theorem Frm.refl (b n : Nat) (h : OH) : Frm b n h h := ⟨Nat.le_refl _, fun _ _ _ => rfl⟩
theorem Frm.trans {b n : Nat} {h1 h2 h3 : OH} (x : Frm b n h1 h2) (y : Frm b n h2 h3) : Frm b n h1 h3 := ⟨Nat.le_trans x.1 y.1, fun j hj hn => (y.2 j (Nat.lt_of_lt_of_le hj x.1) hn).trans (x.2 j hj hn)⟩
theorem Frm.set {b n i : Nat} (h : OH) (h1 : b ≤ i) (h2 : i ≤ b + 10 + 2 * n) (o : OO) : Frm b n h (h.set i o) := ⟨by simp, fun j _ hn => by rw [List.getElem?_set_ne (by omega)]⟩
theorem Frm.app (b n : Nat) (h t : OH) : Frm b n h (h ++ t) := ⟨by simp, fun j hj _ => List.getElem?_append_left hj⟩
theorem Frm.get {b n : Nat} {h h' : OH} (f : Frm b n h h') {j : Nat} {o : OO} (e : h[j]? = some o) (hn : j < b ∨ b + 10 + 2 * n < j) : h'[j]? = some o := (f.2 j (List.getElem?_eq_some_iff.mp e).1 hn).trans e
end
end HR
set_option Elab.async false
set_option linter.all false
set_option maxRecDepth 100000
set_option exponentiation.threshold 5000
namespace HR
open PySem L2
/-! ### the law's own model of a hall: made, heard -/
section
variable {ts : List Tk} {h : OH}
/-- what was there stays -/
def Kept (h h' : OH) : Prop := h.length ≤ h'.length ∧ ∀ j, j < h.length → h'[j]? = h[j]?
theorem Kept.refl (h : OH) : Kept h h := ⟨Nat.le_refl _, fun _ _ => rfl⟩
theorem Kept.trans {a b c : OH} (x : Kept a b) (y : Kept b c) : Kept a c := ⟨Nat.le_trans x.1 y.1, fun j hj => (y.2 j (Nat.lt_of_lt_of_le hj x.1)).trans (x.2 j hj)⟩
theorem Kept.app (h t : OH) : Kept h (h ++ t) := ⟨by simp, fun j hj => List.getElem?_append_left hj⟩
theorem Kept.setNew {a b : OH} (x : Kept a b) {j : Nat} (hj : a.length ≤ j) (o : OO) : Kept a (b.set j o) := ⟨by simpa using x.1, fun k hk => by rw [List.getElem?_set_ne (by omega)]; exact x.2 k hk⟩
theorem Kept.get {a b : OH} (x : Kept a b) {j : Nat} {o : OO} (e : a[j]? = some o) : b[j]? = some o := (x.2 j (List.getElem?_eq_some_iff.mp e).1).trans e
theorem MdIs.app {b : Nat} {r : Nat → Rs} {tot : Nat → Int} {tick sil : Int} (M : MdIs b ts r tot tick sil h) (t : OH) : MdIs b ts r tot tick sil (h ++ t) :=
  ⟨fun k hk => (Kept.app _ _).get (M.seat k hk), fun q hq => (Kept.app _ _).get (M.que q hq), (Kept.app _ _).get M.mod⟩
end
end HR
set_option Elab.async false
set_option linter.all false
set_option maxRecDepth 20000
set_option exponentiation.threshold 5000
namespace HR
open PySem L2
/-! ### the law's own model of a live hall, on the heap -/
def queK (qa : Nat → Nat) : List (Key × D) := (List.range 10).map fun (k : Nat) => (.inl (1 + (k : Int)), .ref (qa (k + 1)))
def rsS (s : St) : Rs := ⟨s.i, s.b, s.sp, (s.tot : Int) - acc (·.1) s.pre s.cyc s.i⟩
def totS (s : St) : Int := acc (·.2) s.pre s.cyc s.i + s.sp
def mdF (tick sil : Int) (s q : Nat) : List (Key × D) := [(.inr "tick", .int tick), (.inr "silent", .int sil), (.inr "all", .ref s), (.inr "queues", .ref q)]
/-- the model m shows the state v -/
structure Md (h : OH) (F : Nat → Prop) (m s q : Nat) (qa : Nat → Nat) (A : Str → Nat) (v : LV) : Prop where
  hm : h[m]? = some (.dct (mdF v.tick v.sil s q))
  hs : h[s]? = some (.lst (v.hall.map fun t => .ref (A t.name)))
  hq : h[q]? = some (.dct (queK qa))
  hQ : ∀ r ∈ RK, h[qa r]? = some (.lst ((v.Q r).map D.str))
  hA : ∀ t ∈ v.hall, h[A t.name]? = some (.dct (seatD t (rsS (v.σ t.name)) (totS (v.σ t.name))))
  ns : ∀ r ∈ RK, qa r ≠ s
  nq : ∀ r ∈ RK, ∀ p ∈ RK, qa r = qa p → r = p
  fm : F m
  fs : F s
  fq : F q
  fQ : ∀ r ∈ RK, F (qa r)
  fA : ∀ t ∈ v.hall, F (A t.name)
  fl : ∀ j, F j → j < h.length
section
variable {h h' : OH} {F : Nat → Prop} {m s q : Nat} {qa : Nat → Nat} {A : Str → Nat} {v : LV}
theorem Md.keep (M : Md h F m s q qa A v) (len : h.length ≤ h'.length) (k : ∀ j, F j → h'[j]? = h[j]?) : Md h' F m s q qa A v :=
  ⟨(k _ M.fm).trans M.hm, (k _ M.fs).trans M.hs, (k _ M.fq).trans M.hq, fun r hr => (k _ (M.fQ r hr)).trans (M.hQ r hr), fun t ht => (k _ (M.fA t ht)).trans (M.hA t ht), M.ns, M.nq, M.fm, M.fs, M.fq, M.fQ, M.fA, fun j hj => Nat.lt_of_lt_of_le (M.fl j hj) len⟩
theorem seatD_name {t u : Tk} {a b : Rs} {x y : Int} (e : seatD t a x = seatD u b y) : t.name = u.name := by
  have := congrArg (fun l => getK l (.inr "name")) e
  simp only [g_name, Option.some.injEq, D.str.injEq] at this
  exact this
theorem Md.inj (M : Md h F m s q qa A v) {t u : Tk} (ht : t ∈ v.hall) (hu : u ∈ v.hall) (e : A t.name = A u.name) : t.name = u.name := by
  have h1 := M.hA t ht
  have h2 := M.hA u hu
  rw [e] at h1
  rw [h1] at h2
  simp only [Option.some.injEq, OO.dct.injEq] at h2
  exact seatD_name h2
end
end HR
set_option Elab.async false
set_option linter.all false
set_option maxRecDepth 20000
set_option exponentiation.threshold 5000
namespace HR
open PySem L2
/-! ### a live hall on the heap -/
/-- seats and queues of the state v; F: the places that are its own -/
structure Body (h : OH) (F : Nat → Prop) (s q : Nat) (qa : Nat → Nat) (A : Str → Nat) (v : LV) : Prop where
  hs : h[s]? = some (.lst (v.hall.map fun t => .ref (A t.name)))
  hq : h[q]? = some (.dct (queK qa))
  hQ : ∀ r ∈ RK, h[qa r]? = some (.lst ((v.Q r).map D.str))
  hA : ∀ t ∈ v.hall, h[A t.name]? = some (.ins "Seat" (seatF t (v.σ t.name)))
  ns : ∀ r ∈ RK, qa r ≠ s
  nq : ∀ r ∈ RK, ∀ p ∈ RK, qa r = qa p → r = p
  fs : F s
  fq : F q
  fQ : ∀ r ∈ RK, F (qa r)
  fA : ∀ t ∈ v.hall, F (A t.name)
theorem Body.keep {h h' : OH} {F : Nat → Prop} {s q : Nat} {qa : Nat → Nat} {A : Str → Nat} {v : LV} (b : Body h F s q qa A v) (k : ∀ j, F j → h'[j]? = h[j]?) : Body h' F s q qa A v :=
  ⟨(k _ b.fs).trans b.hs, (k _ b.fq).trans b.hq, fun r hr => (k _ (b.fQ r hr)).trans (b.hQ r hr), fun t ht => (k _ (b.fA t ht)).trans (b.hA t ht), b.ns, b.nq, b.fs, b.fq, b.fQ, b.fA⟩
theorem seatF_name {t u : Tk} {a b : St} (e : seatF t a = seatF u b) : t.name = u.name := by
  have := congrArg (fun l => l.lookup "name") e
  simp only [seat_name, Option.some.injEq, D.str.injEq] at this
  exact this
theorem Body.inj {h : OH} {F : Nat → Prop} {s q : Nat} {qa : Nat → Nat} {A : Str → Nat} {v : LV} (b : Body h F s q qa A v) {t u : Tk} (ht : t ∈ v.hall) (hu : u ∈ v.hall) (e : A t.name = A u.name) : t.name = u.name := by
  have h1 := b.hA t ht
  have h2 := b.hA u hu
  rw [e] at h1
  rw [h1] at h2
  simp only [Option.some.injEq, OO.ins.injEq] at h2
  exact seatF_name h2.2
def liveF (tick sil : Nat) (s q ps po : Nat) : List (String × D) := [("tick_now", .int tick), ("silent_total", .int sil), ("seats", .ref s), ("queues", .ref q), ("past_states", .ref ps), ("past_operations", .ref po)]
def snapD (v : LV) (s q : Nat) : D := .tup [.int v.tick, .int v.sil, .ref s, .ref q]
def gLV : LV := LV.new []
/-- C: the places of the present state, G: the places of each stored one -/
structure LiveAt (h : OH) (C : Nat → Prop) (G : Nat → Nat → Prop) (L s q ps po : Nat) (qa : Nat → Nat) (A : Str → Nat) (v : LV) (hist pss : List D) (past : List LV) : Prop where
  hL : h[L]? = some (.ins "LiveHall" (liveF v.tick v.sil s q ps po))
  body : Body h C s q qa A v
  hps : h[ps]? = some (.lst pss)
  hpo : h[po]? = some (.lst hist)
  np : ps ≠ po
  cL : ¬ C L
  cps : ¬ C ps
  cpo : ¬ C po
  cl : ∀ j, C j → j < h.length
  len : pss.length = past.length
  lenh : hist.length = past.length
  st : ∀ i, i < past.length → ∃ s q qa A, pss[i]? = some (snapD (past.getD i gLV) s q) ∧ Body h (G i) s q qa A (past.getD i gLV)
  gg : ∀ i j x, i < past.length → j < past.length → G i x → G j x → i = j
  gc : ∀ i x, i < past.length → G i x → ¬ C x ∧ x ≠ L ∧ x ≠ ps ∧ x ≠ po ∧ x < h.length
def Live (h : OH) (F : Nat → Prop) (L : Nat) (v : LV) (hist : List D) (past : List LV) : Prop :=
  ∃ C G s q ps po qa A pss, LiveAt h C G L s q ps po qa A v hist pss past ∧ F L ∧ F ps ∧ F po ∧ (∀ j, C j → F j) ∧ (∀ i j, i < past.length → G i j → F j) ∧ ∀ j, F j → j < h.length
theorem LiveAt.keep {h h' : OH} {C : Nat → Prop} {G : Nat → Nat → Prop} {L s q ps po : Nat} {qa : Nat → Nat} {A : Str → Nat} {v : LV} {hist pss : List D} {past : List LV} (l : LiveAt h C G L s q ps po qa A v hist pss past)
    (len : h.length ≤ h'.length) (keep : ∀ j, (C j ∨ j = L ∨ j = ps ∨ j = po ∨ ∃ i, i < past.length ∧ G i j) → h'[j]? = h[j]?) : LiveAt h' C G L s q ps po qa A v hist pss past := by
  refine ⟨(keep _ (by simp)).trans l.hL, l.body.keep fun j hj => keep j (.inl hj), (keep _ (by simp)).trans l.hps, (keep _ (by simp)).trans l.hpo, l.np, l.cL, l.cps, l.cpo, fun j hj => Nat.lt_of_lt_of_le (l.cl j hj) len, l.len, l.lenh, fun i hi => ?_, l.gg, fun i x hi hx => ?_⟩
  · obtain ⟨s1, q1, qa1, A1, e, b1⟩ := l.st i hi
    exact ⟨s1, q1, qa1, A1, e, b1.keep fun j hj => keep j (.inr (.inr (.inr (.inr ⟨i, hi, hj⟩))))⟩
  · obtain ⟨g1, g2, g3, g4, g5⟩ := l.gc i x hi hx
    exact ⟨g1, g2, g3, g4, Nat.lt_of_lt_of_le g5 len⟩
theorem Live.keep {h h' : OH} {F : Nat → Prop} {L : Nat} {v : LV} {hist : List D} {past : List LV} (l : Live h F L v hist past) (len : h.length ≤ h'.length) (keep : ∀ j, F j → h'[j]? = h[j]?) : Live h' F L v hist past := by
  obtain ⟨C, G, s, q, ps, po, qa, A, pss, l, f1, f2, f3, f4, f5, f6⟩ := l
  refine ⟨C, G, s, q, ps, po, qa, A, pss, l.keep len fun j hj => keep j ?_, f1, f2, f3, f4, f5, fun j hj => Nat.lt_of_lt_of_le (f6 j hj) len⟩
  rcases hj with z | rfl | rfl | rfl | ⟨i, hi, z⟩
  · exact f4 j z
  · exact f1
  · exact f2
  · exact f3
  · exact f5 i j hi z
/-- what is no place of F stays; F' grows by new places -/
structure ChF (F F' : Nat → Prop) (h h' : OH) : Prop where
  len : h.length ≤ h'.length
  keep : ∀ j, j < h.length → ¬ F j → h'[j]? = h[j]?
  new : ∀ j, F' j → F j ∨ h.length ≤ j
theorem ChF.trans {F F1 F2 : Nat → Prop} {a b c : OH} (x : ChF F F1 a b) (y : ChF F1 F2 b c) : ChF F F2 a c :=
  ⟨Nat.le_trans x.len y.len, fun j hj nj => (y.keep j (Nat.lt_of_lt_of_le hj x.len) fun z => (x.new j z).elim nj fun z => by omega).trans (x.keep j hj nj), fun j z => by
    rcases y.new j z with z | z
    · exact x.new j z
    · exact .inr (Nat.le_trans x.len z)⟩
theorem ChF.refl (F : Nat → Prop) (h : OH) : ChF F F h h := ⟨Nat.le_refl _, fun _ _ _ => rfl, fun _ z => .inl z⟩
theorem ChF.kept {F F' : Nat → Prop} {h h' : OH} (k : Kept h h') (n : ∀ j, F' j → F j ∨ h.length ≤ j) : ChF F F' h h' := ⟨k.1, fun j hj _ => k.2 j hj, n⟩
end HR
set_option Elab.async false
set_option linter.all false
set_option maxRecDepth 20000
set_option exponentiation.threshold 5000
namespace HR
open PySem L2
section
variable (tick sil s q ps po : Nat)
@[simp] theorem lv_tick : (liveF tick sil s q ps po).lookup "tick_now" = some (.int tick) := rfl
@[simp] theorem lv_sil : (liveF tick sil s q ps po).lookup "silent_total" = some (.int sil) := rfl
@[simp] theorem lv_seats : (liveF tick sil s q ps po).lookup "seats" = some (.ref s) := rfl
@[simp] theorem lv_queues : (liveF tick sil s q ps po).lookup "queues" = some (.ref q) := rfl
@[simp] theorem lv_ps : (liveF tick sil s q ps po).lookup "past_states" = some (.ref ps) := rfl
@[simp] theorem lv_po : (liveF tick sil s q ps po).lookup "past_operations" = some (.ref po) := rfl
@[simp] theorem lv_len : (liveF tick sil s q ps po).length = 6 := rfl
@[simp] theorem lv_n1 : hasNo (liveF tick sil s q ps po) "store" := rfl
@[simp] theorem lv_n2 : hasNo (liveF tick sil s q ps po) "seat_of" := rfl
@[simp] theorem lv_n3 : hasNo (liveF tick sil s q ps po) "advance" := rfl
@[simp] theorem lv_n4 : hasNo (liveF tick sil s q ps po) "current_tick" := rfl
@[simp] theorem lv_n5 : hasNo (liveF tick sil s q ps po) "current_speaker" := rfl
@[simp] theorem lv_n6 : hasNo (liveF tick sil s q ps po) "current_talkers" := rfl
@[simp] theorem lv_n7 : hasNo (liveF tick sil s q ps po) "current_state" := rfl
@[simp] theorem lv_n8 : hasNo (liveF tick sil s q ps po) "silent_ticks" := rfl
@[simp] theorem lv_n9 : hasNo (liveF tick sil s q ps po) "history" := rfl
@[simp] theorem lv_n10 : hasNo (liveF tick sil s q ps po) "spoken_by" := rfl
@[simp] theorem lv_n11 : hasNo (liveF tick sil s q ps po) "add_talker" := rfl
@[simp] theorem lv_n12 : hasNo (liveF tick sil s q ps po) "remove_talker" := rfl
@[simp] theorem lv_n13 : hasNo (liveF tick sil s q ps po) "set_rank" := rfl
@[simp] theorem lv_n14 : hasNo (liveF tick sil s q ps po) "leave_queue" := rfl
@[simp] theorem lv_n15 : hasNo (liveF tick sil s q ps po) "undo" := rfl
@[simp] theorem lv_n16 : hasNo (liveF tick sil s q ps po) "duplicate" := rfl
@[simp] theorem lv_n17 : hasNo (liveF tick sil s q ps po) "everything" := rfl
@[simp] theorem lv_putt (x : Nat) : putS "tick_now" (.int x) (liveF tick sil s q ps po) = liveF x sil s q ps po := rfl
@[simp] theorem lv_puts (x : Nat) : putS "silent_total" (.int x) (liveF tick sil s q ps po) = liveF tick x s q ps po := rfl
@[simp] theorem lv_putse (x : Nat) : putS "seats" (.ref x) (liveF tick sil s q ps po) = liveF tick sil x q ps po := rfl
@[simp] theorem lv_putq (x : Nat) : putS "queues" (.ref x) (liveF tick sil s q ps po) = liveF tick sil s x ps po := rfl
end
end HR
set_option Elab.async false
set_option linter.all false
set_option maxRecDepth 20000
set_option exponentiation.threshold 5000
set_option Elab.async false
set_option linter.all false
set_option maxRecDepth 20000
set_option exponentiation.threshold 5000
set_option Elab.async false
set_option linter.all false
set_option maxRecDepth 20000
set_option exponentiation.threshold 5000
set_option Elab.async false
set_option linter.all false
set_option maxRecDepth 20000
set_option exponentiation.threshold 5000
namespace HR
open PySem L2
/-- only places of F are changed -/
def ChP (F : Nat → Prop) (h h' : OH) : Prop := h.length ≤ h'.length ∧ ∀ j, j < h.length → ¬ F j → h'[j]? = h[j]?
theorem ChP.refl (F : Nat → Prop) (h : OH) : ChP F h h := ⟨Nat.le_refl _, fun _ _ _ => rfl⟩
theorem ChP.trans {F : Nat → Prop} {a b c : OH} (x : ChP F a b) (y : ChP F b c) : ChP F a c := ⟨Nat.le_trans x.1 y.1, fun j hj n => (y.2 j (Nat.lt_of_lt_of_le hj x.1) n).trans (x.2 j hj n)⟩
theorem ChP.set {F : Nat → Prop} (h : OH) {i : Nat} (f : F i) (o : OO) : ChP F h (h.set i o) := ⟨by simp, fun j _ n => List.getElem?_set_ne (by intro z; subst z; exact n f)⟩
theorem ChP.app (F : Nat → Prop) (h t : OH) : ChP F h (h ++ t) := ⟨by simp, fun j hj _ => List.getElem?_append_left hj⟩
theorem ChP.get {F : Nat → Prop} {h h' : OH} (x : ChP F h h') {j : Nat} {o : OO} (e : h[j]? = some o) (n : ¬ F j) : h'[j]? = some o := (x.2 j (List.getElem?_eq_some_iff.mp e).1 n).trans e
theorem ChP.ofKept {F : Nat → Prop} {h h' : OH} (k : Kept h h') : ChP F h h' := ⟨k.1, fun j hj _ => k.2 j hj⟩
end HR
set_option Elab.async false
set_option linter.all false
set_option maxRecDepth 20000
set_option exponentiation.threshold 5000
namespace HR
open PySem L2
/-! ### advance -/
section
variable {h : OH} {C : Nat → Prop} {L s q ps po : Nat} {qa : Nat → Nat} {A : Str → Nat} {v : LV} {tick sil : Nat}
/-- ranks 1 to k have been advanced -/
def cpK (v : LV) (n k : Nat) : (Nat → RSt Str) × Nat := casc v.at (List.range' 1 k) n v.x
theorem cpK_succ (v : LV) (n k : Nat) : cpK v n (k + 1) = (updR (cpK v n k).1 (k + 1) (runR (v.at (k + 1)) (cpK v n k).2 (v.x (k + 1))).1, (runR (v.at (k + 1)) (cpK v n k).2 (v.x (k + 1))).2) := by
  unfold cpK
  have e : List.range' 1 (k + 1) = List.range' 1 k ++ [k + 1] := by
    have := List.range'_append_1 (s := 1) (m := k) (n := 1)
    rw [← this, show 1 + k = k + 1 by omega]
    rfl
  rw [e, casc_snoc]
  rw [List.mem_range'_1]
  omega
theorem runR_left {ι : Type} [DecidableEq ι] (ss : List ι) : ∀ (n : Nat) (x : RSt ι), (runR ss n x).2 ≤ n
  | 0, _ => Nat.le_refl _
  | n + 1, x => by
    simp only [runR]
    have a := runR_left ss n (tickR ss x).1
    have : (tickR ss x).2.toNat ≤ 1 := by cases (tickR ss x).2 <;> decide
    omega
theorem cpK_le (v : LV) (n : Nat) : ∀ k, (cpK v n k).2 ≤ n
  | 0 => Nat.le_refl _
  | k + 1 => by
    rw [cpK_succ]
    exact Nat.le_trans (runR_left _ _ _) (cpK_le v n k)
theorem cpK_st (v : LV) (n : Nat) : ∀ k r nm, StK n ((v.x r).1 nm) (((cpK v n k).1 r).1 nm)
  | 0, r, nm => ⟨rfl, rfl, Nat.le_add_right _ _⟩
  | k + 1, r, nm => by
    rw [cpK_succ]
    by_cases c : r = k + 1
    · subst c
      dsimp only
      rw [updR_same]
      have a := runR_k (v.at (k + 1)) (cpK v n k).2 (v.x (k + 1)) nm
      have := cpK_le v n k
      exact ⟨a.p, a.c, by have := a.t; omega⟩
    · dsimp only
      rw [updR_ne c]
      exact cpK_st v n k r nm
theorem cpK_ok (k : LvOk v) (n : Nat) (i r : Nat) : ROk (v.at r) ((cpK v n i).1 r) := casc_ok _ n k.r r
/-- what is there when the ranks 1 to k have been advanced -/
structure AdvK (v : LV) (n k : Nat) (σ : Str → St) (Q : Nat → List Str) : Prop where
  nat : ∀ r ∈ RK, NatR id (v.at r) ((cpK v n k).1 r) (σ, Q r)
  out : ∀ nm, (∀ r ∈ RK, nm ∉ v.at r) → σ nm = v.σ nm
theorem AdvK.seat (k : LvOk v) {n i : Nat} {σ : Str → St} {Q : Nat → List Str} (a : AdvK v n i σ Q) (hb : v.tick + n < 2 ^ 300) {t : Tk} (ht : t ∈ v.hall) : SeatOk t (σ t.name) ∧ (σ t.name).tot ≤ v.tick + n := by
  have hr := (k.rank ht).2
  have e : σ t.name = ((cpK v n i).1 t.rank.toNat).1 t.name := (a.nat _ hr).st _ (k.inAt ht)
  obtain ⟨p, c, tt⟩ := k.s t ht
  have z := cpK_st v n i t.rank.toNat t.name
  have o := (cpK_ok k n i t.rank.toNat).ok t.name (k.inAt ht)
  rw [← e] at z o
  have z3 := z.t
  have tl : (σ t.name).tot ≤ v.tick + n := by
    have : ((v.x t.rank.toNat).1 t.name).tot ≤ v.tick := tt
    omega
  exact ⟨⟨k.w.tk t ht, z.p.trans p, z.c.trans c, o, by omega⟩, tl⟩
end
end HR
set_option Elab.async false
set_option linter.all false
set_option maxRecDepth 20000
set_option exponentiation.threshold 5000
set_option Elab.async false
set_option linter.all false
set_option maxRecDepth 20000
set_option exponentiation.threshold 5000
namespace HR
open PySem L2
section
variable {h : OH} {C : Nat → Prop} {G : Nat → Nat → Prop} {L s q ps po : Nat} {qa : Nat → Nat} {A : Str → Nat} {v : LV} {hist pss : List D} {past : List LV}
def opAdv (n : Nat) : D := .tup [.str "advance", .int n]
end
end HR
set_option Elab.async false
set_option linter.all false
set_option maxRecDepth 20000
set_option exponentiation.threshold 5000
namespace HR
open PySem L2
/-! ### what a live hall tells -/
/-- the state of one talker, as told -/
def stD (v : LV) (t : Tk) : D := if (v.σ t.name).b then .tup [.str (if v.loud = some t.name then "speaking" else "ready"), .int (v.σ t.name).i, .int ((v.σ t.name).rest : Nat)]
  else .tup [.str "silent", .int (v.σ t.name).i, .int (acc (·.1) t.pre t.cyc ((v.σ t.name).i + 1) - (v.σ t.name).tot)]
end HR
set_option Elab.async false
set_option linter.all false
set_option maxRecDepth 20000
set_option exponentiation.threshold 5000
namespace HR
open PySem L2
/-! ### a live hall to which nothing was done but ticks: the clocks tell its state (maths) -/
section
variable {ts : List Tk} {t : Tk}
def vAt (ts : List Tk) (n : Nat) : LV := (LV.new ts).adv n
theorem within0 (w : WfHall T30 ts) (ht : t ∈ ts) (m : Nat) : ((LV.new ts).σ t.name).within m = (len2 t.pre t.cyc m : Int) := by
  rw [LV.new_st w ht, len2_z (w.tk t ht).pos2]
  simp [St.within, cnt, acc]
theorem wthn0 (w : WfHall T30 ts) (r m : Nat) : wthn (LV.new ts).σ ((LV.new ts).at r) m = (LL ts r m : Int) := by
  have key : ∀ l : List Tk, (∀ t ∈ l, t ∈ ts) → (((l.filter fun t => decide (t.rank = (r : Int))).map (·.name)).map fun i => ((LV.new ts).σ i).within m).sum = ((((l.filter fun t => t.rank == (r : Int)).map fun t => len2 t.pre t.cyc m).sum : Nat) : Int) := fun l => by
    induction l with
    | nil => exact fun _ => rfl
    | cons a l ih =>
      intro h
      have i := ih fun x hx => h x (List.mem_cons_of_mem _ hx)
      by_cases c : a.rank = (r : Int)
      · have c2 : (a.rank == (r : Int)) = true := by simpa using c
        rw [List.filter_cons_of_pos (by simpa using c), List.filter_cons_of_pos (by exact c2)]
        simp only [List.map_cons, List.sum_cons]
        rw [i, within0 w (h a List.mem_cons_self)]
        omega
      · have c2 : ¬ (a.rank == (r : Int)) = true := by simpa using c
        rw [List.filter_cons_of_neg (by simpa using c), List.filter_cons_of_neg (by exact c2)]
        exact i
  exact key ts fun _ h => h
theorem isQ0 (w : WfHall T30 ts) (r n : Nat) : IsQ (LV.new ts).σ ((LV.new ts).at r) [] n (inv (LI ts r) n) := by
  have g := inv_gal (LI_inc w.tk r)
  have b0 : blog (LV.new ts).σ [] = 0 := rfl
  refine ⟨?_, fun j hj => ?_⟩
  · have := g.le n
    rw [b0, wthn0 w]
    unfold LI at this
    unfold LI
    omega
  · have := g.lt hj
    rw [b0, wthn0 w]
    unfold LI at this
    omega
theorem run0 (w : WfHall T30 ts) (r n : Nat) : runR ((LV.new ts).at r) n ((LV.new ts).σ, []) = (advR (LV.new ts).σ ((LV.new ts).at r) [] n (inv (LI ts r) n), inv (LI ts r) n) :=
  run_adv _ _ _ _ _ ((LV.new_ok w).r r) (isQ0 w r n)
theorem casc0 (w : WfHall T30 ts) (n : Nat) : ∀ k, casc (LV.new ts).at (List.range' 1 k) n (LV.new ts).x = (fun r => if 1 ≤ r ∧ r ≤ k then advR (LV.new ts).σ ((LV.new ts).at r) [] (LB ts (r - 1) n) (LB ts r n) else ((LV.new ts).σ, []), LB ts k n)
  | 0 => by
    refine Prod.ext ?_ rfl
    funext r
    have : ¬ (1 ≤ r ∧ r ≤ 0) := by omega
    simp only [if_neg this]
    rfl
  | k + 1 => by
    have nm : k + 1 ∉ List.range' 1 k := by rw [List.mem_range'_1]; omega
    have e : List.range' 1 (k + 1) = List.range' 1 k ++ [k + 1] := by rw [List.range'_1_concat, Nat.add_comm 1 k]
    rw [e, casc_snoc _ nm, casc0 w n k]
    have er := run0 w (k + 1) (LB ts k n)
    have ex : (LV.new ts).x (k + 1) = ((LV.new ts).σ, []) := rfl
    rw [ex, er]
    refine Prod.ext ?_ rfl
    funext r
    dsimp only
    by_cases c : r = k + 1
    · subst c
      rw [updR_same, if_pos ⟨by omega, Nat.le_refl _⟩]
      rfl
    · rw [updR_ne c]
      by_cases d : 1 ≤ r ∧ r ≤ k
      · rw [if_pos d, if_pos ⟨d.1, by omega⟩]
      · rw [if_neg d, if_neg (fun z => d ⟨z.1, by omega⟩)]
theorem vAt_ca (w : WfHall T30 ts) (n : Nat) : (LV.new ts).ca n = (fun r => if 1 ≤ r ∧ r ≤ 10 then advR (LV.new ts).σ ((LV.new ts).at r) [] (LB ts (r - 1) n) (LB ts r n) else ((LV.new ts).σ, []), LB ts 10 n) := casc0 w n 10
theorem vAt_ok (w : WfHall T30 ts) (n : Nat) : LvOk (vAt ts n) := (LV.new_ok w).adv n
theorem vAt_Q0 (w : WfHall T30 ts) (n : Nat) {k : Nat} (hk : k < 10) : (vAt ts n).Q (k + 1) = (advR (LV.new ts).σ ((LV.new ts).at (k + 1)) [] (LB ts k n) (LB ts (k + 1) n)).2 := by
  show (((LV.new ts).ca n).1 (k + 1)).2 = _
  rw [vAt_ca w]
  dsimp only
  rw [if_pos ⟨by omega, by omega⟩]
  rfl
theorem vAt_s0 (w : WfHall T30 ts) (ht : t ∈ ts) (n : Nat) {k : Nat} (hk : k < 10) (hr : t.rank = (k : Int) + 1) : (vAt ts n).σ t.name = (advR (LV.new ts).σ ((LV.new ts).at (k + 1)) [] (LB ts k n) (LB ts (k + 1) n)).1 t.name := by
  have e := (LV.new_ok w).advSt n (t := t) ht
  have er : t.rank.toNat = k + 1 := by omega
  rw [er, vAt_ca w] at e
  dsimp only at e
  rw [if_pos ⟨by omega, by omega⟩] at e
  exact e
/-! the talks that stand in line -/
theorem pass_run (w : WfHall T30 ts) (ht : t ∈ ts) {r q : Nat} {x : Run} (e : runAt r q t = some x) : x.t = t ∧ ((LV.new ts).σ t.name).pass q = ⟨t.pre, t.cyc, x.i, true, 0, q⟩ ∧ x.len = (nth t.pre t.cyc x.i).2 ∧ x.i + 1 = cnt t.pre t.cyc q ∧ acc (·.1) t.pre t.cyc (x.i + 1) = (q : Int) := by
  unfold runAt at e
  split at e
  · rename_i h
    cases e
    obtain ⟨h1, h2, h3⟩ := h
    refine ⟨rfl, ?_, rfl, by dsimp only; omega, ?_⟩
    · rw [LV.new_st w ht]
      unfold St.pass
      simp only [Nat.zero_add]
      rw [if_pos h2, if_pos h3]
    · dsimp only
      rw [show cnt t.pre t.cyc q - 1 + 1 = cnt t.pre t.cyc q by omega]
      exact h3
  · cases e
theorem pass_no (w : WfHall T30 ts) (ht : t ∈ ts) {r q : Nat} (hr : t.rank = (r : Int)) (e : runAt r q t = none) : ((LV.new ts).σ t.name).pass q = ⟨t.pre, t.cyc, cnt t.pre t.cyc q, false, 0, q⟩ := by
  unfold runAt at e
  split at e
  · cases e
  · rename_i h
    rw [LV.new_st w ht]
    unfold St.pass
    simp only [Nat.zero_add]
    by_cases c : cnt t.pre t.cyc q > 0
    · rw [if_pos c, if_neg (fun z => h ⟨hr, c, z⟩)]
    · rw [if_neg c, show cnt t.pre t.cyc q = 0 by omega]
theorem runNames (w : WfHall T30 ts) (r q : Nat) : ((LV.new ts).at r).filter (fun j => (((LV.new ts).σ j).pass q).b) = (runL ts r q).map fun x => x.t.name := by
  have key : ∀ l : List Tk, (∀ t ∈ l, t ∈ ts) → ((l.filter fun t => decide (t.rank = (r : Int))).map (·.name)).filter (fun j => (((LV.new ts).σ j).pass q).b) = (l.filterMap (runAt r q)).map fun x => x.t.name := fun l => by
    induction l with
    | nil => exact fun _ => rfl
    | cons a l ih =>
      intro h
      have i := ih fun x hx => h x (List.mem_cons_of_mem _ hx)
      have ha := h a List.mem_cons_self
      by_cases c : a.rank = (r : Int)
      · rw [List.filter_cons_of_pos (by simpa using c), List.map_cons]
        cases e : runAt r q a with
        | none =>
          have b := pass_no w ha c e
          rw [List.filterMap_cons_none e, List.filter_cons_of_neg (by rw [b]; simp)]
          exact i
        | some x =>
          obtain ⟨b1, b2, _⟩ := pass_run w ha e
          rw [List.filterMap_cons_some e, List.filter_cons_of_pos (by rw [b2]), List.map_cons, i, b1]
      · have e : runAt r q a = none := by unfold runAt; rw [if_neg fun z => c z.1]
        rw [List.filter_cons_of_neg (by simpa using c), List.filterMap_cons_none e]
        exact i
  exact key ts fun _ h => h
/-- what is left of the offset at a talker's place -/
def offT (nm : Str) : Int → List Run → Int
  | off, [] => off
  | off, x :: r => if x.t.name = nm then off else offT nm (off - x.len) r
theorem offT_neg (nm : Str) : ∀ (L : List Run) (off : Int), (∀ x ∈ L, 0 ≤ x.len) → off < 0 → offT nm off L < 0
  | [], off, _, h => h
  | x :: r, off, hl, h => by
    unfold offT
    split
    · exact h
    · exact offT_neg nm r _ (fun y hy => hl y (List.mem_cons_of_mem _ hy)) (by have := hl x List.mem_cons_self; omega)
theorem spkRun : ∀ (L : List Run) (σ : Str → St) (n : Nat), (L.map fun x => x.t.name).Nodup → (∀ x ∈ L, ((σ x.t.name).rest : Int) = x.len ∧ 1 ≤ x.len) →
    (∀ x ∈ L, (spkQ σ (L.map fun x => x.t.name) n).1 x.t.name = if offT x.t.name n L < x.len then (σ x.t.name).say (offT x.t.name n L).toNat else (σ x.t.name).done) ∧ (∀ j, j ∉ (L.map fun x => x.t.name) → (spkQ σ (L.map fun x => x.t.name) n).1 j = σ j) ∧ (spkQ σ (L.map fun x => x.t.name) n).2.head? = (findT n L).map (·.1)
  | [], σ, n, _, _ => ⟨fun x hx => (nomatch hx), fun _ _ => rfl, rfl⟩
  | y :: r, σ, n, nd, hl => by
    rw [List.map_cons, List.nodup_cons] at nd
    obtain ⟨l1, l2⟩ := hl y List.mem_cons_self
    have nn : ∀ x ∈ r, ¬ y.t.name = x.t.name := fun x hx z => nd.1 (by rw [z]; exact List.mem_map_of_mem (f := fun x : Run => x.t.name) hx)
    rw [List.map_cons]
    unfold spkQ
    by_cases c : n < (σ y.t.name).rest
    · rw [if_pos c]
      refine ⟨fun x hx => ?_, fun j hj => ?_, ?_⟩
      · rcases List.mem_cons.mp hx with rfl | hx
        · have e : offT x.t.name n (x :: r) = n := by unfold offT; rw [if_pos rfl]
          rw [e, if_pos (by omega)]
          dsimp only
          rw [updS_same]
          rfl
        · have e : offT x.t.name n (y :: r) = offT x.t.name (n - y.len) r := by rw [offT, if_neg (nn x hx)]
          have lt := offT_neg x.t.name r ((n : Int) - y.len) (fun z hz => by have := (hl z (List.mem_cons_of_mem _ hz)).2; omega) (by omega)
          have lx := (hl x (List.mem_cons_of_mem _ hx)).2
          rw [e, if_pos (by omega), show (offT x.t.name ((n : Int) - y.len) r).toNat = 0 by omega, say_zero]
          exact updS_ne fun z => nn x hx z.symm
      · rw [List.mem_cons, not_or] at hj
        exact updS_ne hj.1
      · rw [findT, if_pos (by omega)]
        rfl
    · rw [if_neg c]
      obtain ⟨h1, h2, h3⟩ := spkRun r (updS σ y.t.name (σ y.t.name).done) (n - (σ y.t.name).rest) nd.2 (fun x hx => by
        rw [updS_ne fun z => nn x hx z.symm]
        exact hl x (List.mem_cons_of_mem _ hx))
      have en : ((n - (σ y.t.name).rest : Nat) : Int) = (n : Int) - y.len := by omega
      rw [en] at h1 h3
      refine ⟨fun x hx => ?_, fun j hj => ?_, ?_⟩
      · rcases List.mem_cons.mp hx with rfl | hx
        · have e : offT x.t.name n (x :: r) = n := by unfold offT; rw [if_pos rfl]
          rw [e, if_neg (by omega), h2 _ nd.1, updS_same]
        · have e : offT x.t.name n (y :: r) = offT x.t.name (n - y.len) r := by rw [offT, if_neg (nn x hx)]
          rw [e, h1 x hx, updS_ne fun z => nn x hx z.symm]
      · rw [List.mem_cons, not_or] at hj
        rw [h2 j hj.2, updS_ne hj.1]
      · rw [findT, if_neg (by omega)]
        exact h3
theorem runL_nd (w : WfHall T30 ts) (r q : Nat) : ((runL ts r q).map fun x => x.t.name).Nodup := by
  rw [← runNames w r q]
  exact ((LV.new_ok w).r r).nd.filter _
theorem runL_pos (w : WfHall T30 ts) {r q : Nat} {x : Run} (h : x ∈ runL ts r q) : 1 ≤ x.len := by
  obtain ⟨t, ht, e⟩ := List.mem_filterMap.mp h
  obtain ⟨_, _, e3, _⟩ := pass_run w ht e
  have := nth_pos (w.tk t ht).pos2 x.i
  omega
theorem runL_0 (ts : List Tk) (r : Nat) : runL ts r 0 = [] := by
  unfold runL
  induction ts with
  | nil => rfl
  | cons a l ih =>
    have e : runAt r 0 a = none := by unfold runAt; rw [if_neg]; simp [cnt]
    rw [List.filterMap_cons_none e, ih]
/-- the offset at a tick -/
def ofs (ts : List Tk) (k n : Nat) : Int := (LB ts k n : Int) - LB ts (k + 1) n - LLm ts (k + 1) (LB ts (k + 1) n)
theorem ofs_nn (w : WfHall T30 ts) (k n : Nat) (hq : 0 < LB ts (k + 1) n) : 0 ≤ ofs ts k n ∧ ofs ts k n = (LB ts k n : Int) - ((LB ts (k + 1) n : Int) + (LL ts (k + 1) (LB ts (k + 1) n - 1) : Int)) := by
  have g := inv_gal (LI_inc w.tk (k + 1))
  have eq : LB ts (k + 1) n = inv (LI ts (k + 1)) (LB ts k n) := rfl
  have lt := g.lt (q := LB ts (k + 1) n - 1) (l := LB ts k n) (by rw [← eq]; omega)
  unfold LI at lt
  unfold ofs LLm
  rw [if_neg (by omega)]
  constructor <;> omega
theorem adv0 (w : WfHall T30 ts) (k n : Nat) (hq : 0 < LB ts (k + 1) n) : advR (LV.new ts).σ ((LV.new ts).at (k + 1)) [] (LB ts k n) (LB ts (k + 1) n) = spkQ (fun j => if j ∈ (LV.new ts).at (k + 1) then ((LV.new ts).σ j).pass (LB ts (k + 1) n) else (LV.new ts).σ j) ((runL ts (k + 1) (LB ts (k + 1) n)).map fun x => x.t.name) (ofs ts k n).toNat := by
  unfold advR
  rw [if_neg (by omega)]
  have s0 : ∀ m, spkQ (LV.new ts).σ [] m = ((LV.new ts).σ, []) := fun m => rfl
  have b0 : blog (LV.new ts).σ [] = 0 := rfl
  simp only [s0, b0]
  have ef : ((LV.new ts).at (k + 1)).filter (fun j => (if j ∈ (LV.new ts).at (k + 1) then ((LV.new ts).σ j).pass (LB ts (k + 1) n) else (LV.new ts).σ j).b) = (runL ts (k + 1) (LB ts (k + 1) n)).map fun x => x.t.name := by
    rw [← runNames w]
    refine List.filter_congr fun j hj => ?_
    rw [if_pos hj]
  rw [ef, wthn0 w]
  congr 1
  have := (ofs_nn w k n hq).2
  rw [this]
  omega
end
end HR
set_option Elab.async false
set_option linter.all false
set_option maxRecDepth 20000
set_option exponentiation.threshold 5000
namespace HR
open PySem L2
/-! ### everything repeats: the quiet ticks of a rank -/
theorem sfold_ge (x : Str) : ∀ (L : List Run) (f : Int), (∀ y ∈ L, 0 ≤ y.len) → f ≤ sfold x f L
  | [], f, _ => Int.le_refl f
  | y :: L, f, h => by
    unfold sfold
    split
    · exact Int.le_refl f
    · have := sfold_ge x L (f + y.len) fun z hz => h z (List.mem_cons_of_mem _ hz)
      have := h y List.mem_cons_self
      omega
theorem line_rest {P : Run → Bool} (x : Int) : ∀ (L : List Run) (f : Int), (L.map fun y => y.t.name).Nodup → (∀ y ∈ L, 0 ≤ y.len) → (∀ y ∈ L, P y = true → sfold y.t.name f L + y.len ≤ x) → (f ≤ x ∨ ∃ y ∈ L, P y = true) → f + lsum L - x ≤ lsum (L.filter fun y => !P y)
  | [], f, _, _, _, h => by
    rcases h with h | ⟨y, hy, _⟩
    · show f + 0 - x ≤ 0
      omega
    · simp at hy
  | y :: L, f, nd, hl, hp, h => by
    rw [List.map_cons, List.nodup_cons] at nd
    have ly := hl y List.mem_cons_self
    have hl' : ∀ z ∈ L, 0 ≤ z.len := fun z hz => hl z (List.mem_cons_of_mem _ hz)
    have e1 : lsum (y :: L) = y.len + lsum L := rfl
    have hp' : ∀ z ∈ L, P z = true → sfold z.t.name (f + y.len) L + z.len ≤ x := fun z hz hz2 => by
      have := hp z (List.mem_cons_of_mem _ hz) hz2
      unfold sfold at this
      rwa [if_neg] at this
      intro e
      exact nd.1 (e ▸ List.mem_map_of_mem (f := fun y : Run => y.t.name) hz)
    rw [e1, List.filter_cons]
    by_cases c : P y = true
    · have := hp y List.mem_cons_self c
      unfold sfold at this
      rw [if_pos rfl] at this
      have ih := line_rest x L (f + y.len) nd.2 hl' hp' (.inl this)
      rw [if_neg (by simp [c])]
      omega
    · rw [if_pos (by simpa using c)]
      have e2 : ∀ l, lsum (y :: l) = y.len + lsum l := fun _ => rfl
      rw [e2]
      by_cases d : ∃ z ∈ L, P z = true
      · have ih := line_rest x L (f + y.len) nd.2 hl' hp' (.inr d)
        omega
      · have hf : f ≤ x := by
          rcases h with h | ⟨z, hz, hz2⟩
          · exact h
          · exfalso
            rcases List.mem_cons.mp hz with rfl | hz
            · exact c hz2
            · exact d ⟨z, hz, hz2⟩
        have e3 : L.filter (fun y => !P y) = L := List.filter_eq_self.mpr fun z hz => by
          cases e : P z with
          | false => rfl
          | true => exact absurd ⟨z, hz, e⟩ d
        rw [e3]
        omega
/-- the last talk of a prefix -/
def PF (y : Run) : Bool := decide (y.i + 1 = y.t.pre.length)
section
variable {ts : List Tk} (w : WfHall T30 ts)
include w
theorem runAt_per {r q : Nat} {t : Tk} (ht : t ∈ mt ts r) (hb : pe t ≤ q) {y : Run} (hy : runAt r q t = some y) (hn : PF y = false) (j : Nat) : runAt r (q + j * lcmL (mt ts r)) t = some ⟨t, y.i + j * (lcmL (mt ts r) / qs t) * t.cyc.length, y.len⟩ := by
  obtain ⟨hm, wt, hr⟩ := mt_wf w ht
  unfold runAt at hy
  split at hy
  · rename_i z
    obtain ⟨z1, z2, z3⟩ := z
    cases hy
    have hp := cnt_pe wt hb
    have hn' : ¬ cnt t.pre t.cyc q - 1 + 1 = t.pre.length := of_decide_eq_false hn
    rw [lcm_mul w ht j]
    generalize j * (lcmL (mt ts r) / qs t) = m
    have e := cnt_per wt hb m
    unfold runAt
    rw [e]
    have ea := acc_per (f := (·.1)) (p := t.pre) wt.lc1 hp m
    rw [qs_int wt] at ea
    rw [if_pos ⟨z1, by omega, by rw [ea, z3]; push_cast; rfl⟩]
    have en : cnt t.pre t.cyc q + m * t.cyc.length - 1 = cnt t.pre t.cyc q - 1 + m * t.cyc.length := by omega
    rw [en, nth_per wt.lc1 (by omega)]
  · cases hy
theorem rest_le {r q : Nat} (hb : Beh ts r q) (j : Nat) : lsum ((runL ts r q).filter fun y => !PF y) ≤ lsum (runL ts r (q + j * lcmL (mt ts r))) := by
  have ln : ∀ (p : Nat) (t : Tk), t ∈ ts → ∀ y, runAt r p t = some y → 0 ≤ y.len := fun p t ht y e => (runL_len w (List.mem_filterMap.mpr ⟨t, ht, e⟩)).1
  have key : ∀ us : List Tk, (∀ t ∈ us, t ∈ ts) → lsum ((us.filterMap (runAt r q)).filter fun y => !PF y) ≤ lsum (us.filterMap (runAt r (q + j * lcmL (mt ts r)))) := fun us => by
    induction us with
    | nil => intro _; exact Int.le_refl _
    | cons t us ih =>
      intro hu
      have i := ih fun v hv => hu v (List.mem_cons_of_mem _ hv)
      have ht := hu t List.mem_cons_self
      have e2 : ∀ (a : Run) (l : List Run), lsum (a :: l) = a.len + lsum l := fun _ _ => rfl
      have up : lsum (us.filterMap (runAt r (q + j * lcmL (mt ts r)))) ≤ lsum ((t :: us).filterMap (runAt r (q + j * lcmL (mt ts r)))) := by
        rw [List.filterMap_cons]
        cases e : runAt r (q + j * lcmL (mt ts r)) t with
        | none => exact Int.le_refl _
        | some y =>
          have := ln _ t ht y e
          show _ ≤ lsum (y :: _)
          rw [e2]
          omega
      cases e : runAt r q t with
      | none =>
        rw [List.filterMap_cons, e]
        exact Int.le_trans i up
      | some y =>
        have e0 : (t :: us).filterMap (runAt r q) = y :: us.filterMap (runAt r q) := by rw [List.filterMap_cons, e]
        rw [e0, List.filter_cons]
        cases c : PF y with
        | true =>
          rw [if_neg (by simp)]
          exact Int.le_trans i up
        | false =>
          rw [if_pos (by simp)]
          have hr : t.rank = (r : Int) := by
            unfold runAt at e
            split at e
            · rename_i z; exact z.1
            · cases e
          have hm : t ∈ mt ts r := List.mem_filter.mpr ⟨ht, decide_eq_true hr⟩
          have := runAt_per w hm (hb t hm) e c j
          rw [List.filterMap_cons, this]
          show lsum (y :: _) ≤ lsum (_ :: _)
          rw [e2, e2]
          show y.len + _ ≤ y.len + _
          omega
  exact key ts fun t ht => ht
end
end HR
set_option Elab.async false
set_option linter.all false
set_option maxRecDepth 20000
set_option exponentiation.threshold 5000
namespace HR
open PySem L2
/-! ### everything repeats: the clocks -/
/-- behind the prefixes of a rank -/
def Pst (ts : List Tk) (k x : Nat) : Prop := ∀ t ∈ mt ts (k + 1), t.pre.length ≠ 0 → spL ts t (k + 1) (t.pre.length - 1) + 1 ≤ x
section
variable {ts : List Tk} (w : WfHall T30 ts)
include w
theorem pst_end {k x : Nat} (h : Pst ts k x) {t : Tk} (ht : t ∈ mt ts (k + 1)) (hp : t.pre.length ≠ 0) : 1 ≤ pe t ∧ sfold t.name ((LI ts (k + 1) (pe t - 1) : Int) + 1) (runL ts (k + 1) (pe t)) + (nth t.pre t.cyc (t.pre.length - 1)).2 ≤ x := by
  obtain ⟨hm, wt, hr⟩ := mt_wf w ht
  have lp := wt.lp
  have s := (sp_ok w hm (k + 1) (t.pre.length - 1) (by omega)).2.1
  have q := (Q1_z wt (t.pre.length - 1)).2
  have e1 : t.pre.length - 1 + 1 = t.pre.length := by omega
  have eq : Q1 t (t.pre.length - 1) = pe t := by unfold Q1 pe; rw [e1]
  have a := h t ht hp
  unfold spI at s
  rw [eq] at s q
  exact ⟨by omega, by omega⟩
theorem pst_beh {k x : Nat} (h : Pst ts k x) : Beh ts (k + 1) (inv (LI ts (k + 1)) x) := fun t ht => by
  have wt := (mt_wf w ht).2.1
  by_cases hp : t.pre.length = 0
  · have : pe t = 0 := by unfold pe; rw [hp]; rfl
    omega
  · obtain ⟨p0, p1⟩ := pst_end w h ht hp
    have g := inv_gal (LI_inc w.tk (k + 1))
    have s := sfold_ge t.name (runL ts (k + 1) (pe t)) ((LI ts (k + 1) (pe t - 1) : Int) + 1) fun y hy => (runL_len w hy).1
    have n1 := (wt.nth1 (t.pre.length - 1)).2.2.1
    rcases Nat.lt_or_ge (inv (LI ts (k + 1)) x) (pe t) with l | l
    · have := (g (pe t - 1) x).mpr (by omega)
      omega
    · exact l
theorem LI_line (r : Nat) {p : Nat} (hp : 0 < p) : (LI ts r (p - 1) : Int) + 1 + lsum (runL ts r p) = LI ts r p := by
  have := LL_run w.tk r p hp
  unfold LI
  omega
theorem pst_rest {k x : Nat} (h : Pst ts k x) (h0 : 0 < inv (LI ts (k + 1)) x) (j : Nat) : (LI ts (k + 1) (inv (LI ts (k + 1)) x) : Int) - x ≤ lsum (runL ts (k + 1) (inv (LI ts (k + 1)) x + j * lcmL (mt ts (k + 1)))) := by
  have g := inv_gal (LI_inc w.tk (k + 1))
  have hb := pst_beh w h
  generalize hq : inv (LI ts (k + 1)) x = q at *
  have lt := g.lt (q := q - 1) (l := x) (by rw [hq]; omega)
  have r := line_rest (P := PF) (x : Int) (runL ts (k + 1) q) ((LI ts (k + 1) (q - 1) : Int) + 1) (runL_nd w _ _) (fun y hy => (runL_len w hy).1) (fun y hy hy2 => by
    obtain ⟨t, ht, e⟩ := List.mem_filterMap.mp hy
    unfold runAt at e
    split at e
    · rename_i z
      obtain ⟨z1, z2, z3⟩ := z
      cases e
      have hm : t ∈ mt ts (k + 1) := List.mem_filter.mpr ⟨ht, decide_eq_true z1⟩
      have hy2 : cnt t.pre t.cyc q - 1 + 1 = t.pre.length := of_decide_eq_true hy2
      have hp : t.pre.length ≠ 0 := by omega
      have ec : cnt t.pre t.cyc q = t.pre.length := by omega
      have ep : pe t = q := by unfold pe; rw [← ec, z3]; simp
      obtain ⟨_, p1⟩ := pst_end w h hm hp
      rw [ep] at p1
      dsimp only
      rw [ec]
      exact p1
    · cases e) (.inl (by omega))
  rw [LI_line w (k + 1) h0] at r
  exact Int.le_trans r (rest_le w hb j)
theorem inv_per {k x : Nat} (h : Pst ts k x) (j : Nat) : inv (LI ts (k + 1)) (x + j * lf lcmL (mt ts (k + 1))) = inv (LI ts (k + 1)) x + j * lcmL (mt ts (k + 1)) := by
  have g := inv_gal (LI_inc w.tk (k + 1))
  have hb := pst_beh w h
  have per := LI_per w hb j
  refine Nat.le_antisymm ?_ ?_
  · refine (g _ _).mp ?_
    rw [per]
    have := g.le x
    omega
  · rcases Nat.eq_zero_or_pos (inv (LI ts (k + 1)) x + j * lcmL (mt ts (k + 1))) with z | z
    · rw [z]; exact Nat.zero_le _
    · refine Nat.le_of_not_lt fun l => ?_
      have a := (g (inv (LI ts (k + 1)) x + j * lcmL (mt ts (k + 1)) - 1) (x + j * lf lcmL (mt ts (k + 1)))).mpr (by omega)
      have b := LI_line w (k + 1) z
      rcases Nat.eq_zero_or_pos (inv (LI ts (k + 1)) x) with y | y
      · have x0 : x = 0 := by
          have := g.le x
          rw [y] at this
          have e : LI ts (k + 1) 0 = 0 := by unfold LI; rw [LL_0 w.tk]
          omega
        subst x0
        have ls : 0 ≤ lsum (runL ts (k + 1) (inv (LI ts (k + 1)) 0 + j * lcmL (mt ts (k + 1)))) := by
          have key : ∀ l : List Run, (∀ y ∈ l, 0 ≤ y.len) → 0 ≤ lsum l := fun l => by
            induction l with
            | nil => intro _; exact Int.le_refl 0
            | cons a l ih =>
              intro hl
              have := ih fun y hy => hl y (List.mem_cons_of_mem _ hy)
              have := hl a List.mem_cons_self
              show 0 ≤ a.len + lsum l
              omega
          exact key _ fun y hy => (runL_len w hy).1
        have e : LI ts (k + 1) 0 = 0 := by unfold LI; rw [LL_0 w.tk]
        rw [y] at per a b z ls
        omega
      · have r := pst_rest w h y j
        omega
/-- the clocks repeat, from a start on that is behind the prefixes -/
theorem LB_per {l : Nat} (m : Nat) : ∀ {k : Nat}, (∀ j, j < k → Pst ts j (LB ts j l)) → LB ts k (l + m * (cyN ts k).1) = LB ts k l + m * (cyN ts k).2
  | 0, _ => rfl
  | k + 1, h => by
    have hL := lf_pos qf_lcm w (k + 1)
    have ih := fun m => LB_per (l := l) m (k := k) fun j hj => h j (by omega)
    have g0 : 0 < Nat.gcd (cyN ts k).2 (lf lcmL (mt ts (k + 1))) := Nat.gcd_pos_of_pos_right _ hL
    show inv (LI ts (k + 1)) (LB ts k (l + m * (cyS (cyN ts k) (mt ts (k + 1))).1)) = inv (LI ts (k + 1)) (LB ts k l) + m * (cyS (cyN ts k) (mt ts (k + 1))).2
    have hp := inv_per w (h k (Nat.lt_succ_self k))
    unfold cyS
    dsimp only
    have ih := ih (m * rnd (cyN ts k).2 (lf lcmL (mt ts (k + 1))))
    have e1 : m * ((cyN ts k).1 * rnd (cyN ts k).2 (lf lcmL (mt ts (k + 1)))) = m * rnd (cyN ts k).2 (lf lcmL (mt ts (k + 1))) * (cyN ts k).1 := by ac_rfl
    rw [e1, ih, rnd_mul hL]
    have e2 : m * rnd (cyN ts k).2 (lf lcmL (mt ts (k + 1))) * (cyN ts k).2 = m * ((cyN ts k).2 / Nat.gcd (cyN ts k).2 (lf lcmL (mt ts (k + 1)))) * lf lcmL (mt ts (k + 1)) := by
      rw [Nat.mul_assoc, Nat.mul_assoc]
      congr 1
      have := rnd_mul (a := (cyN ts k).2) hL
      have d : lf lcmL (mt ts (k + 1)) ∣ (cyN ts k).2 * rnd (cyN ts k).2 (lf lcmL (mt ts (k + 1))) := by
        obtain ⟨c, hc⟩ := Nat.gcd_dvd_left (cyN ts k).2 (lf lcmL (mt ts (k + 1)))
        obtain ⟨d, hd⟩ := Nat.gcd_dvd_right (cyN ts k).2 (lf lcmL (mt ts (k + 1)))
        refine ⟨c, ?_⟩
        unfold rnd
        generalize Nat.gcd (cyN ts k).2 (lf lcmL (mt ts (k + 1))) = g at *
        generalize (cyN ts k).2 = W at *
        generalize lf lcmL (mt ts (k + 1)) = L at *
        subst hc hd
        rw [Nat.mul_div_cancel_left _ g0]
        ac_rfl
      rw [← this, Nat.div_mul_cancel d, Nat.mul_comm]
    rw [e2, hp, Nat.mul_assoc]
end
end HR
set_option Elab.async false
set_option linter.all false
set_option maxRecDepth 20000
set_option exponentiation.threshold 5000
namespace HR
open PySem L2
/-! ### everything repeats: from the start on -/
section
variable {ts : List Tk} (w : WfHall T30 ts)
include w
theorem pst_of {l : Nat} (hl : stCy ts ≤ l) (k : Nat) : Pst ts k (LB ts k l) := fun t ht hp => by
  obtain ⟨hm, wt, hr⟩ := mt_wf w ht
  have e : endT ts t ≤ l := by
    refine Nat.le_trans ?_ hl
    rw [stCy_sv]
    refine le_fmax.2 _ (List.mem_map.mpr ⟨t, hm, ?_⟩)
    unfold sv
    rw [if_neg hp]
  unfold endT at e
  have er : t.rank.toNat - 1 = k := by omega
  rw [er] at e
  have g := TO_gal w.tk k
  refine Nat.lt_of_not_le fun z => ?_
  have := (g (spL ts t (k + 1) (t.pre.length - 1)) l).mpr z
  omega
theorem cyN_dvd (a b : Nat) (h : a ≤ b) : (cyN ts a).1 ∣ (cyN ts b).1 := by
  induction b with
  | zero => rw [Nat.le_zero.mp h]; exact Nat.dvd_refl _
  | succ b ih =>
    by_cases e : a = b + 1
    · subst e; exact Nat.dvd_refl _
    · exact Nat.dvd_trans (ih (by omega)) (Nat.dvd_mul_right _ _)
/-- the length of the cycle; what is left for rank k + 1 meanwhile -/
def cyL (ts : List Tk) : Nat := (cyN ts 10).1
def cyW (ts : List Tk) (k : Nat) : Nat := cyL ts / (cyN ts k).1 * (cyN ts k).2
theorem LB_far {l : Nat} (hl : stCy ts ≤ l) {k : Nat} (hk : k ≤ 10) (m : Nat) : LB ts k (l + m * cyL ts) = LB ts k l + m * cyW ts k := by
  have d := cyN_dvd w k 10 hk
  have e : m * cyL ts = m * (cyL ts / (cyN ts k).1) * (cyN ts k).1 := by
    rw [Nat.mul_assoc, show cyL ts / (cyN ts k).1 * (cyN ts k).1 = cyL ts from Nat.div_mul_cancel d]
  rw [e, LB_per w (m * (cyL ts / (cyN ts k).1)) fun j _ => pst_of w hl j]
  unfold cyW
  rw [Nat.mul_assoc]
end
end HR
set_option Elab.async false
set_option linter.all false
set_option maxRecDepth 20000
set_option exponentiation.threshold 5000
namespace HR
open PySem L2
section
variable {ts : List Tk} {t : Tk}
theorem LB_s (ts : List Tk) (k n : Nat) : LB ts (k + 1) n = inv (LI ts (k + 1)) (LB ts k n) := rfl
theorem inAt0 (ht : t ∈ ts) {k : Nat} (hr : t.rank = (k : Int) + 1) : t.name ∈ (LV.new ts).at (k + 1) := LV.mem_at.mpr ⟨t, ht, rfl, by rw [hr]; simp⟩
/-- the state of a talker whose talk stands in line -/
theorem vAt_run (w : WfHall T30 ts) (ht : t ∈ ts) (n : Nat) {k : Nat} (hk : k < 10) (hr : t.rank = (k : Int) + 1) {x : Run} (hx : runAt (k + 1) (LB ts (k + 1) n) t = some x) :
    (vAt ts n).σ t.name = if offT t.name (ofs ts k n) (runL ts (k + 1) (LB ts (k + 1) n)) < x.len then ⟨t.pre, t.cyc, x.i, true, (offT t.name (ofs ts k n) (runL ts (k + 1) (LB ts (k + 1) n))).toNat, LB ts (k + 1) n⟩ else ⟨t.pre, t.cyc, x.i + 1, false, 0, LB ts (k + 1) n⟩ := by
  obtain ⟨e1, e2, e3, e4, e5⟩ := pass_run w ht hx
  have hq : 0 < LB ts (k + 1) n := by
    rcases Nat.eq_zero_or_pos (LB ts (k + 1) n) with z | z
    · rw [z] at e4
      simp [cnt] at e4
    · exact z
  have hm : x ∈ runL ts (k + 1) (LB ts (k + 1) n) := List.mem_filterMap.mpr ⟨t, ht, hx⟩
  obtain ⟨o1, o2⟩ := ofs_nn w k n hq
  rw [vAt_s0 w ht n hk hr, adv0 w k n hq]
  obtain ⟨h1, _, _⟩ := spkRun (runL ts (k + 1) (LB ts (k + 1) n)) (fun j => if j ∈ (LV.new ts).at (k + 1) then ((LV.new ts).σ j).pass (LB ts (k + 1) n) else (LV.new ts).σ j) (ofs ts k n).toNat (runL_nd w _ _) (fun y hy => by
    obtain ⟨u, hu, eu⟩ := List.mem_filterMap.mp hy
    obtain ⟨f1, f2, f3, f4, f5⟩ := pass_run w hu eu
    have ur : u.rank = (k : Int) + 1 := by
      unfold runAt at eu
      split at eu
      · rename_i z
        have := z.1
        omega
      · cases eu
    have := runL_pos w hy
    rw [f1, if_pos (inAt0 hu ur), f2]
    refine ⟨?_, this⟩
    simp only [St.rest, St.len]
    rw [f3] at this ⊢
    omega)
  have h := h1 x hm
  rw [e1] at h
  rw [if_pos (inAt0 ht hr), e2, show ((ofs ts k n).toNat : Int) = ofs ts k n by omega] at h
  rw [h]
  split
  · simp [St.say]
  · simp [St.done]
/-- and of one whose doesn't -/
theorem vAt_no (w : WfHall T30 ts) (ht : t ∈ ts) (n : Nat) {k : Nat} (hk : k < 10) (hr : t.rank = (k : Int) + 1) (hx : runAt (k + 1) (LB ts (k + 1) n) t = none) :
    (vAt ts n).σ t.name = ⟨t.pre, t.cyc, cnt t.pre t.cyc (LB ts (k + 1) n), false, 0, LB ts (k + 1) n⟩ := by
  have hr' : t.rank = ((k + 1 : Nat) : Int) := by rw [hr]; simp
  have p := pass_no w ht hr' hx
  rcases Nat.eq_zero_or_pos (LB ts (k + 1) n) with hq | hq
  · rw [vAt_s0 w ht n hk hr]
    unfold advR
    rw [if_pos hq, hq]
    show (LV.new ts).σ t.name = _
    rw [LV.new_st w ht]
    rfl
  · rw [vAt_s0 w ht n hk hr, adv0 w k n hq]
    have nm : t.name ∉ (runL ts (k + 1) (LB ts (k + 1) n)).map fun x => x.t.name := by
      rw [← runNames w]
      intro z
      have := (List.mem_filter.mp z).2
      rw [p] at this
      cases this
    obtain ⟨_, h2, _⟩ := spkRun (runL ts (k + 1) (LB ts (k + 1) n)) (fun j => if j ∈ (LV.new ts).at (k + 1) then ((LV.new ts).σ j).pass (LB ts (k + 1) n) else (LV.new ts).σ j) (ofs ts k n).toNat (runL_nd w _ _) (fun y hy => by
      obtain ⟨u, hu, eu⟩ := List.mem_filterMap.mp hy
      obtain ⟨f1, f2, f3, f4, f5⟩ := pass_run w hu eu
      have ur : u.rank = (k : Int) + 1 := by
        unfold runAt at eu
        split at eu
        · rename_i z
          have := z.1
          omega
        · cases eu
      have := runL_pos w hy
      rw [f1, if_pos (inAt0 hu ur), f2]
      refine ⟨?_, this⟩
      simp only [St.rest, St.len]
      rw [f3] at this ⊢
      omega)
    rw [h2 _ nm, if_pos (inAt0 ht hr), p]
theorem vAt_head (w : WfHall T30 ts) (n : Nat) {k : Nat} (hk : k < 10) : ((vAt ts n).Q (k + 1)).head? = (findT (ofs ts k n) (runL ts (k + 1) (LB ts (k + 1) n))).map (·.1) := by
  rcases Nat.eq_zero_or_pos (LB ts (k + 1) n) with hq | hq
  · rw [vAt_Q0 w n hk]
    unfold advR
    rw [if_pos hq, hq, runL_0]
    rfl
  · rw [vAt_Q0 w n hk, adv0 w k n hq]
    obtain ⟨o1, o2⟩ := ofs_nn w k n hq
    obtain ⟨_, _, h3⟩ := spkRun (runL ts (k + 1) (LB ts (k + 1) n)) (fun j => if j ∈ (LV.new ts).at (k + 1) then ((LV.new ts).σ j).pass (LB ts (k + 1) n) else (LV.new ts).σ j) (ofs ts k n).toNat (runL_nd w _ _) (fun y hy => by
      obtain ⟨u, hu, eu⟩ := List.mem_filterMap.mp hy
      obtain ⟨f1, f2, f3, f4, f5⟩ := pass_run w hu eu
      have ur : u.rank = (k : Int) + 1 := by
        unfold runAt at eu
        split at eu
        · rename_i z
          have := z.1
          omega
        · cases eu
      have := runL_pos w hy
      rw [f1, if_pos (inAt0 hu ur), f2]
      refine ⟨?_, this⟩
      simp only [St.rest, St.len]
      rw [f3] at this ⊢
      omega)
    rw [h3, show ((ofs ts k n).toNat : Int) = ofs ts k n by omega]
theorem findT_none : ∀ (L : List Run) (off : Int), (∀ x ∈ L, 1 ≤ x.len) → lsum L ≤ off → findT off L = none
  | [], _, _, _ => rfl
  | x :: r, off, hl, h => by
    have hx := hl x List.mem_cons_self
    have hr : 0 ≤ lsum r := by
      have : ∀ l : List Run, (∀ y ∈ l, 1 ≤ y.len) → 0 ≤ lsum l := fun l => by
        induction l with
        | nil => exact fun _ => by simp [lsum]
        | cons a l ih =>
          intro z
          have := ih fun y hy => z y (List.mem_cons_of_mem _ hy)
          have := z a List.mem_cons_self
          simp only [lsum, List.map_cons, List.sum_cons] at *
          omega
      exact this r fun y hy => hl y (List.mem_cons_of_mem _ hy)
    have e : lsum (x :: r) = x.len + lsum r := by simp [lsum]
    rw [findT, if_neg (by omega)]
    exact findT_none r _ (fun y hy => hl y (List.mem_cons_of_mem _ hy)) (by omega)
theorem vAt_nil (w : WfHall T30 ts) (n : Nat) {k : Nat} (hk : k < 10) : (vAt ts n).Q (k + 1) = [] ↔ LB ts k n = LI ts (k + 1) (LB ts (k + 1) n) := by
  have h := vAt_head w n hk
  have g := inv_gal (LI_inc w.tk (k + 1))
  have le := g.le (LB ts k n)
  rw [← LB_s] at le
  have hd : (vAt ts n).Q (k + 1) = [] ↔ findT (ofs ts k n) (runL ts (k + 1) (LB ts (k + 1) n)) = none := by
    rw [← List.head?_eq_none_iff, h, Option.map_eq_none_iff]
  rw [hd]
  rcases Nat.eq_zero_or_pos (LB ts (k + 1) n) with hq | hq
  · rw [hq, runL_0]
    have z : LI ts (k + 1) 0 = 0 := by rw [LI, LL_0 w.tk]
    rw [hq, z] at le
    rw [z]
    exact ⟨fun _ => by omega, fun _ => rfl⟩
  · obtain ⟨o1, o2⟩ := ofs_nn w k n hq
    have c := LL_run w.tk (k + 1) (LB ts (k + 1) n) hq
    have l1 : LI ts (k + 1) (LB ts (k + 1) n) = LB ts (k + 1) n + LL ts (k + 1) (LB ts (k + 1) n) := rfl
    constructor
    · intro z
      rcases Nat.lt_or_ge (LB ts k n) (LI ts (k + 1) (LB ts (k + 1) n)) with lt | ge
      · exact absurd z (findT_some _ _ o1 (by omega))
      · omega
    · intro z
      exact findT_none _ _ (fun x hx => runL_pos w hx) (by omega)
theorem LV.loud_at {v : LV} {f : Nat} (hf : f ∈ RK) (h0 : ∀ r ∈ RK, r < f → v.Q r = []) (h1 : v.Q f ≠ []) : v.loud = (v.Q f).head? := by
  have e : v.fr = some f := by
    cases q : v.fr with
    | none => exact absurd (LV.fr_none q f hf) h1
    | some g =>
      obtain ⟨a, b, c⟩ := LV.fr_some q
      rcases Nat.lt_trichotomy g f with z | z | z
      · exact absurd (h0 g a z) b
      · rw [z]
      · exact absurd (c f hf z) h1
  unfold LV.loud
  rw [e]
  rfl
theorem LV.loud_no {v : LV} (h0 : ∀ r ∈ RK, v.Q r = []) : v.loud = none := by
  rw [LV.loud_none]
  cases q : v.fr with
  | none => rfl
  | some g =>
    obtain ⟨a, b, c⟩ := LV.fr_some q
    exact absurd (h0 g a) b
/-- who speaks -/
theorem vAt_loud (w : WfHall T30 ts) (n : Nat) : (vAt ts n).loud = (talkL ts n).map (·.1) := by
  have st : ∀ k, k < 10 → LB ts k n ≠ LI ts (k + 1) (LB ts (k + 1) n) → talkStep ts (k + 1, LB ts k n, LB ts (k + 1) n) = findT (ofs ts k n) (runL ts (k + 1) (LB ts (k + 1) n)) := fun k hk ne => by
    unfold talkStep
    rw [if_neg ne]
    have hq : 0 < LB ts (k + 1) n := by
      rcases Nat.eq_zero_or_pos (LB ts (k + 1) n) with z | z
      · exfalso
        have g := inv_gal (LI_inc w.tk (k + 1))
        have le := g.le (LB ts k n)
        rw [← LB_s] at le
        have z0 : LI ts (k + 1) 0 = 0 := by rw [LI, LL_0 w.tk]
        rw [z, z0] at ne le
        omega
      · exact z
    have := (ofs_nn w k n hq).2
    rw [this]
    congr 1
    dsimp only
    omega
  have key : ∀ m k, k + m = 9 → (∀ r ∈ RK, r ≤ k → (vAt ts n).Q r = []) → (vAt ts n).loud = (talkStep ts (lastD ts m k (LB ts k n))).map (·.1) := fun m => by
    induction m with
    | zero =>
      intro k hk h0
      have e9 : k = 9 := by omega
      subst e9
      show _ = (talkStep ts (9 + 1, LB ts 9 n, LB ts (9 + 1) n)).map (·.1)
      by_cases c : LB ts 9 n = LI ts (9 + 1) (LB ts (9 + 1) n)
      · have q := (vAt_nil w n (k := 9) (by decide)).mpr c
        have : talkStep ts (9 + 1, LB ts 9 n, LB ts (9 + 1) n) = none := if_pos c
        rw [this]
        refine LV.loud_no fun r hr => ?_
        have b := RK_mem.mp hr
        by_cases z : r ≤ 9
        · exact h0 r hr z
        · rw [show r = 9 + 1 by omega]
          exact q
      · rw [st 9 (by decide) c, ← vAt_head w n (k := 9) (by decide)]
        exact LV.loud_at (RK_mem.mpr ⟨by omega, by omega⟩) (fun r hr lt => h0 r hr (by omega)) (fun z => c ((vAt_nil w n (k := 9) (by decide)).mp z))
    | succ m ih =>
      intro k hk h0
      have hk' : k < 10 := by omega
      unfold lastD
      by_cases c : LB ts k n = LI ts (k + 1) (inv (LI ts (k + 1)) (LB ts k n))
      · rw [if_pos c]
        have q := (vAt_nil w n hk').mpr c
        refine ih (k + 1) (by omega) fun r hr le => ?_
        by_cases z : r ≤ k
        · exact h0 r hr z
        · rw [show r = k + 1 by omega]
          exact q
      · rw [if_neg c]
        show _ = (talkStep ts (k + 1, LB ts k n, LB ts (k + 1) n)).map (·.1)
        rw [st k hk' c, ← vAt_head w n hk']
        exact LV.loud_at (RK_mem.mpr ⟨by omega, by omega⟩) (fun r hr lt => h0 r hr (by omega)) (fun z => c ((vAt_nil w n hk').mp z))
  exact key 9 0 rfl fun r hr le => by have := (RK_mem.mp hr).1; omega
/-! what a talker has spoken -/
theorem pfold_at (nm : Str) : ∀ (L : List Run) (off : Int) (p : Prog), (L.map fun x => x.t.name).Nodup →
    (∀ x ∈ L, x.t.name = nm → (pfold nm off p L).2.2 = p.2.2 + (let m := if 0 > offT nm off L then 0 else offT nm off L; if x.len < m then x.len else m)) ∧ (nm ∉ (L.map fun x => x.t.name) → (pfold nm off p L).2.2 = p.2.2)
  | [], _, _, _ => ⟨fun x hx => (nomatch hx), fun _ => rfl⟩
  | y :: r, off, p, nd => by
    rw [List.map_cons, List.nodup_cons] at nd
    obtain ⟨i1, i2⟩ := pfold_at nm r (off - y.len) (if y.t.name == nm then (p.1 + (if 0 < off then 1 else 0), p.2.1 + (if y.len ≤ off then 1 else 0), p.2.2 + (let m := if 0 > off then 0 else off; if y.len < m then y.len else m)) else p) nd.2
    refine ⟨fun x hx hn => ?_, fun hn => ?_⟩
    · rw [pfold]
      by_cases c : y.t.name = nm
      · have nr : nm ∉ r.map fun x => x.t.name := by rw [← c]; exact nd.1
        have ex : x = y := by
          rcases List.mem_cons.mp hx with z | z
          · exact z
          · exact absurd (by rw [← hn]; exact List.mem_map_of_mem (f := fun x : Run => x.t.name) z) nr
        subst ex
        rw [i2 nr]
        have c2 : (x.t.name == nm) = true := by simpa using c
        rw [if_pos c2, offT, if_pos c]
      · have hx' : x ∈ r := by
          rcases List.mem_cons.mp hx with z | z
          · exact absurd (z ▸ hn) c
          · exact z
        rw [i1 x hx' hn]
        have c2 : ¬ (y.t.name == nm) = true := by simpa using c
        rw [if_neg c2, offT, if_neg c]
    · rw [List.map_cons, List.mem_cons, not_or] at hn
      rw [pfold, i2 hn.2]
      have c2 : ¬ (y.t.name == nm) = true := by simpa using fun z : y.t.name = nm => hn.1 z.symm
      rw [if_neg c2]
theorem runMem (w : WfHall T30 ts) (ht : t ∈ ts) {r q : Nat} : t.name ∈ (runL ts r q).map (fun x => x.t.name) ↔ ∃ x, runAt r q t = some x := by
  constructor
  · intro z
    obtain ⟨x, hx, ex⟩ := List.mem_map.mp z
    obtain ⟨u, hu, eu⟩ := List.mem_filterMap.mp hx
    have f1 := (pass_run w hu eu).1
    rw [f1] at ex
    rw [nameInj w.nd hu ht ex] at eu
    exact ⟨x, eu⟩
  · rintro ⟨x, hx⟩
    have f1 := (pass_run w ht hx).1
    refine List.mem_map.mpr ⟨x, List.mem_filterMap.mpr ⟨t, ht, hx⟩, by rw [f1]⟩
theorem vAt_tot (w : WfHall T30 ts) (ht : t ∈ ts) (n : Nat) {k : Nat} (hk : k < 10) (hr : t.rank = (k : Int) + 1) : totS ((vAt ts n).σ t.name) = (progL ts t (k + 1) (LB ts k n) (LB ts (k + 1) n)).2.2 := by
  have wt := w.tk t ht
  obtain ⟨p1, p2⟩ := pfold_at t.name (runL ts (k + 1) (LB ts (k + 1) n)) (ofs ts k n) (prog0 t (LB ts (k + 1) n)) (runL_nd w _ _)
  have ep : progL ts t (k + 1) (LB ts k n) (LB ts (k + 1) n) = pfold t.name (ofs ts k n) (prog0 t (LB ts (k + 1) n)) (runL ts (k + 1) (LB ts (k + 1) n)) := rfl
  rw [ep]
  have hr' : t.rank = ((k + 1 : Nat) : Int) := by rw [hr]; simp
  cases hx : runAt (k + 1) (LB ts (k + 1) n) t with
  | none =>
    have nm : t.name ∉ (runL ts (k + 1) (LB ts (k + 1) n)).map fun x => x.t.name := fun z => by
      obtain ⟨x, e⟩ := (runMem w ht).mp z
      rw [hx] at e
      cases e
    rw [p2 nm, vAt_no w ht n hk hr hx]
    simp only [totS, prog0]
    rcases Nat.eq_zero_or_pos (LB ts (k + 1) n) with hq | hq
    · rw [hq, if_pos rfl]
      simp [cnt, acc]
    · rw [if_neg (by omega), len2_z wt.pos2]
      have e : cnt t.pre t.cyc (LB ts (k + 1) n) = cnt t.pre t.cyc (LB ts (k + 1) n - 1) := by
        obtain ⟨m, hm⟩ : ∃ m, LB ts (k + 1) n = m + 1 := ⟨LB ts (k + 1) n - 1, by omega⟩
        rw [hm] at hx ⊢
        rw [Nat.add_sub_cancel]
        by_cases h : acc (·.1) t.pre t.cyc (cnt t.pre t.cyc m + 1) ≤ ((m + 1 : Nat) : Int)
        · exfalso
          have e : cnt t.pre t.cyc (m + 1) = cnt t.pre t.cyc m + 1 := by rw [cnt, if_pos h]
          have c2 := (cnt_at wt.pos1 m).2
          unfold runAt at hx
          rw [if_pos ⟨hr', by omega, by rw [e]; omega⟩] at hx
          cases hx
        · rw [cnt, if_neg h]
      rw [e]
      simp
  | some x =>
    obtain ⟨e1, e2, e3, e4, e5⟩ := pass_run w ht hx
    have hm : x ∈ runL ts (k + 1) (LB ts (k + 1) n) := List.mem_filterMap.mpr ⟨t, ht, hx⟩
    have lp := runL_pos w hm
    rw [p1 x hm (by rw [e1]), vAt_run w ht n hk hr hx]
    have hq : 0 < LB ts (k + 1) n := by
      rcases Nat.eq_zero_or_pos (LB ts (k + 1) n) with z | z
      · rw [z] at e4
        simp [cnt] at e4
      · exact z
    have ec : cnt t.pre t.cyc (LB ts (k + 1) n - 1) = x.i := by
      obtain ⟨m, hm⟩ : ∃ m, LB ts (k + 1) n = m + 1 := ⟨LB ts (k + 1) n - 1, by omega⟩
      rw [hm] at e4 e5 ⊢
      rw [Nat.add_sub_cancel]
      by_cases h : acc (·.1) t.pre t.cyc (cnt t.pre t.cyc m + 1) ≤ ((m + 1 : Nat) : Int)
      · have e : cnt t.pre t.cyc (m + 1) = cnt t.pre t.cyc m + 1 := by rw [cnt, if_pos h]
        omega
      · exfalso
        have e : cnt t.pre t.cyc (m + 1) = cnt t.pre t.cyc m := by rw [cnt, if_neg h]
        have := (cnt_at wt.pos1 m).1
        rw [e4, e] at e5
        omega
    have e0 : (prog0 t (LB ts (k + 1) n)).2.2 = acc (·.2) t.pre t.cyc x.i := by
      simp only [prog0]
      rw [if_neg (by omega), len2_z wt.pos2, ec]
    rw [e0]
    generalize offT t.name (ofs ts k n) (runL ts (k + 1) (LB ts (k + 1) n)) = o
    dsimp only
    split
    · simp only [totS]
      split <;> split <;> omega
    · simp only [totS, acc_s (·.2) t.pre t.cyc x.i]
      split <;> split <;> omega
end
end HR
set_option Elab.async false
set_option linter.all false
set_option maxRecDepth 20000
set_option exponentiation.threshold 5000
set_option Elab.async false
set_option linter.all false
set_option maxRecDepth 20000
set_option exponentiation.threshold 5000
set_option Elab.async false
set_option linter.all false
set_option maxRecDepth 20000
set_option exponentiation.threshold 5000
namespace HR
open PySem L2
/-! ### a value equals itself -/
def EqOk (k : Nat) (d : D) : Prop := ∃ p : PyData, (∀ get, pyG get d = some p) ∧ p.canLay0 = true ∧ p.depth ≤ k
def EqOks (k : Nat) (ds : List D) : Prop := ∃ ps : List PyData, (∀ get, pyGL get ds = some ps) ∧ PyData.canLayAll0 ps = true ∧ PyData.depthAll ps ≤ k
theorem EqOk.mono {k m : Nat} {d : D} (e : EqOk k d) (h : k ≤ m) : EqOk m d := by
  obtain ⟨p, a, b, c⟩ := e
  exact ⟨p, a, b, by omega⟩
theorem eqOk_int (i : Int) : EqOk 0 (.int i) := ⟨.int i, fun _ => rfl, rfl, Nat.le_refl _⟩
theorem eqOk_non : EqOk 0 .non := ⟨.none, fun _ => rfl, rfl, Nat.le_refl _⟩
theorem eqOk_str {x : Str} (h : PyData.strOk x = true) : EqOk 0 (.str x) := ⟨.str x, fun _ => rfl, h, Nat.le_refl _⟩
theorem eqOks_nil (k : Nat) : EqOks k [] := ⟨[], fun _ => rfl, rfl, Nat.zero_le _⟩
theorem eqOks_cons {k : Nat} {d : D} {ds : List D} (a : EqOk k d) (b : EqOks k ds) : EqOks k (d :: ds) := by
  obtain ⟨p, a1, a2, a3⟩ := a
  obtain ⟨ps, b1, b2, b3⟩ := b
  exact ⟨p :: ps, fun get => by simp [pyGL, a1, b1], by simp [PyData.canLayAll0, a2, b2], by simp only [PyData.depthAll]; omega⟩
theorem eqOks_all {k : Nat} : ∀ {ds : List D}, (∀ d ∈ ds, EqOk k d) → EqOks k ds
  | [], _ => eqOks_nil k
  | d :: ds, h => eqOks_cons (h d List.mem_cons_self) (eqOks_all fun x hx => h x (List.mem_cons_of_mem _ hx))
theorem eqOk_lst {k : Nat} {ds : List D} (e : EqOks k ds) : EqOk (k + 1) (.lst ds) := by
  obtain ⟨ps, b1, b2, b3⟩ := e
  exact ⟨.list ps, fun get => by simp [pyG, b1], b2, by simp only [PyData.depth]; omega⟩
theorem eqOk_tup {k : Nat} {ds : List D} (e : EqOks k ds) : EqOk (k + 1) (.tup ds) := by
  obtain ⟨ps, b1, b2, b3⟩ := e
  exact ⟨.tuple ps, fun get => by simp [pyG, b1], b2, by simp only [PyData.depth]; omega⟩
theorem W_eqRf {k : Nat} {d : D} (e : EqOk k d) (hk : k ≤ 64) (neg : Bool) (h : OH) {PD : D → OH → Prop} : (opEq neg d d h).W PD = PD (.bl (!neg)) h := by
  obtain ⟨p, g, l, dp⟩ := e
  have sh : SeqAt.shaped p = true := by simp [SeqAt.shaped, l]; omega
  have e := SeqAt.eqv_refl _ l
  simp only [opEq, pyAt, g, sh, e, Bool.and_self, if_true]
  cases neg <;> rfl
end HR
set_option Elab.async false
set_option linter.all false
set_option maxRecDepth 20000
set_option exponentiation.threshold 5000
set_option Elab.async false
set_option linter.all false
set_option maxRecDepth 20000
set_option exponentiation.threshold 5000
namespace HR
open PySem L2
theorem Sb.app {n : Nat} {f : Nat → Tk} {h : OH} (s : Sb n f h) (l : OH) : Sb n f (h ++ l) := by
  have g : ∀ (i : Nat) o, h[i]? = some o → (h ++ l)[i]? = some o := fun i o e => by rw [List.getElem?_append_left (List.getElem?_eq_some_iff.mp e).1]; exact e
  exact ⟨fun m hm => g _ _ (s.pre m hm), fun m hm => g _ _ (s.cyc m hm), fun m hm => g _ _ (s.tk m hm)⟩
end HR
set_option Elab.async false
set_option linter.all false
set_option maxRecDepth 20000
set_option exponentiation.threshold 5000
namespace HR
open PySem L2
/-! ### how long the repr of many may be: a sum -/
def Rps (k : Nat) : List D → Nat → Prop
  | [], _ => True
  | d :: ds, n => ∃ a m, Rp d k a ∧ Rps k ds m ∧ a + 2 + m ≤ n
theorem Rps.py {k : Nat} : ∀ {ds : List D} {n : Nat}, Rps k ds n → ∃ ps, (∀ get, pyRL get ds = some ps) ∧ PyData.showableAll ps = true ∧ PyData.depthAll ps ≤ k ∧ ∀ (j : Nat) (acc : Str), (textFrom j acc (PyData.shownAll ps)).length ≤ acc.length + n
  | [], n, _ => ⟨[], fun _ => rfl, rfl, Nat.zero_le _, fun j acc => by simp [PyData.shownAll, textFrom]⟩
  | d :: ds, n, ⟨a, m, h1, h2, h3⟩ => by
    obtain ⟨p, a1, b1, c1, e1⟩ := h1
    obtain ⟨ps, a2, b2, c2, e2⟩ := h2.py
    refine ⟨p :: ps, fun get => by simp [pyRL, a1 get, a2 get], by simp [PyData.showableAll, b1, b2], by simp only [PyData.depthAll]; omega, fun j acc => ?_⟩
    simp only [PyData.shownAll, textFrom]
    refine Nat.le_trans (e2 _ _) ?_
    have e : (acc ++ (if j > 0 then ", " else "" : String) ++ p.shown).length ≤ acc.length + 2 + p.shown.length := by
      rw [strLen_append, strLen_append]
      split <;> simp only [Nat.add_le_add_iff_right, Nat.add_le_add_iff_left] <;> decide
    omega
/-! ### the values of the law -/
end HR
set_option Elab.async false
set_option linter.all false
set_option maxRecDepth 20000
set_option exponentiation.threshold 5000
set_option Elab.async false
set_option linter.all false
set_option maxRecDepth 20000
set_option exponentiation.threshold 5000
namespace HR
open PySem L2
/-! ### a live hall shows the law's own model -/
theorem rp_nat {n : Nat} (h : n < 2 ^ 400) : Rp (.int n) 0 401 := rp_int (k := 400) (by decide) (by decide) (by show (n : Int).natAbs < 2 ^ 400; omega)
end HR
set_option Elab.async false
set_option linter.all false
set_option maxRecDepth 20000
set_option exponentiation.threshold 5000
set_option Elab.async false
set_option linter.all false
set_option maxRecDepth 20000
set_option exponentiation.threshold 5000
namespace HR
open PySem L2
/-! ### live halls and models, with what is around them -/
section
variable {h h' : OH} {F F2 S : Nat → Prop} {L m s q : Nat} {qa : Nat → Nat} {A : Str → Nat} {v : LV} {hist : List D} {past : List LV}
theorem Live.lt (l : Live h F L v hist past) : ∀ j, F j → j < h.length := by
  obtain ⟨C, G, s, q, ps, po, qa, A, pss, l, f1, f2, f3, f4, f5, f6⟩ := l
  exact f6
theorem Live.len (l : Live h F L v hist past) : hist.length = past.length := by
  obtain ⟨C, G, s, q, ps, po, qa, A, pss, l, f1, f2, f3, f4, f5, f6⟩ := l
  exact l.lenh
theorem Live.keepP (l : Live h F L v hist past) (c : ChP S h h') (n : ∀ j, F j → ¬ S j) : Live h' F L v hist past := l.keep c.1 fun j hj => c.2 j (l.lt j hj) (n j hj)
theorem Md.keepP (M : Md h F m s q qa A v) (c : ChP S h h') (n : ∀ j, F j → ¬ S j) : Md h' F m s q qa A v := M.keep c.1 fun j hj => c.2 j (M.fl j hj) (n j hj)
theorem copAdv (n : Nat) (g : OH) : pureF Sh.copied_operation [opAdv n] g = .ok (opAdv n) g := by
  refine pure_eq g (by simp [opAdv]) (by simp [opAdv]) ?_
  unfold Sh.copied_operation; rw [W_fn]; unfold Sh.copied_operation_b
  have e := fun (PD : D → OH → Prop) => W_eqS (PD := PD) true "advance" "add_talker" [] (by kernel_rfl) (by kernel_rfl)
  have ne : (("advance" : Str) == ("add_talker" : Str)) = false := by decide
  rw [ne] at e
  simp [opAdv, atI, e]
theorem rp_adv {n : Nat} (h : n < 2 ^ 400) : Rp (opAdv n) 1 809 := by
  refine (rp_tup (k := 0) (n := 401) fun d hd => ?_).mono (by decide) (by simp only [List.length_cons, List.length_nil]; decide)
  simp only [List.mem_cons, List.not_mem_nil, or_false] at hd
  rcases hd with rfl | rfl
  · exact (rp_str (x := "advance") (by decide)).mono (by decide) (by decide)
  · exact rp_nat h
end
end HR
set_option Elab.async false
set_option linter.all false
set_option maxRecDepth 20000
namespace HR
open PySem L2
/-! ### live halls changed (maths) -/
def St.fresh (t : Tk) : St := ⟨t.pre, t.cyc, 0, false, 0, 0⟩
end HR
set_option Elab.async false
set_option linter.all false
set_option maxRecDepth 20000
set_option Elab.async false
set_option linter.all false
set_option maxRecDepth 20000
namespace HR
open PySem L2
def BegL (f : Str → Nat) (l : List Str) : Prop := l = l.filter (fun x => decide (0 < f x)) ++ l.filter (fun x => decide (f x = 0))
theorem BegL.congr {f g : Str → Nat} {l : List Str} (b : BegL f l) (h : ∀ x ∈ l, g x = f x) : BegL g l := by
  unfold BegL at *
  have e1 : l.filter (fun x => decide (0 < g x)) = l.filter (fun x => decide (0 < f x)) := List.filter_congr fun x hx => by rw [h x hx]
  have e2 : l.filter (fun x => decide (g x = 0)) = l.filter (fun x => decide (f x = 0)) := List.filter_congr fun x hx => by rw [h x hx]
  rw [e1, e2]
  exact b
theorem BegL.cons {f : Str → Nat} {i : Str} {q : List Str} (b : BegL f q) (c : 0 < f i) : BegL f (i :: q) := by
  unfold BegL at *
  rw [List.filter_cons_of_pos (by simpa using c), List.filter_cons_of_neg (by simp; omega), List.cons_append, ← b]
theorem BegL.filter {f : Str → Nat} {l : List Str} (b : BegL f l) (p : Str → Bool) : BegL f (l.filter p) := by
  unfold BegL at *
  conv => lhs; rw [b]
  rw [List.filter_append, List.filter_filter, List.filter_filter, List.filter_filter, List.filter_filter]
  congr 1
  · exact List.filter_congr fun x _ => by rw [Bool.and_comm]
  · exact List.filter_congr fun x _ => by rw [Bool.and_comm]
end HR
set_option Elab.async false
set_option linter.all false
set_option maxRecDepth 20000
set_option exponentiation.threshold 5000
set_option Elab.async false
set_option linter.all false
set_option maxRecDepth 20000
set_option exponentiation.threshold 5000
set_option Elab.async false
set_option linter.all false
set_option maxRecDepth 20000
set_option exponentiation.threshold 5000
set_option Elab.async false
set_option linter.all false
set_option maxRecDepth 20000
set_option exponentiation.threshold 5000
set_option Elab.async false
set_option linter.all false
set_option maxRecDepth 20000
set_option exponentiation.threshold 5000
set_option Elab.async false
set_option linter.all false
set_option maxRecDepth 20000
set_option exponentiation.threshold 5000
namespace HR
open PySem L2
def SP : Str := " "
end HR
set_option Elab.async false
set_option linter.all false
set_option maxRecDepth 20000
set_option exponentiation.threshold 5000
set_option Elab.async false
set_option linter.all false
set_option maxRecDepth 20000
namespace HR
open PySem L2
/-! ### the reel of laws 21 to 41: draw, talks, halls -/
abbrev RM : Int := 170141183460469231731687303715884105727
structure RlS (gs ms : List Int) (c s : Int) : Prop where
  g0 : ∀ g ∈ gs, 0 ≤ g
  gl : gs.length ≤ 63
  mn : ms ≠ []
  ml : ms.length ≤ 64
  m0 : ∀ x ∈ ms, 0 ≤ x ∧ x < 1000003
  c0 : 0 ≤ c
  s0 : 0 ≤ s
  s1 : s < RM
def rlD (gs ms : List Int) (c s : Int) : OO := .lst [.lst (gs.map D.int), .lst (ms.map D.int), .int c, .int s]
/-- the reel at i -/
def Rl (h : OH) (i : Nat) : Prop := ∃ (gs ms : List Int) (c s : Int), h[i]? = some (rlD gs ms c s) ∧ RlS gs ms c s
theorem Rl.lt {h : OH} {i : Nat} (s : Rl h i) : i < h.length := by
  obtain ⟨a, b, c, d, e, _⟩ := s
  exact (List.getElem?_eq_some_iff.mp e).1
theorem Rl.app {h : OH} {i : Nat} (s : Rl h i) (t : OH) : Rl (h ++ t) i := by
  have := s.lt
  obtain ⟨a, b, c, d, e, r⟩ := s
  exact ⟨a, b, c, d, by rw [List.getElem?_append_left this]; exact e, r⟩
theorem Rl.set {h : OH} {i j : Nat} (s : Rl h i) (n : j ≠ i) (o : OO) : Rl (h.set j o) i := by
  obtain ⟨a, b, c, d, e, r⟩ := s
  exact ⟨a, b, c, d, by rw [List.getElem?_set_ne n]; exact e, r⟩
end HR
set_option Elab.async false
set_option linter.all false
set_option maxRecDepth 20000
set_option exponentiation.threshold 5000
namespace HR
open PySem L2
/-! ### lists and tuples exchanged at random, over the reel -/
def Rrs (j i : Nat) (x : D) (R : D → Prop) : Prop := ∀ (h : OH) (P : D → OH → Prop), Rl h i → (∀ d h', R d → Rl h' i → Chg i h h' → P d h') → (Sh.l_dressed_1_n j [.ref i, x] h).W P
theorem Rrs.mono {j i : Nat} {x : D} {R R' : D → Prop} (a : Rrs j i x R) (q : ∀ d, R d → R' d) : Rrs j i x R' := fun h P s z => a h P s fun d h' r => z d h' (q d r)
end HR
set_option Elab.async false
set_option linter.all false
set_option maxRecDepth 20000
set_option Elab.async false
set_option linter.all false
set_option maxRecDepth 20000
set_option exponentiation.threshold 5000
namespace HR
open PySem L2
/-! ### law k36: the program's own copies of talkers -/
def rk (r : D) (t : Tk) : Int := match r with
  | .int v => v
  | _ => t.rank
/-- the copy of t whose lists stand at b and b + 1 -/
def oTk (name : Str) (r : Int) (b : Nat) : D := .tup [.str name, .int r, .ref b, .ref (b + 1)]
def oLs (t : Tk) : OH := [.lst (t.pre.map dT), .lst (t.cyc.map dT)]
theorem DrTs.all {d : D} {ts : List (Int × Int)} (r : DrTs d ts) : ∃ xs, sqD d = some xs ∧ AllR DrT xs ts := r
end HR
set_option Elab.async false
set_option linter.all false
set_option maxRecDepth 20000
set_option exponentiation.threshold 5000
namespace HR
open PySem L2
/-- copies of talkers, the first with its lists at b -/
def oTks : List Tk → Nat → List D
  | [], _ => []
  | t :: ts, b => oTk t.name t.rank b :: oTks ts (b + 2)
end HR
set_option Elab.async false
set_option linter.all false
set_option maxRecDepth 20000
set_option exponentiation.threshold 5000
set_option Elab.async false
set_option linter.all false
set_option maxRecDepth 20000
set_option exponentiation.threshold 5000
set_option Elab.async false
set_option linter.all false
set_option maxRecDepth 20000
set_option exponentiation.threshold 5000
namespace HR
open PySem L2
/-! ### halls that the caller owns, as they lie in the heap -/
structure HAt (h : OH) (j b : Nat) (ns : List Tk) : Prop where
  top : h[j]? = some (.lst (oTks ns b))
  in_ : ∀ i, i < 2 * ns.length → h[b + i]? = (ns.flatMap oLs)[i]?
def HOk (h : OH) (d : D) (ns : List Tk) (lo hi : Nat) : Prop := ∃ j b, d = .ref j ∧ HAt h j b ns ∧ lo ≤ b ∧ b + 2 * ns.length ≤ j ∧ j < hi
theorem HOk.frame {h h' : OH} {d : D} {ns : List Tk} {lo hi : Nat} (o : HOk h d ns lo hi) (k : ∀ i, lo ≤ i → i < hi → h'[i]? = h[i]?) : HOk h' d ns lo hi := by
  obtain ⟨j, b, e, a, l1, l2, l3⟩ := o
  exact ⟨j, b, e, ⟨by rw [k j (by omega) l3]; exact a.top, fun i hi => by rw [k (b + i) (by omega) (by omega)]; exact a.in_ i hi⟩, l1, l2, l3⟩
/-! ### what repr reads -/
theorem Rps.ok {n k : Nat} {ds : List D} (q : Rps k ds n) (hk : k + 1 ≤ 60) (hn : n + 2 ≤ big) : ∃ ps, (∀ get, pyRL get ds = some ps) ∧ reprOkX (.list ps) = true := by
  obtain ⟨ps, a, b, c, e⟩ := q.py
  refine ⟨ps, a, ?_⟩
  have t := e 0 (("[" : String) : Str)
  have l1 : (("[" : String) : Str).length = 1 := rfl
  have l2 : (("]" : String) : Str).length = 1 := rfl
  have d1 : (PyData.list ps).depth ≤ 60 := by
    simp only [PyData.depth]
    omega
  have d2 : (PyData.list ps).shown.length ≤ big := by
    simp only [PyData.shown]
    unfold listText
    rw [strLen_append]
    omega
  have d3 : (PyData.list ps).showable = true := by simp only [PyData.showable, b]
  simp only [reprOkX, d3, Bool.true_and, Bool.and_eq_true, decide_eq_true_eq]
  exact ⟨d1, d2⟩
/-! ### several halls, one behind the other; f, f + 1 are none of theirs -/
def Fnd (h : OH) (f : Nat) : Nat → List D → List (List Tk) → Prop
  | lo, [], [] => lo ≤ h.length
  | lo, d :: ds, ns :: nss => ∃ l1 hi, HOk h d ns l1 hi ∧ (hi ≤ f ∨ f + 1 < l1) ∧ lo ≤ l1 ∧ l1 ≤ hi ∧ Fnd h f hi ds nss
  | _, _, _ => False
theorem Fnd.le {h : OH} {f : Nat} : ∀ {ds : List D} {nss : List (List Tk)} {lo : Nat}, Fnd h f lo ds nss → lo ≤ h.length
  | [], [], _, r => r
  | d :: ds, ns :: nss, _, ⟨_, hi, _, _, l1, l2, r⟩ => Nat.le_trans (Nat.le_trans l1 l2) r.le
  | [], _ :: _, _, r => r.elim
  | _ :: _, [], _, r => r.elim
theorem Fnd.frame {h h' : OH} {f : Nat} (hl : h.length ≤ h'.length) : ∀ {ds : List D} {nss : List (List Tk)} {lo : Nat}, Fnd h f lo ds nss → (∀ i, lo ≤ i → i < h.length → i ≠ f → i ≠ f + 1 → h'[i]? = h[i]?) → Fnd h' f lo ds nss
  | [], [], _, r, k => Nat.le_trans r hl
  | d :: ds, ns :: nss, _, ⟨l1, hi, a, b, q1, q2, r⟩, k => by
    have := r.le
    exact ⟨l1, hi, a.frame fun i h1 h2 => k i (by omega) (by omega) (by omega) (by omega), b, q1, q2, r.frame hl fun i h1 h2 => k i (by omega) h2⟩
  | [], _ :: _, _, r, _ => r.elim
  | _ :: _, [], _, r, _ => r.elim
theorem Fnd.len {h : OH} {f : Nat} : ∀ {ds : List D} {nss : List (List Tk)} {lo : Nat}, Fnd h f lo ds nss → ds.length = nss.length
  | [], [], _, _ => rfl
  | d :: ds, ns :: nss, _, ⟨_, hi, _, _, _, _, r⟩ => by simp [r.len]
  | [], _ :: _, _, r => r.elim
  | _ :: _, [], _, r => r.elim
theorem Fnd.drop {h : OH} {f : Nat} : ∀ {ds : List D} {nss : List (List Tk)} {lo : Nat} (k : Nat) (d : D), Fnd h f lo ds nss → ds[k]? = some d → ∃ ns l1 hi, nss[k]? = some ns ∧ HOk h d ns l1 hi ∧ (hi ≤ f ∨ f + 1 < l1) ∧ lo ≤ l1 ∧ l1 ≤ hi ∧ Fnd h f hi (ds.drop (k + 1)) (nss.drop (k + 1))
  | d' :: ds, ns :: nss, _, 0, d, ⟨l1, hi, a, b, q1, q2, r⟩, e => by
    simp at e
    subst e
    exact ⟨ns, l1, hi, rfl, a, b, q1, q2, r⟩
  | d' :: ds, ns :: nss, _, k + 1, d, ⟨l1, hi, a, b, q1, q2, r⟩, e => by
    obtain ⟨n2, l2, hi2, e2, a2, b2, c1, c2, r2⟩ := r.drop k d (by simpa using e)
    exact ⟨n2, l2, hi2, by simpa using e2, a2, b2, by omega, c2, r2⟩
  | [], [], _, _, _, _, e => by simp at e
  | [], _ :: _, _, _, _, r, _ => r.elim
  | _ :: _, [], _, _, _, r, _ => r.elim
end HR
set_option Elab.async false
set_option linter.all false
set_option maxRecDepth 20000
set_option exponentiation.threshold 5000
namespace HR
open PySem L2
/-! ### law k36: its own parts -/
def RI (rs : List Int) (d : D) : Prop := sqD d = some (rs.map D.int) ∧ szD d = true ∧ Rp d 1 100
/-! ### spoiling a returned hall -/
end HR
set_option Elab.async false
set_option linter.all false
set_option maxRecDepth 20000
set_option exponentiation.threshold 5000
set_option Elab.async false
set_option linter.all false
set_option maxRecDepth 20000
set_option exponentiation.threshold 5000
namespace HR
open PySem L2
/-! ### law k35: halls that are read, frozen or own -/
def Gro (h0 h : OH) : Prop := h0.length ≤ h.length ∧ ∀ i, i < h0.length → h[i]? = h0[i]?
theorem Gro.refl (h : OH) : Gro h h := ⟨Nat.le_refl _, fun _ _ => rfl⟩
theorem Gro.trans {a b c : OH} (x : Gro a b) (y : Gro b c) : Gro a c := ⟨Nat.le_trans x.1 y.1, fun i hi => by rw [y.2 i (Nat.lt_of_lt_of_le hi x.1), x.2 i hi]⟩
theorem Gro.app (h t : OH) : Gro h (h ++ t) := ⟨by simp, fun i hi => List.getElem?_append_left hi⟩
theorem Gro.set {a h : OH} (x : Gro a h) {i : Nat} (o : OO) (hi : a.length ≤ i) : Gro a (h.set i o) := ⟨by simp [x.1], fun k hk => by rw [List.getElem?_set_ne (by omega)]; exact x.2 k hk⟩
theorem Gro.get {a b : OH} (x : Gro a b) {i : Nat} {o : OO} (e : a[i]? = some o) : b[i]? = some o := by
  rw [x.2 i (List.getElem?_eq_some_iff.mp e).1]
  exact e
/-- d is walked over: xs -/
def ItX (h : OH) (d : D) (xs : List D) : Prop := sqD d = some xs ∨ ∃ j, d = .ref j ∧ h[j]? = some (.lst xs)
/-! ### talkers -/
def PtX (h : OH) (a : D) (ts : List (Int × Int)) : Prop := ∃ xs, ItX h a xs ∧ AllR DrT xs ts
def RdT (h : OH) (x : D) (t : Tk) : Prop := ∃ a b, sqD x = some [.str t.name, .int t.rank, a, b] ∧ PtX h a t.pre ∧ PtX h b t.cyc
theorem drT_map (ts : List (Int × Int)) : AllR DrT (ts.map dT) ts := ⟨by simp, fun k x hx => by
  rw [List.getElem?_map, Option.map_eq_some_iff] at hx
  obtain ⟨p, hp, rfl⟩ := hx
  exact ⟨p, hp, rfl⟩⟩
theorem RdT.frz {h : OH} {x : D} {t : Tk} : DrTk x t → RdT h x t := fun ⟨a, b, e, ⟨xa, ea, ra⟩, ⟨xb, eb, rb⟩⟩ => ⟨a, b, e, ⟨xa, .inl ea, ra⟩, ⟨xb, .inl eb, rb⟩⟩
theorem RdT.own {h : OH} {t : Tk} {b : Nat} (g1 : h[b]? = some (.lst (t.pre.map dT))) (g2 : h[b + 1]? = some (.lst (t.cyc.map dT))) : RdT h (oTk t.name t.rank b) t := ⟨_, _, rfl, ⟨_, .inr ⟨_, rfl, g1⟩, drT_map _⟩, ⟨_, .inr ⟨_, rfl, g2⟩, drT_map _⟩⟩
/-! ### members that the law's halls make -/
/-- the parts of an instance at i, h before it -/
def InsAt (h : OH) (C : String) (h' : OH) (fs : List (String × D)) : Prop := Gro h h' ∧ h'[h.length]? = some (.ins C fs)
theorem InsAt.start (h : OH) (C : String) : InsAt h C (h ++ [.ins C []]) [] := ⟨Gro.app _ _, by simp⟩
end HR
set_option Elab.async false
set_option linter.all false
set_option maxRecDepth 20000
set_option exponentiation.threshold 5000
namespace HR
open PySem L2
/-! ### own halls anywhere in the heap -/
def oTz (ns : List Tk) (bs : List Nat) : List D := List.zipWith (fun t b => oTk t.name t.rank b) ns bs
theorem oTz_at {ns : List Tk} {bs : List Nat} {k : Nat} {t : Tk} {b : Nat} (e1 : ns[k]? = some t) (e2 : bs[k]? = some b) : (oTz ns bs)[k]? = some (oTk t.name t.rank b) := by
  simp [oTz, List.getElem?_zipWith, e1, e2]
structure HAz (h : OH) (j : Nat) (bs : List Nat) (ns : List Tk) : Prop where
  len : bs.length = ns.length
  top : h[j]? = some (.lst (oTz ns bs))
  in_ : ∀ (k : Nat) t b, ns[k]? = some t → bs[k]? = some b → h[b]? = some (.lst (t.pre.map dT)) ∧ h[b + 1]? = some (.lst (t.cyc.map dT))
theorem HAz.at {h : OH} {j : Nat} {bs : List Nat} {ns : List Tk} (a : HAz h j bs ns) {k : Nat} {t : Tk} (e : ns[k]? = some t) : ∃ b, bs[k]? = some b ∧ (oTz ns bs)[k]? = some (oTk t.name t.rank b) ∧ h[b]? = some (.lst (t.pre.map dT)) ∧ h[b + 1]? = some (.lst (t.cyc.map dT)) := by
  have hk := (List.getElem?_eq_some_iff.mp e).1
  have l := a.len
  have e2 : bs[k]? = some bs[k] := List.getElem?_eq_getElem (by omega)
  exact ⟨_, e2, oTz_at e e2, a.in_ k t _ e e2⟩
/-! ### own_hall -/
def bsq (b n : Nat) : List Nat := (List.range n).map fun k => b + 2 * k
@[simp] theorem bsq_len (b n : Nat) : (bsq b n).length = n := by simp [bsq]
end HR
set_option Elab.async false
set_option linter.all false
set_option maxRecDepth 20000
set_option exponentiation.threshold 5000
namespace HR
open PySem L2
/-! ### what with_talker and without_talker return -/
def HOz (h : OH) (d : D) (ns : List Tk) (lo hi : Nat) : Prop := ∃ j bs, d = .ref j ∧ HAz h j bs ns ∧ (∀ b ∈ bs, lo ≤ b ∧ b + 1 < hi ∧ b ≠ j ∧ b + 1 ≠ j) ∧ lo ≤ j ∧ j < hi
theorem HOz.frame {h h' : OH} {d : D} {ns : List Tk} {lo hi : Nat} (o : HOz h d ns lo hi) (k : ∀ i, lo ≤ i → i < hi → h'[i]? = h[i]?) : HOz h' d ns lo hi := by
  obtain ⟨j, bs, e, a, l1, l2, l3⟩ := o
  refine ⟨j, bs, e, ⟨a.len, by rw [k j l2 l3]; exact a.top, fun m t b e1 e2 => ?_⟩, l1, l2, l3⟩
  obtain ⟨p, q⟩ := a.in_ m t b e1 e2
  obtain ⟨c1, c2, _⟩ := l1 b (List.mem_of_getElem? e2)
  exact ⟨by rw [k b (by omega) (by omega)]; exact p, by rw [k (b + 1) (by omega) (by omega)]; exact q⟩
end HR
set_option Elab.async false
set_option linter.all false
set_option maxRecDepth 20000
set_option exponentiation.threshold 5000
set_option Elab.async false
set_option linter.all false
set_option maxRecDepth 20000
set_option exponentiation.threshold 5000
set_option Elab.async false
set_option linter.all false
set_option maxRecDepth 20000
set_option exponentiation.threshold 5000
namespace HR
open PySem L2
/-! ### law k54: its own halls -/
/-- only i is changed, nothing is new -/
def Chl (i : Nat) (h h' : OH) : Prop := h'.length = h.length ∧ ∀ j, j ≠ i → h'[j]? = h[j]?
theorem Chl.refl (i : Nat) (h : OH) : Chl i h h := ⟨rfl, fun _ _ => rfl⟩
theorem Chl.set (i : Nat) (h : OH) (o : OO) : Chl i h (h.set i o) := ⟨by simp, fun j n => by rw [List.getElem?_set_ne (Ne.symm n)]⟩
theorem Chl.trans {i : Nat} {a b c : OH} (x : Chl i a b) (y : Chl i b c) : Chl i a c := ⟨by rw [y.1, x.1], fun j n => by rw [y.2 j n, x.2 j n]⟩
theorem Chl.get {i : Nat} {h h' : OH} (c : Chl i h h') {j : Nat} {o : OO} (e : h[j]? = some o) (n : j ≠ i) : h'[j]? = some o := by rw [c.2 j n]; exact e
/-- only i is changed of what was; n are new -/
def Chn (i n : Nat) (h h' : OH) : Prop := h'.length = h.length + n ∧ ∀ j, j < h.length → j ≠ i → h'[j]? = h[j]?
theorem Chn.trans {i n m : Nat} {a b c : OH} (x : Chn i n a b) (y : Chn i m b c) : Chn i (n + m) a c := ⟨by rw [y.1, x.1]; omega, fun j hj hn => by rw [y.2 j (by rw [x.1]; omega) hn, x.2 j hj hn]⟩
theorem Chn.get {i n : Nat} {h h' : OH} (c : Chn i n h h') {j : Nat} {o : OO} (e : h[j]? = some o) (hn : j ≠ i) : h'[j]? = some o := by
  rw [c.2 j (List.getElem?_eq_some_iff.mp e).1 hn]
  exact e
theorem Chn.app (i : Nat) (h t : OH) : Chn i t.length h (h ++ t) := ⟨by simp, fun j hj _ => List.getElem?_append_left hj⟩
theorem Chn.set {i n : Nat} {h h' : OH} (c : Chn i n h h') {j : Nat} (hj : h.length ≤ j) (o : OO) : Chn i n h (h'.set j o) := ⟨by rw [List.length_set]; exact c.1, fun k hk hn => by rw [List.getElem?_set_ne (by omega)]; exact c.2 k hk hn⟩
end HR
set_option Elab.async false
set_option linter.all false
set_option maxRecDepth 20000
set_option exponentiation.threshold 5000
set_option Elab.async false
set_option linter.all false
set_option maxRecDepth 20000
set_option exponentiation.threshold 5000
set_option Elab.async false
set_option linter.all false
set_option maxRecDepth 20000
set_option exponentiation.threshold 5000
set_option Elab.async false
set_option linter.all false
set_option maxRecDepth 20000
set_option exponentiation.threshold 5000
namespace HR
open PySem L2
section
variable {ns : List Int} {h : OH} {i c : Nat}
/-- a hall as it is passed: an own list, or a tuple -/
def PasH (h : OH) (n0 : Nat) (d : D) (ts : List Tk) : Prop := ∃ ys, AllR (fun y t => RTk t y) ys ts ∧ ((∃ j, n0 ≤ j ∧ d = .ref j ∧ h[j]? = some (.lst ys)) ∨ d = .tup ys)
end
end HR
set_option Elab.async false
set_option linter.all false
set_option maxRecDepth 20000
set_option exponentiation.threshold 5000
set_option Elab.async false
set_option linter.all false
set_option maxRecDepth 20000
set_option exponentiation.threshold 5000
namespace HR
open PySem L2
/-! ### a live hall, the law's model, the calls and the bag, apart from each other -/
structure T47 (ns : List Int) (h : OH) (i c L m cal : Nat) (v w : LV) (hist hc : List D) (past : List LV) : Prop where
  fr : ∃ F F2 s q qa A, Live h F L v hist past ∧ Md h F2 m s q qa A w ∧ ¬ F i ∧ ¬ F2 i ∧ ¬ F cal ∧ ¬ F2 cal ∧ ∀ j, F j → ¬ F2 j
  bag : Bag ns h i c
  isCal : h[cal]? = some (.lst hc)
  ne : i ≠ cal
theorem Bag.keepP {ns : List Int} {h h' : OH} {i c : Nat} {S : Nat → Prop} (b : Bag ns h i c) (k : ChP S h h') (n : ¬ S i) : Bag ns h' i c := by
  have := b.lt
  obtain ⟨p, r, m, t, e, q⟩ := b
  exact ⟨p, r, m, t, (k.2 i this n).trans e, q⟩
section
variable {ns : List Int} {h h' : OH} {i c L m cal : Nat} {v w : LV} {hist hc : List D} {past : List LV}
theorem T47.kept (t : T47 ns h i c L m cal v w hist hc past) (k : Kept h h') : T47 ns h' i c L m cal v w hist hc past := by
  obtain ⟨⟨F, F2, s, q, qa, A, l, M, n1, n2, n3, n4, n5⟩, bag, ca, ne⟩ := t
  exact ⟨⟨F, F2, s, q, qa, A, l.keep k.1 fun j hj => k.2 j (l.lt j hj), M.keep k.1 fun j hj => k.2 j (M.fl j hj), n1, n2, n3, n4, n5⟩, bag.keepP (ChP.ofKept (F := fun _ => False) k) (fun z => z), k.get ca, ne⟩
theorem T47.call (t : T47 ns h i c L m cal v w hist hc past) (xs : List D) : T47 ns (h.set cal (.lst xs)) i c L m cal v w hist xs past := by
  obtain ⟨⟨F, F2, s, q, qa, A, l, M, n1, n2, n3, n4, n5⟩, bag, ca, ne⟩ := t
  have lc := (List.getElem?_eq_some_iff.mp ca).1
  exact ⟨⟨F, F2, s, q, qa, A, l.keep (by simp) fun j hj => List.getElem?_set_ne (by intro z; subst z; exact n3 hj), M.keep (by simp) fun j hj => List.getElem?_set_ne (by intro z; subst z; exact n4 hj), n1, n2, n3, n4, n5⟩, bag.set (Ne.symm ne) _, List.getElem?_set_self lc, ne⟩
theorem T47.live (t : T47 ns h i c L m cal v w hist hc past) : ∃ F, Live h F L v hist past := by
  obtain ⟨⟨F, F2, s, q, qa, A, l, M, n1, n2, n3, n4, n5⟩, bag, ca, ne⟩ := t
  exact ⟨F, l⟩
end
/-- the state after some steps -/
structure O47 (v : LV) (hist : List D) (n : Nat) : Prop where
  ok : LvOk v
  tk : v.tick ≤ 60 * n
  sl : v.sil ≤ v.tick
  ln : hist.length = n
  cp : ∀ d ∈ hist, (∀ g, pureF Sh.copied_operation [d] g = .ok d g) ∧ Rp d 1 809
theorem casc_left {ι : Type} [DecidableEq ι] (ss : Nat → List ι) : ∀ (rs : List Nat) (n : Nat) (x : Nat → RSt ι), (casc ss rs n x).2 ≤ n
  | [], _, _ => Nat.le_refl _
  | r :: rs, n, x => by
    simp only [casc]
    exact Nat.le_trans (casc_left ss rs _ _) (runR_left _ _ _)
theorem O47.adv {v : LV} {hist : List D} {n x : Nat} (o : O47 v hist n) (hx : x ≤ 60) : O47 (v.adv x) (hist ++ [opAdv x]) (n + 1) := by
  refine ⟨o.ok.adv x, ?_, ?_, by simp [o.ln], fun d hd => ?_⟩
  · have := o.tk
    show v.tick + x ≤ _
    omega
  · have := o.sl
    have z : (v.ca x).2 ≤ x := casc_left v.at RK x v.x
    show v.sil + (v.ca x).2 ≤ v.tick + x
    omega
  · rcases List.mem_append.mp hd with hd | hd
    · exact o.cp d hd
    · have : d = opAdv x := by simpa using hd
      subst this
      refine ⟨copAdv x, rp_adv ?_⟩
      have : (60 : Nat) < 2 ^ 400 := by decide
      omega
theorem O47.new {ts : List Tk} (w : WfHall T30 ts) : O47 (LV.new ts) [] 0 := ⟨LV.new_ok w, Nat.le_refl _, Nat.le_refl _, rfl, fun d hd => absurd hd List.not_mem_nil⟩
end HR
set_option Elab.async false
set_option linter.all false
set_option maxRecDepth 20000
set_option exponentiation.threshold 5000
set_option Elab.async false
set_option linter.all false
set_option maxRecDepth 20000
set_option exponentiation.threshold 5000
namespace HR
open PySem L2
section
variable {ns : List Int} {h : OH} {i c : Nat}
theorem PasH.keep {h g : OH} {n0 : Nat} {d : D} {ts : List Tk} (p : PasH h n0 d ts) (k : ∀ j, j < h.length → g[j]? = h[j]?) : PasH g n0 d ts := by
  obtain ⟨ys, al, pd⟩ := p
  refine ⟨ys, al, ?_⟩
  rcases pd with ⟨j, hj, e, gg⟩ | e
  · exact .inl ⟨j, hj, e, (k j (List.getElem?_eq_some_iff.mp gg).1).trans gg⟩
  · exact .inr e
end
end HR
set_option Elab.async false
set_option linter.all false
set_option maxRecDepth 20000
set_option exponentiation.threshold 5000
set_option Elab.async false
set_option linter.all false
set_option maxRecDepth 20000
set_option exponentiation.threshold 5000
namespace HR
open PySem L2
/-! ### what the program tells of a hall at a tick is what a live hall tells there -/
section
variable {ts : List Tk} {t : Tk}
def mfold (nm : Str) : Int → List Run → Option (Nat × Int)
  | _, [] => none
  | off, x :: r => if x.t.name = nm ∧ off < x.len then some (x.i, x.len - (if 0 > off then 0 else off)) else mfold nm (off - x.len) r
def spO : Option Str → D
  | none => .non
  | some x => .str x
def dMst (sp : Option Str) (t : Tk) (q : Nat) : Option (Nat × Int) → D
  | some x => .tup [.str (if sp = some t.name then "speaking" else "ready"), .int x.1, .int x.2]
  | none => .tup [.str "silent", .int (cnt t.pre t.cyc q), .int (acc (·.1) t.pre t.cyc (cnt t.pre t.cyc q + 1) - q)]
theorem mfold_at (nm : Str) : ∀ (L : List Run) (off : Int), (L.map fun x => x.t.name).Nodup →
    (∀ x ∈ L, x.t.name = nm → mfold nm off L = if offT nm off L < x.len then some (x.i, x.len - (if 0 > offT nm off L then 0 else offT nm off L)) else none) ∧ (nm ∉ (L.map fun x => x.t.name) → mfold nm off L = none)
  | [], _, _ => ⟨fun x hx => (nomatch hx), fun _ => rfl⟩
  | y :: r, off, nd => by
    rw [List.map_cons, List.nodup_cons] at nd
    obtain ⟨i1, i2⟩ := mfold_at nm r (off - y.len) nd.2
    refine ⟨fun x hx hn => ?_, fun hn => ?_⟩
    · rw [mfold]
      by_cases c : y.t.name = nm
      · have nr : nm ∉ r.map fun x => x.t.name := by rw [← c]; exact nd.1
        have ex : x = y := by
          rcases List.mem_cons.mp hx with z | z
          · exact z
          · exact absurd (by rw [← hn]; exact List.mem_map_of_mem (f := fun x : Run => x.t.name) z) nr
        subst ex
        rw [i2 nr, offT, if_pos c]
        by_cases d : off < x.len
        · rw [if_pos ⟨c, d⟩, if_pos d]
        · rw [if_neg (fun z => d z.2), if_neg d]
      · have hx' : x ∈ r := by
          rcases List.mem_cons.mp hx with z | z
          · exact absurd (z ▸ hn) c
          · exact z
        rw [i1 x hx' hn, if_neg (fun z => c z.1), offT, if_neg c]
    · rw [List.map_cons, List.mem_cons, not_or] at hn
      rw [mfold, i2 hn.2, if_neg (fun z => hn.1 z.1.symm)]
theorem stD_at (w : WfHall T30 ts) (ht : t ∈ ts) (n : Nat) {k : Nat} (hk : k < 10) (hr : t.rank = (k : Int) + 1) : stD (vAt ts n) t = dMst (vAt ts n).loud t (LB ts (k + 1) n) (mfold t.name (ofs ts k n) (runL ts (k + 1) (LB ts (k + 1) n))) := by
  obtain ⟨p1, p2⟩ := mfold_at t.name (runL ts (k + 1) (LB ts (k + 1) n)) (ofs ts k n) (runL_nd w _ _)
  unfold stD
  cases hx : runAt (k + 1) (LB ts (k + 1) n) t with
  | none =>
    have nm : t.name ∉ (runL ts (k + 1) (LB ts (k + 1) n)).map fun x => x.t.name := fun z => by
      obtain ⟨x, e⟩ := (runMem w ht).mp z
      rw [hx] at e
      cases e
    rw [p2 nm, vAt_no w ht n hk hr hx]
    rfl
  | some x =>
    obtain ⟨e1, e2, e3, e4, e5⟩ := pass_run w ht hx
    have hm : x ∈ runL ts (k + 1) (LB ts (k + 1) n) := List.mem_filterMap.mpr ⟨t, ht, hx⟩
    have lp := runL_pos w hm
    rw [p1 x hm (by rw [e1]), vAt_run w ht n hk hr hx]
    generalize offT t.name (ofs ts k n) (runL ts (k + 1) (LB ts (k + 1) n)) = o
    by_cases c : o < x.len
    · rw [if_pos c, if_pos c]
      simp only [if_true, dMst, St.rest, St.len]
      rw [e3] at c lp ⊢
      have : (((nth t.pre t.cyc x.i).2.toNat - o.toNat : Nat) : Int) = (nth t.pre t.cyc x.i).2 - (if 0 > o then 0 else o) := by
        split <;> omega
      rw [this]
    · rw [if_neg c, if_neg c]
      simp only [Bool.false_eq_true, if_false, dMst]
      rw [e4]
theorem memberStateV (w : WfHall T30 ts) (ht : t ∈ ts) (k l : Nat) (hk : k < 10) (hr : t.rank = (k : Int) + 1) (hl : l + 1 < 2 ^ 4000) {sp : Option Str} (hs : ∀ x, sp = some x → PyData.strOk x = true) (h : OH) :
    pureF Sh.member_state [.lst (ts.map dMem), dMem t, .int l, spO sp] h = .ok (dMst sp t (LB ts (k + 1) l) (mfold t.name (ofs ts k l) (runL ts (k + 1) (LB ts (k + 1) l)))) h := by
  have ps : (spO sp).pure = true := by cases sp <;> rfl
  refine pure_eq h (by simp [ps]) (by cases mfold t.name (ofs ts k l) (runL ts (k + 1) (LB ts (k + 1) l)) <;> simp [dMst]) ?_
  have wt := w.tk t ht
  have b0 := LB_le w.tk k l
  have b1 := LB_le w.tk (k + 1) l
  have e1 := leftAmong' w k l hk (by omega)
  have e2 : ∀ h, pureF Sh.quiet_among [.lst (ts.map dMem), .int ((k : Int) + 1), .int (LB ts k l)] h = .ok (.int (LB ts (k + 1) l)) h := fun h => quietAmong' w k (LB ts k l) (by omega) h
  have e5 : ∀ h, pureF Sh.offset_in_run [.lst (ts.map dMem), .int ((k : Int) + 1), .int (LB ts k l), .int (LB ts (k + 1) l)] h = _ := fun h => offsetAny w (k + 1) (LB ts k l) (LB ts (k + 1) l) (by omega) h
  have e6 : ∀ h, pureF Sh.run_of [.lst (ts.map dMem), .int ((k : Int) + 1), .int (LB ts (k + 1) l)] h = _ := fun h => runOf w (k + 1) (LB ts (k + 1) l) (by omega) h
  have e3 := countAt wt (LB ts (k + 1) l)
  have c1 := cnt_le wt.pos1 (LB ts (k + 1) l)
  have e4 := fun h => nthReady (p := t.pre) (c := t.cyc) (cnt t.pre t.cyc (LB ts (k + 1) l)) h wt.lc1 wt.lc (small_of (k := 4000) (by omega) (by decide)) wt.s1
  unfold Sh.member_state; rw [W_fn]; unfold Sh.member_state_b
  unfold ofs
  generalize LB ts k l = lf at *
  generalize LB ts (k + 1) l = qt at *
  generalize (lf : Int) - qt - LLm ts (k + 1) qt = of0 at *
  simp [hr, e1, e2, e5, e6]
  refine W_forL (fun j e h' => h' = [] ∧ ∃ (off : Int) (a b c z : Option D), e = [some (.lst (ts.map dMem)), some (dMem t), some (.int l), some (spO sp), some (.int lf), some (.int qt), some (.int off), a, b, c, z, none] ∧ mfold t.name off ((runL ts (k + 1) qt).drop j) = mfold t.name of0 (runL ts (k + 1) qt)) _ _ _ ⟨rfl, _, _, _, _, _, rfl, rfl⟩ (fun j d hd e h' hI => ?_) (fun e h' hI => ?_)
  · obtain ⟨rfl, off, a, b, c, z, rfl, hf⟩ := hI
    rw [List.getElem?_map, Option.map_eq_some_iff] at hd
    obtain ⟨x, hx, rfl⟩ := hd
    have hj := (List.getElem?_eq_some_iff.mp hx).1
    have wx := w.tk x.t (runL_mem (List.mem_of_getElem? hx))
    have ed : (runL ts (k + 1) qt).drop j = x :: (runL ts (k + 1) qt).drop (j + 1) := by
      rw [List.drop_eq_getElem_cons hj]
      congr 1
      exact (List.getElem?_eq_some_iff.mp hx).2
    rw [ed, mfold] at hf
    refine ⟨_, rfl, ?_⟩
    rw [← hf]
    cases sp with
    | none =>
      simp [W_eqS, strOk_nm wx.name, strOk_nm wt.name, spO]
      all_goals (by_cases hn : x.t.name = t.name <;> by_cases ho : off < x.len <;> simp [hn, ho, dMst])
    | some y =>
      simp [W_eqS, strOk_nm wx.name, strOk_nm wt.name, hs y rfl, spO]
      all_goals (by_cases hn : x.t.name = t.name <;> by_cases ho : off < x.len <;> by_cases hz : y = t.name <;> simp [hn, ho, hz, dMst])
  · obtain ⟨rfl, off, a, b, c, z, rfl, hf⟩ := hI
    rw [List.length_map, List.drop_length] at hf
    rw [← hf]
    simp [e3, e4, dMst, mfold]
theorem loud_okS (w : WfHall T30 ts) (n : Nat) : ∀ x, (vAt ts n).loud = some x → PyData.strOk x = true := fun x e => by
  obtain ⟨t, ht, rfl, _⟩ := (vAt_ok w n).louds e
  exact strOk_nm (w.tk t ht).name
theorem memberStateL (w : WfHall T30 ts) (ht : t ∈ ts) (l : Nat) (hl : l + 1 < 2 ^ 4000) (h : OH) :
    pureF Sh.member_state [.lst (ts.map dMem), dMem t, .int l, spO (vAt ts l).loud] h = .ok (stD (vAt ts l) t) h := by
  obtain ⟨k, hk, hr⟩ : ∃ k : Nat, k < 10 ∧ t.rank = (k : Int) + 1 := ⟨(t.rank - 1).toNat, by have := (w.tk t ht).r1; have := (w.tk t ht).r2; omega, by have := (w.tk t ht).r1; omega⟩
  rw [memberStateV w ht k l hk hr hl (loud_okS w l), stD_at w ht l hk hr]
end
end HR
set_option Elab.async false
set_option linter.all false
set_option maxRecDepth 20000
set_option exponentiation.threshold 5000
namespace HR
open PySem L2
/-! ### everything repeats: who stands in line -/
theorem offT_sfold (nm : Str) : ∀ (L : List Run) (off f : Int), offT nm off L = off + f - sfold nm f L
  | [], off, f => by simp [offT, sfold]
  | y :: L, off, f => by
    unfold offT sfold
    split
    · omega
    · rw [offT_sfold nm L (off - y.len) (f + y.len)]
      omega
theorem filt_le {P : Run → Bool} {g : Run → Run} : ∀ {L : List Run}, (∀ y ∈ L, 0 ≤ (g y).len ∧ (P y = false → (g y).len = y.len)) → lsum (L.filter fun y => !P y) ≤ lsum (L.map g)
  | [], _ => Int.le_refl _
  | y :: L, h => by
    have ih := filt_le (P := P) (g := g) (L := L) fun z hz => h z (List.mem_cons_of_mem _ hz)
    have e2 : ∀ (a : Run) (l : List Run), lsum (a :: l) = a.len + lsum l := fun _ _ => rfl
    obtain ⟨a, b⟩ := h y List.mem_cons_self
    rw [List.filter_cons, List.map_cons, e2]
    cases c : P y with
    | true => rw [if_neg (by simp)]; omega
    | false => rw [if_pos (by simp), e2, b c]; omega
theorem lineG {P : Run → Bool} {g : Run → Run} : ∀ (L : List Run) (off off' : Int), (L.map fun y => y.t.name).Nodup →
    (∀ y ∈ L, (g y).t.name = y.t.name ∧ 0 ≤ (g y).len ∧ 0 ≤ y.len ∧ (P y = false → (g y).len = y.len)) → off' - lsum (L.map g) = off - lsum L → (∀ y ∈ L, P y = true → y.len ≤ offT y.t.name off L) →
    (∀ y ∈ L, (offT y.t.name off L < y.len ↔ offT y.t.name off' (L.map g) < (g y).len) ∧ (offT y.t.name off L < y.len → offT y.t.name off' (L.map g) = offT y.t.name off L)) ∧ (findT off L).map (·.1) = (findT off' (L.map g)).map (·.1)
  | [], _, _, _, _, _, _ => ⟨fun y hy => by simp at hy, rfl⟩
  | y :: r, off, off', nd, hg, he, hP => by
    rw [List.map_cons, List.nodup_cons] at nd
    have e2 : ∀ (a : Run) (l : List Run), lsum (a :: l) = a.len + lsum l := fun _ _ => rfl
    rw [List.map_cons, e2, e2] at he
    obtain ⟨g1, g2, g3, g4⟩ := hg y List.mem_cons_self
    have hg' : ∀ z ∈ r, (g z).t.name = z.t.name ∧ 0 ≤ (g z).len ∧ 0 ≤ z.len ∧ (P z = false → (g z).len = z.len) := fun z hz => hg z (List.mem_cons_of_mem _ hz)
    have ne : ∀ z ∈ r, y.t.name ≠ z.t.name := fun z hz e => nd.1 (e ▸ List.mem_map_of_mem (f := fun y : Run => y.t.name) hz)
    have o1 : ∀ z ∈ r, offT z.t.name off (y :: r) = offT z.t.name (off - y.len) r := fun z hz => by
      rw [offT, if_neg (ne z hz)]
    have o2 : ∀ z ∈ r, offT z.t.name off' ((y :: r).map g) = offT z.t.name (off' - (g y).len) (r.map g) := fun z hz => by
      rw [List.map_cons, offT, if_neg (by rw [g1]; exact ne z hz)]
    have hP' : ∀ z ∈ r, P z = true → z.len ≤ offT z.t.name (off - y.len) r := fun z hz c => by
      rw [← o1 z hz]
      exact hP z (List.mem_cons_of_mem _ hz) c
    obtain ⟨ih1, ih2⟩ := lineG (P := P) (g := g) r (off - y.len) (off' - (g y).len) nd.2 hg' (by omega) hP'
    have hy1 : offT y.t.name off (y :: r) = off := by rw [offT, if_pos rfl]
    have hy2 : offT y.t.name off' ((y :: r).map g) = off' := by rw [List.map_cons, offT, if_pos g1]
    have head : (off < y.len ↔ off' < (g y).len) ∧ (off < y.len → off' = off) := by
      by_cases d : ∃ z ∈ r, P z = true
      · obtain ⟨z, hz, hz2⟩ := d
        have hb := hP' z hz hz2
        have n0 : ¬ off - y.len < 0 := fun c => by
          have := offT_neg z.t.name r (off - y.len) (fun v hv => (hg' v hv).2.2.1) c
          have := (hg' z hz).2.2.1
          omega
        have lr := line_rest (P := P) (off - y.len) r 0 nd.2 (fun v hv => (hg' v hv).2.2.1) (fun v hv hv2 => by
          have a := hP' v hv hv2
          have b := offT_sfold v.t.name r (off - y.len) 0
          omega) (.inr ⟨z, hz, hz2⟩)
        have fl := filt_le (P := P) (g := g) (L := r) fun v hv => ⟨(hg' v hv).2.1, (hg' v hv).2.2.2⟩
        exact ⟨⟨fun c => absurd c (by omega), fun c => absurd c (by omega)⟩, fun c => absurd c (by omega)⟩
      · have es : lsum (r.map g) = lsum r := by
          unfold lsum
          rw [List.map_map]
          congr 1
          refine List.map_congr_left fun v hv => ?_
          cases c : P v with
          | false => exact (hg' v hv).2.2.2 c
          | true => exact absurd ⟨v, hv, c⟩ d
        refine ⟨by omega, fun c => ?_⟩
        cases p : P y with
        | false =>
          have := g4 p
          omega
        | true =>
          have := hP y List.mem_cons_self p
          rw [hy1] at this
          omega
    refine ⟨fun z hz => ?_, ?_⟩
    · rcases List.mem_cons.mp hz with rfl | hz
      · rw [hy1, hy2]
        exact head
      · rw [o1 z hz, o2 z hz]
        exact ih1 z hz
    · rw [List.map_cons, findT, findT]
      by_cases c : off < y.len
      · rw [if_pos c, if_pos (head.1.mp c)]
        show some y.t.name = some (g y).t.name
        rw [g1]
      · rw [if_neg c, if_neg fun z => c (head.1.mpr z)]
        exact ih2
end HR
set_option Elab.async false
set_option linter.all false
set_option maxRecDepth 20000
set_option exponentiation.threshold 5000
namespace HR
open PySem L2
/-! ### everything repeats: the states -/
section
variable {ts : List Tk} (w : WfHall T30 ts)
include w
theorem cyL_rank {k : Nat} (hk : k < 10) : ∃ j, cyW ts k = j * lf lcmL (mt ts (k + 1)) ∧ cyW ts (k + 1) = j * lcmL (mt ts (k + 1)) := by
  have hL := lf_pos qf_lcm w (k + 1)
  obtain ⟨z, hz⟩ := cyN_dvd w (k + 1) 10 (by omega)
  have n0 := (cyN_ok w (k + 1)).1
  have n1 := (cyN_ok w k).1
  have e0 : (cyN ts (k + 1)).1 = (cyN ts k).1 * rnd (cyN ts k).2 (lf lcmL (mt ts (k + 1))) := rfl
  have e1 : (cyN ts (k + 1)).2 = (cyN ts k).2 * rnd (cyN ts k).2 (lf lcmL (mt ts (k + 1))) / lf lcmL (mt ts (k + 1)) * lcmL (mt ts (k + 1)) := rfl
  have w1 : cyW ts (k + 1) = z * (cyN ts (k + 1)).2 := by
    unfold cyW cyL
    rw [hz, Nat.mul_div_cancel_left _ n0]
  have w0 : cyW ts k = rnd (cyN ts k).2 (lf lcmL (mt ts (k + 1))) * z * (cyN ts k).2 := by
    unfold cyW cyL
    rw [hz, e0, Nat.mul_assoc, Nat.mul_div_cancel_left _ n1]
  have g0 : 0 < Nat.gcd (cyN ts k).2 (lf lcmL (mt ts (k + 1))) := Nat.gcd_pos_of_pos_right _ hL
  have d : lf lcmL (mt ts (k + 1)) ∣ (cyN ts k).2 * rnd (cyN ts k).2 (lf lcmL (mt ts (k + 1))) := by
    obtain ⟨c, hc⟩ := Nat.gcd_dvd_left (cyN ts k).2 (lf lcmL (mt ts (k + 1)))
    obtain ⟨d, hd⟩ := Nat.gcd_dvd_right (cyN ts k).2 (lf lcmL (mt ts (k + 1)))
    refine ⟨c, ?_⟩
    unfold rnd
    generalize Nat.gcd (cyN ts k).2 (lf lcmL (mt ts (k + 1))) = g at *
    generalize (cyN ts k).2 = W at *
    generalize lf lcmL (mt ts (k + 1)) = L at *
    subst hc hd
    rw [Nat.mul_div_cancel_left _ g0]
    ac_rfl
  obtain ⟨c, hc⟩ := d
  refine ⟨z * c, ?_, ?_⟩
  · rw [w0, show rnd (cyN ts k).2 (lf lcmL (mt ts (k + 1))) * z * (cyN ts k).2 = z * ((cyN ts k).2 * rnd (cyN ts k).2 (lf lcmL (mt ts (k + 1)))) by ac_rfl, hc]
    ac_rfl
  · rw [w1, e1, hc, Nat.mul_div_cancel_left _ hL, Nat.mul_assoc]
/-- a run, some cycles later -/
def gR (r q : Nat) (y : Run) : Run := (runAt r q y.t).getD y
theorem runL_gR {r q : Nat} (hb : Beh ts r q) (hq : 0 < q) (j : Nat) : runL ts r (q + j * lcmL (mt ts r)) = (runL ts r q).map (gR r (q + j * lcmL (mt ts r))) ∧ ∀ y ∈ runL ts r q, ∃ y', runAt r (q + j * lcmL (mt ts r)) y.t = some y' ∧ gR r (q + j * lcmL (mt ts r)) y = y' ∧ y'.t = y.t ∧ y'.i = y.i + j * (lcmL (mt ts r) / qs y.t) * y.t.cyc.length ∧ 0 ≤ y'.len ∧ (PF y = false → y'.len = y.len) ∧ runAt r q y.t = some y := by
  have st : ∀ t ∈ ts, (runAt r q t = none → runAt r (q + j * lcmL (mt ts r)) t = none) ∧ ∀ y, runAt r q t = some y → y.t = t ∧ ∃ y', runAt r (q + j * lcmL (mt ts r)) t = some y' ∧ y'.t = t ∧ y'.i = y.i + j * (lcmL (mt ts r) / qs t) * t.cyc.length ∧ 0 ≤ y'.len ∧ (PF y = false → y'.len = y.len) := fun t ht => by
    by_cases hr : t.rank = (r : Int)
    · have hm : t ∈ mt ts r := List.mem_filter.mpr ⟨ht, decide_eq_true hr⟩
      have wt := (mt_wf w hm).2.1
      have hp := cnt_pe wt (hb t hm)
      have e := cnt_per wt (hb t hm) (j * (lcmL (mt ts r) / qs t))
      have ea := acc_per (f := (·.1)) (p := t.pre) wt.lc1 hp (j * (lcmL (mt ts r) / qs t))
      rw [qs_int wt] at ea
      have lm := lcm_mul w hm j
      have c0 : acc (·.1) t.pre t.cyc (cnt t.pre t.cyc q) = (q : Int) → 0 < cnt t.pre t.cyc q := fun z => by
        refine Nat.pos_of_ne_zero fun z0 => ?_
        rw [z0] at z
        have : acc (·.1) t.pre t.cyc 0 = 0 := rfl
        omega
      refine ⟨fun hn => ?_, fun y hy => ?_⟩
      · unfold runAt at hn ⊢
        rw [lm, e]
        refine if_neg fun z => ?_
        obtain ⟨z1, z2, z3⟩ := z
        rw [ea] at z3
        have z4 : acc (·.1) t.pre t.cyc (cnt t.pre t.cyc q) = (q : Int) := by push_cast at z3; omega
        rw [if_pos ⟨hr, c0 z4, z4⟩] at hn
        cases hn
      · have hy' := hy
        unfold runAt at hy
        split at hy
        · rename_i z
          obtain ⟨z1, z2, z3⟩ := z
          cases hy
          have r2 : runAt r (q + j * lcmL (mt ts r)) t = some ⟨t, cnt t.pre t.cyc q + j * (lcmL (mt ts r) / qs t) * t.cyc.length - 1, (nth t.pre t.cyc (cnt t.pre t.cyc q + j * (lcmL (mt ts r) / qs t) * t.cyc.length - 1)).2⟩ := by
            unfold runAt
            rw [lm, e]
            exact if_pos ⟨hr, by omega, by rw [ea, z3]; push_cast; rfl⟩
          refine ⟨rfl, _, r2, rfl, by dsimp only; omega, by dsimp only; have := (wt.nth1 (cnt t.pre t.cyc q + j * (lcmL (mt ts r) / qs t) * t.cyc.length - 1)).2.2.1; omega, fun hn => ?_⟩
          have r3 := runAt_per w hm (hb t hm) hy' hn j
          rw [r2] at r3
          have := Option.some.inj r3
          rw [this]
        · cases hy
    · have n1 : ∀ p, runAt r p t = none := fun p => if_neg fun z => hr z.1
      refine ⟨fun _ => n1 _, fun y hy => ?_⟩
      rw [n1] at hy
      cases hy
  constructor
  · unfold runL
    have key : ∀ us : List Tk, (∀ t ∈ us, t ∈ ts) → us.filterMap (runAt r (q + j * lcmL (mt ts r))) = (us.filterMap (runAt r q)).map (gR r (q + j * lcmL (mt ts r))) := fun us => by
      induction us with
      | nil => intro _; rfl
      | cons t us ih =>
        intro hu
        have i := ih fun v hv => hu v (List.mem_cons_of_mem _ hv)
        obtain ⟨s1, s2⟩ := st t (hu t List.mem_cons_self)
        rw [List.filterMap_cons, List.filterMap_cons]
        cases e : runAt r q t with
        | none => rw [s1 e]; exact i
        | some y =>
          obtain ⟨et, y', e1, _⟩ := s2 y e
          rw [e1]
          show y' :: _ = gR _ _ y :: _
          rw [i]
          congr 1
          unfold gR
          rw [et, e1]
          rfl
    exact key ts fun t ht => ht
  · intro y hy
    obtain ⟨t, ht, e⟩ := List.mem_filterMap.mp hy
    obtain ⟨et, y', e1, e2, e3, e4, e5⟩ := (st t ht).2 y e
    subst et
    exact ⟨y', e1, by unfold gR; rw [e1]; rfl, e2, e3, e4, e5, e⟩
end
end HR
set_option Elab.async false
set_option linter.all false
set_option maxRecDepth 20000
set_option exponentiation.threshold 5000
namespace HR
open PySem L2
/-! ### everything repeats: a talker's state -/
theorem sfold_len : ∀ (L : List Run) (f : Int), (L.map fun y => y.t.name).Nodup → (∀ y ∈ L, 0 ≤ y.len) → ∀ y ∈ L, sfold y.t.name f L + y.len ≤ f + lsum L
  | [], _, _, _, y, hy => by simp at hy
  | z :: L, f, nd, hl, y, hy => by
    rw [List.map_cons, List.nodup_cons] at nd
    have e2 : lsum (z :: L) = z.len + lsum L := rfl
    have hz := hl z List.mem_cons_self
    have pos : 0 ≤ lsum L := by
      have key : ∀ l : List Run, (∀ y ∈ l, 0 ≤ y.len) → 0 ≤ lsum l := fun l => by
        induction l with
        | nil => intro _; exact Int.le_refl 0
        | cons a l ih =>
          intro hl
          have := ih fun y hy => hl y (List.mem_cons_of_mem _ hy)
          have := hl a List.mem_cons_self
          show 0 ≤ a.len + lsum l
          omega
      exact key L fun y hy => hl y (List.mem_cons_of_mem _ hy)
    unfold sfold
    rcases List.mem_cons.mp hy with rfl | hy
    · rw [if_pos rfl, e2]
      omega
    · have ne : z.t.name ≠ y.t.name := fun e => nd.1 (e ▸ List.mem_map_of_mem (f := fun y : Run => y.t.name) hy)
      rw [if_neg ne, e2]
      have := sfold_len L (f + z.len) nd.2 (fun v hv => hl v (List.mem_cons_of_mem _ hv)) y hy
      omega
section
variable {ts : List Tk} (w : WfHall T30 ts)
include w
theorem pf_end {k x : Nat} (h : Pst ts k x) {q : Nat} {y : Run} (hy : y ∈ runL ts (k + 1) q) (hy2 : PF y = true) : sfold y.t.name ((LI ts (k + 1) (q - 1) : Int) + 1) (runL ts (k + 1) q) + y.len ≤ x := by
  obtain ⟨t, ht, e⟩ := List.mem_filterMap.mp hy
  unfold runAt at e
  split at e
  · rename_i z
    obtain ⟨z1, z2, z3⟩ := z
    cases e
    have hm : t ∈ mt ts (k + 1) := List.mem_filter.mpr ⟨ht, decide_eq_true z1⟩
    have hy2 : cnt t.pre t.cyc q - 1 + 1 = t.pre.length := of_decide_eq_true hy2
    have hp : t.pre.length ≠ 0 := by omega
    have ec : cnt t.pre t.cyc q = t.pre.length := by omega
    have ep : pe t = q := by unfold pe; rw [← ec, z3]; simp
    obtain ⟨_, p1⟩ := pst_end w h hm hp
    rw [ep] at p1
    dsimp only
    rw [ec]
    exact p1
  · cases e
theorem ofs_x {k l : Nat} (hq : 0 < LB ts (k + 1) l) : ofs ts k l + ((LI ts (k + 1) (LB ts (k + 1) l - 1) : Int) + 1) = LB ts k l ∧ ofs ts k l - lsum (runL ts (k + 1) (LB ts (k + 1) l)) = (LB ts k l : Int) - LI ts (k + 1) (LB ts (k + 1) l) := by
  have a := (ofs_nn w k l hq).2
  have b := LI_line w (k + 1) hq
  have c : (LI ts (k + 1) (LB ts (k + 1) l - 1) : Int) = (LB ts (k + 1) l : Int) - 1 + LL ts (k + 1) (LB ts (k + 1) l - 1) := by
    unfold LI
    omega
  constructor <;> omega
/-- the line, some cycles later -/
theorem line_far {k l : Nat} (hk : k < 10) (hl : stCy ts ≤ l) (m : Nat) (hq : 0 < LB ts (k + 1) l) : ∃ n, cyW ts (k + 1) * m = n * lcmL (mt ts (k + 1)) ∧ LB ts (k + 1) (l + m * cyL ts) = LB ts (k + 1) l + n * lcmL (mt ts (k + 1)) ∧
    (∀ y ∈ runL ts (k + 1) (LB ts (k + 1) l), (offT y.t.name (ofs ts k l) (runL ts (k + 1) (LB ts (k + 1) l)) < y.len ↔ offT y.t.name (ofs ts k (l + m * cyL ts)) (runL ts (k + 1) (LB ts (k + 1) (l + m * cyL ts))) < (gR (k + 1) (LB ts (k + 1) (l + m * cyL ts)) y).len) ∧
      (offT y.t.name (ofs ts k l) (runL ts (k + 1) (LB ts (k + 1) l)) < y.len → offT y.t.name (ofs ts k (l + m * cyL ts)) (runL ts (k + 1) (LB ts (k + 1) (l + m * cyL ts))) = offT y.t.name (ofs ts k l) (runL ts (k + 1) (LB ts (k + 1) l)) ∧ PF y = false)) ∧
    (findT (ofs ts k l) (runL ts (k + 1) (LB ts (k + 1) l))).map (·.1) = (findT (ofs ts k (l + m * cyL ts)) (runL ts (k + 1) (LB ts (k + 1) (l + m * cyL ts)))).map (·.1) := by
  obtain ⟨j, j1, j2⟩ := cyL_rank w hk
  have f0 := LB_far w hl (k := k) (by omega) m
  have f1 := LB_far w hl (k := k + 1) (by omega) m
  have ps := pst_of w hl k
  have hb : Beh ts (k + 1) (LB ts (k + 1) l) := pst_beh w ps
  have o1 := ofs_x w hq
  have o2 := ofs_x w (k := k) (l := l + m * cyL ts) (by omega)
  have li := LI_per w hb (m * j)
  obtain ⟨g1, g2⟩ := runL_gR w hb hq (m * j)
  have e1 : m * cyW ts (k + 1) = m * j * lcmL (mt ts (k + 1)) := by rw [j2, Nat.mul_assoc]
  have e0 : m * cyW ts k = m * j * lf lcmL (mt ts (k + 1)) := by rw [j1, Nat.mul_assoc]
  rw [e1] at f1
  rw [e0] at f0
  rw [f1] at o2 ⊢
  rw [li] at o2
  rw [g1] at o2 ⊢
  have hP : ∀ y ∈ runL ts (k + 1) (LB ts (k + 1) l), PF y = true → y.len ≤ offT y.t.name (ofs ts k l) (runL ts (k + 1) (LB ts (k + 1) l)) := fun y hy hy2 => by
    have a := pf_end w ps hy hy2
    have b := offT_sfold y.t.name (runL ts (k + 1) (LB ts (k + 1) l)) (ofs ts k l) ((LI ts (k + 1) (LB ts (k + 1) l - 1) : Int) + 1)
    omega
  have ln := lineG (P := PF) (g := gR (k + 1) (LB ts (k + 1) l + m * j * lcmL (mt ts (k + 1)))) (runL ts (k + 1) (LB ts (k + 1) l)) (ofs ts k l) (ofs ts k (l + m * cyL ts)) (runL_nd w _ _) (fun y hy => by
    obtain ⟨y', _, e2, e3, _, e5, e6, _⟩ := g2 y hy
    rw [e2, e3]
    exact ⟨rfl, e5, (runL_len w hy).1, e6⟩) (by omega) hP
  refine ⟨m * j, by rw [Nat.mul_comm]; exact e1, rfl, fun y hy => ⟨(ln.1 y hy).1, fun c => ⟨(ln.1 y hy).2 c, ?_⟩⟩, ln.2⟩
  cases p : PF y with
  | false => rfl
  | true =>
    have := hP y hy p
    omega
end
end HR
set_option Elab.async false
set_option linter.all false
set_option maxRecDepth 20000
set_option exponentiation.threshold 5000
namespace HR
open PySem L2
/-! ### everything repeats: a talker's state, some cycles later -/
section
variable {ts : List Tk} (w : WfHall T30 ts) {t : Tk} (ht : t ∈ ts)
include w ht
theorem vAt_far {k : Nat} (hk : k < 10) (hr : t.rank = (k : Int) + 1) {l : Nat} (hl : stCy ts ≤ l) (m : Nat) : ∃ n, n * qs t = m * cyW ts (k + 1) ∧
    (vAt ts (l + m * cyL ts)).σ t.name = ⟨t.pre, t.cyc, ((vAt ts l).σ t.name).i + n * t.cyc.length, ((vAt ts l).σ t.name).b, ((vAt ts l).σ t.name).sp, ((vAt ts l).σ t.name).tot + n * qs t⟩ ∧
    ((vAt ts l).σ t.name).pre = t.pre ∧ ((vAt ts l).σ t.name).cyc = t.cyc ∧ t.pre.length ≤ ((vAt ts l).σ t.name).i ∧ ((vAt ts l).σ t.name).tot = LB ts (k + 1) l := by
  have wt := w.tk t ht
  have hr' : t.rank = ((k + 1 : Nat) : Int) := by rw [hr]; simp
  have hm : t ∈ mt ts (k + 1) := List.mem_filter.mpr ⟨ht, decide_eq_true hr'⟩
  obtain ⟨j, j1, j2⟩ := cyL_rank w hk
  have f0 := LB_far w hl (k := k) (by omega) m
  have f1 := LB_far w hl (k := k + 1) (by omega) m
  have ps := pst_of w hl k
  have hb : Beh ts (k + 1) (LB ts (k + 1) l) := pst_beh w ps
  have li := LI_per w hb (m * j)
  have e1 : m * cyW ts (k + 1) = m * j * lcmL (mt ts (k + 1)) := by rw [j2, Nat.mul_assoc]
  have e0 : m * cyW ts k = m * j * lf lcmL (mt ts (k + 1)) := by rw [j1, Nat.mul_assoc]
  have lm := lcm_mul w hm (m * j)
  have hcn := cnt_per wt (hb t hm) (m * j * (lcmL (mt ts (k + 1)) / qs t))
  have hp := cnt_pe wt (hb t hm)
  refine ⟨m * j * (lcmL (mt ts (k + 1)) / qs t), by rw [← lm, e1], ?_⟩
  rw [e1, lm] at f1
  rw [e0] at f0
  rcases Nat.eq_zero_or_pos (LB ts (k + 1) l) with z | hq
  · have rn : runAt (k + 1) (LB ts (k + 1) l) t = none := by
      rw [z]
      exact if_neg fun y => by have := y.2.1; simp [cnt] at this
    have s0 := vAt_no w ht l hk hr rn
    have g := inv_gal (LI_inc w.tk (k + 1))
    have x0 : LB ts k l = 0 := by
      have := g.le (LB ts k l)
      rw [← LB_s ts k l, z] at this
      have e : LI ts (k + 1) 0 = 0 := by unfold LI; rw [LL_0 w.tk]
      omega
    have c0 : LI ts (k + 1) 0 = 0 := by unfold LI; rw [LL_0 w.tk]
    rw [s0]
    refine ⟨?_, rfl, rfl, hp, rfl⟩
    dsimp only
    cases rn' : runAt (k + 1) (LB ts (k + 1) (l + m * cyL ts)) t with
    | none =>
      rw [vAt_no w ht (l + m * cyL ts) hk hr rn', f1, hcn]
    | some y =>
      obtain ⟨p1, p2, p3, p4, p5⟩ := pass_run w ht rn'
      have hq' : 0 < LB ts (k + 1) (l + m * cyL ts) := by
        refine Nat.pos_of_ne_zero fun z0 => ?_
        rw [z0] at p4
        have : cnt t.pre t.cyc 0 = 0 := rfl
        omega
      have hy : y ∈ runL ts (k + 1) (LB ts (k + 1) (l + m * cyL ts)) := List.mem_filterMap.mpr ⟨t, ht, rn'⟩
      have o := ofs_x w hq'
      have sl := sfold_len (runL ts (k + 1) (LB ts (k + 1) (l + m * cyL ts))) ((LI ts (k + 1) (LB ts (k + 1) (l + m * cyL ts) - 1) : Int) + 1) (runL_nd w _ _) (fun v hv => (runL_len w hv).1) y hy
      have ll := LI_line w (k + 1) hq'
      have of := offT_sfold t.name (runL ts (k + 1) (LB ts (k + 1) (l + m * cyL ts))) (ofs ts k (l + m * cyL ts)) ((LI ts (k + 1) (LB ts (k + 1) (l + m * cyL ts) - 1) : Int) + 1)
      rw [p1] at sl
      have eLI : LI ts (k + 1) (LB ts (k + 1) (l + m * cyL ts)) = LB ts k (l + m * cyL ts) := by
        rw [f1, f0, ← lm, z, x0]
        rw [z] at li
        rw [li, c0]
      rw [vAt_run w ht (l + m * cyL ts) hk hr rn', if_neg (by omega), p4, f1, hcn]
  · obtain ⟨n, n1, n2, n3, n4⟩ := line_far w hk hl m hq
    obtain ⟨g1, g2⟩ := runL_gR w hb hq (m * j)
    rw [lm, ← f1] at g1 g2
    cases rn : runAt (k + 1) (LB ts (k + 1) l) t with
    | none =>
      have s0 := vAt_no w ht l hk hr rn
      have rn' : runAt (k + 1) (LB ts (k + 1) (l + m * cyL ts)) t = none := by
        cases e : runAt (k + 1) (LB ts (k + 1) (l + m * cyL ts)) t with
        | none => rfl
        | some y =>
          exfalso
          have a := (runMem w ht).mpr ⟨y, e⟩
          rw [g1, List.map_map] at a
          obtain ⟨v, hv, ev⟩ := List.mem_map.mp a
          obtain ⟨v', _, h2, h3, _⟩ := g2 v hv
          have ev : (gR (k + 1) (LB ts (k + 1) (l + m * cyL ts)) v).t.name = t.name := ev
          rw [h2, h3] at ev
          have b := (runMem w ht (r := k + 1) (q := LB ts (k + 1) l)).mp (ev ▸ List.mem_map_of_mem (f := fun y : Run => y.t.name) hv)
          obtain ⟨u, hu⟩ := b
          rw [rn] at hu
          cases hu
      rw [s0, vAt_no w ht (l + m * cyL ts) hk hr rn']
      refine ⟨?_, rfl, rfl, hp, rfl⟩
      dsimp only
      rw [f1, hcn]
    | some y =>
      obtain ⟨p1, p2, p3, p4, p5⟩ := pass_run w ht rn
      have hy : y ∈ runL ts (k + 1) (LB ts (k + 1) l) := List.mem_filterMap.mpr ⟨t, ht, rn⟩
      obtain ⟨y', h1, h2, h3, h4, h5, h6, _⟩ := g2 y hy
      obtain ⟨a1, a2⟩ := n3 y hy
      rw [h2] at a1
      rw [p1] at h1 h4 a1 a2
      rw [vAt_run w ht l hk hr rn, vAt_run w ht (l + m * cyL ts) hk hr h1]
      by_cases c : offT t.name (ofs ts k l) (runL ts (k + 1) (LB ts (k + 1) l)) < y.len
      · obtain ⟨b1, b2⟩ := a2 c
        rw [if_pos c, if_pos (a1.mp c)]
        have hnp : ¬ y.i + 1 = y.t.pre.length := of_decide_eq_false b2
        rw [p1] at hnp
        refine ⟨?_, rfl, rfl, by dsimp only; omega, rfl⟩
        dsimp only
        rw [b1, h4, f1]
      · rw [if_neg c, if_neg fun z => c (a1.mpr z)]
        refine ⟨?_, rfl, rfl, by dsimp only; omega, rfl⟩
        dsimp only
        rw [h4, f1]
        congr 1
        omega
end
end HR
set_option Elab.async false
set_option linter.all false
set_option maxRecDepth 20000
set_option exponentiation.threshold 5000
namespace HR
open PySem L2
/-! ### everything repeats: who speaks -/
theorem head_emp {l m : List Str} (h : l.head? = m.head?) : l.isEmpty = m.isEmpty := by
  cases l <;> cases m <;> simp_all
theorem find_congr {p p' : Nat → Bool} {f f' : Nat → Option Str} : ∀ {l : List Nat}, (∀ r ∈ l, p r = p' r ∧ f r = f' r) → (l.find? p).bind f = (l.find? p').bind f'
  | [], _ => rfl
  | r :: l, h => by
    obtain ⟨a, b⟩ := h r List.mem_cons_self
    rw [List.find?_cons, List.find?_cons, a]
    cases p' r with
    | true => exact b
    | false => exact find_congr fun s hs => h s (List.mem_cons_of_mem _ hs)
section
variable {ts : List Tk} (w : WfHall T30 ts)
include w
theorem head_far {k : Nat} (hk : k < 10) {l : Nat} (hl : stCy ts ≤ l) (m : Nat) : ((vAt ts (l + m * cyL ts)).Q (k + 1)).head? = ((vAt ts l).Q (k + 1)).head? := by
  rcases Nat.eq_zero_or_pos (LB ts (k + 1) l) with z | hq
  · obtain ⟨j, j1, j2⟩ := cyL_rank w hk
    have f0 := LB_far w hl (k := k) (by omega) m
    have f1 := LB_far w hl (k := k + 1) (by omega) m
    have hb : Beh ts (k + 1) (LB ts (k + 1) l) := pst_beh w (pst_of w hl k)
    have li := LI_per w hb (m * j)
    have e1 : m * cyW ts (k + 1) = m * j * lcmL (mt ts (k + 1)) := by rw [j2, Nat.mul_assoc]
    have e0 : m * cyW ts k = m * j * lf lcmL (mt ts (k + 1)) := by rw [j1, Nat.mul_assoc]
    have g := inv_gal (LI_inc w.tk (k + 1))
    have c0 : LI ts (k + 1) 0 = 0 := by unfold LI; rw [LL_0 w.tk]
    have x0 : LB ts k l = 0 := by
      have := g.le (LB ts k l)
      rw [← LB_s ts k l, z] at this
      omega
    have n0 := (vAt_nil w l hk).mpr (by rw [z, x0, c0])
    have n1 := (vAt_nil w (l + m * cyL ts) hk).mpr (by
      rw [f0, f1, x0, e0, e1]
      rw [z] at li ⊢
      rw [li, c0])
    rw [n0, n1]
  · obtain ⟨n, n1, n2, n3, n4⟩ := line_far w hk hl m hq
    rw [vAt_head w l hk, vAt_head w (l + m * cyL ts) hk, n4]
theorem loud_far {l : Nat} (hl : stCy ts ≤ l) (m : Nat) : (vAt ts (l + m * cyL ts)).loud = (vAt ts l).loud := by
  unfold LV.loud LV.fr
  refine find_congr fun r hr => ?_
  obtain ⟨h1, h2⟩ := RK_mem.mp hr
  obtain ⟨k, rfl⟩ : ∃ k, r = k + 1 := ⟨r - 1, by omega⟩
  have e := head_far w (k := k) (by omega) hl m
  exact ⟨by rw [head_emp e], e⟩
end
end HR
set_option Elab.async false
set_option linter.all false
set_option maxRecDepth 20000
set_option exponentiation.threshold 5000
namespace HR
open PySem L2
/-! ### everything repeats: the talks begun and ended -/
theorem pfold_at12 (nm : Str) : ∀ (L : List Run) (off : Int) (p : Prog), (L.map fun x => x.t.name).Nodup →
    (∀ x ∈ L, x.t.name = nm → (pfold nm off p L).1 = p.1 + (if 0 < offT nm off L then 1 else 0) ∧ (pfold nm off p L).2.1 = p.2.1 + (if x.len ≤ offT nm off L then 1 else 0)) ∧ (nm ∉ (L.map fun x => x.t.name) → (pfold nm off p L).1 = p.1 ∧ (pfold nm off p L).2.1 = p.2.1)
  | [], _, _, _ => ⟨fun x hx => (nomatch hx), fun _ => ⟨rfl, rfl⟩⟩
  | y :: r, off, p, nd => by
    rw [List.map_cons, List.nodup_cons] at nd
    obtain ⟨i1, i2⟩ := pfold_at12 nm r (off - y.len) (if y.t.name == nm then (p.1 + (if 0 < off then 1 else 0), p.2.1 + (if y.len ≤ off then 1 else 0), p.2.2 + (let m := if 0 > off then 0 else off; if y.len < m then y.len else m)) else p) nd.2
    refine ⟨fun x hx hn => ?_, fun hn => ?_⟩
    · rw [pfold]
      by_cases c : y.t.name = nm
      · have nr : nm ∉ r.map fun x => x.t.name := by rw [← c]; exact nd.1
        have ex : x = y := by
          rcases List.mem_cons.mp hx with z | z
          · exact z
          · exact absurd (by rw [← hn]; exact List.mem_map_of_mem (f := fun x : Run => x.t.name) z) nr
        subst ex
        rw [(i2 nr).1, (i2 nr).2]
        have c2 : (x.t.name == nm) = true := by simpa using c
        rw [if_pos c2, offT, if_pos c]
        exact ⟨rfl, rfl⟩
      · have hx' : x ∈ r := by
          rcases List.mem_cons.mp hx with z | z
          · exact absurd (z ▸ hn) c
          · exact z
        rw [(i1 x hx' hn).1, (i1 x hx' hn).2]
        have c2 : ¬ (y.t.name == nm) = true := by simpa using c
        rw [if_neg c2, offT, if_neg c]
        exact ⟨rfl, rfl⟩
    · rw [List.map_cons, List.mem_cons, not_or] at hn
      rw [pfold, (i2 hn.2).1, (i2 hn.2).2]
      have c2 : ¬ (y.t.name == nm) = true := by simpa using fun z : y.t.name = nm => hn.1 z.symm
      rw [if_neg c2]
      exact ⟨rfl, rfl⟩
/-- how many talks a talker has begun -/
def St.begun (s : St) : Nat := s.i + if s.b = true ∧ 0 < s.sp then 1 else 0
section
variable {ts : List Tk} {t : Tk}
theorem vAt_prog (w : WfHall T30 ts) (ht : t ∈ ts) (n : Nat) {k : Nat} (hk : k < 10) (hr : t.rank = (k : Int) + 1) : (progL ts t (k + 1) (LB ts k n) (LB ts (k + 1) n)).1 = ((((vAt ts n).σ t.name).begun : Nat) : Int) ∧ (progL ts t (k + 1) (LB ts k n) (LB ts (k + 1) n)).2.1 = ((((vAt ts n).σ t.name).i : Nat) : Int) := by
  have wt := w.tk t ht
  obtain ⟨p1, p2⟩ := pfold_at12 t.name (runL ts (k + 1) (LB ts (k + 1) n)) (ofs ts k n) (prog0 t (LB ts (k + 1) n)) (runL_nd w _ _)
  have ep : progL ts t (k + 1) (LB ts k n) (LB ts (k + 1) n) = pfold t.name (ofs ts k n) (prog0 t (LB ts (k + 1) n)) (runL ts (k + 1) (LB ts (k + 1) n)) := rfl
  rw [ep]
  have hr' : t.rank = ((k + 1 : Nat) : Int) := by rw [hr]; simp
  cases hx : runAt (k + 1) (LB ts (k + 1) n) t with
  | none =>
    have nm : t.name ∉ (runL ts (k + 1) (LB ts (k + 1) n)).map fun x => x.t.name := fun z => by
      obtain ⟨x, e⟩ := (runMem w ht).mp z
      rw [hx] at e
      cases e
    rw [(p2 nm).1, (p2 nm).2, vAt_no w ht n hk hr hx]
    have e : (if LB ts (k + 1) n = 0 then 0 else cnt t.pre t.cyc (LB ts (k + 1) n - 1)) = cnt t.pre t.cyc (LB ts (k + 1) n) := by
      rcases Nat.eq_zero_or_pos (LB ts (k + 1) n) with hq | hq
      · rw [hq, if_pos rfl]
        rfl
      · rw [if_neg (by omega)]
        obtain ⟨m, hm⟩ : ∃ m, LB ts (k + 1) n = m + 1 := ⟨LB ts (k + 1) n - 1, by omega⟩
        rw [hm] at hx ⊢
        rw [Nat.add_sub_cancel]
        by_cases h : acc (·.1) t.pre t.cyc (cnt t.pre t.cyc m + 1) ≤ ((m + 1 : Nat) : Int)
        · exfalso
          have e : cnt t.pre t.cyc (m + 1) = cnt t.pre t.cyc m + 1 := by rw [cnt, if_pos h]
          have c2 := (cnt_at wt.pos1 m).2
          unfold runAt at hx
          rw [if_pos ⟨hr', by omega, by rw [e]; omega⟩] at hx
          cases hx
        · rw [cnt, if_neg h]
    simp only [prog0, e]
    exact ⟨by simp [St.begun], trivial⟩
  | some x =>
    obtain ⟨e1, e2, e3, e4, e5⟩ := pass_run w ht hx
    have hm : x ∈ runL ts (k + 1) (LB ts (k + 1) n) := List.mem_filterMap.mpr ⟨t, ht, hx⟩
    have lp := runL_pos w hm
    rw [(p1 x hm (by rw [e1])).1, (p1 x hm (by rw [e1])).2, vAt_run w ht n hk hr hx]
    have hq : 0 < LB ts (k + 1) n := by
      rcases Nat.eq_zero_or_pos (LB ts (k + 1) n) with z | z
      · rw [z] at e4
        simp [cnt] at e4
      · exact z
    have ec : cnt t.pre t.cyc (LB ts (k + 1) n - 1) = x.i := by
      obtain ⟨m, hm⟩ : ∃ m, LB ts (k + 1) n = m + 1 := ⟨LB ts (k + 1) n - 1, by omega⟩
      rw [hm] at e4 e5 ⊢
      rw [Nat.add_sub_cancel]
      by_cases h : acc (·.1) t.pre t.cyc (cnt t.pre t.cyc m + 1) ≤ ((m + 1 : Nat) : Int)
      · have e : cnt t.pre t.cyc (m + 1) = cnt t.pre t.cyc m + 1 := by rw [cnt, if_pos h]
        omega
      · exfalso
        have e : cnt t.pre t.cyc (m + 1) = cnt t.pre t.cyc m := by rw [cnt, if_neg h]
        have := (cnt_at wt.pos1 m).1
        rw [e4, e] at e5
        omega
    have e0 : (if LB ts (k + 1) n = 0 then 0 else cnt t.pre t.cyc (LB ts (k + 1) n - 1)) = x.i := by rw [if_neg (by omega), ec]
    simp only [prog0, e0]
    generalize offT t.name (ofs ts k n) (runL ts (k + 1) (LB ts (k + 1) n)) = o
    by_cases c : o < x.len
    · rw [if_pos c, if_neg (c := x.len ≤ o) (by omega)]
      refine ⟨?_, by simp⟩
      unfold St.begun
      dsimp only
      by_cases d : 0 < o
      · rw [if_pos d, if_pos ⟨rfl, by omega⟩]; push_cast; rfl
      · rw [if_neg d, if_neg fun z => d (by omega)]; simp
    · rw [if_neg c, if_pos (c := 0 < o) (by omega), if_pos (c := x.len ≤ o) (by omega)]
      exact ⟨by simp [St.begun], by simp⟩
end
end HR
set_option Elab.async false
set_option linter.all false
set_option maxRecDepth 20000
set_option exponentiation.threshold 5000
namespace HR
open PySem L2
/-! ### everything repeats: ticks of left indices, states as told, counts -/
section
variable {ts : List Tk} (w : WfHall T30 ts)
include w
theorem TO_far {k : Nat} (hk : k ≤ 10) {q : Nat} (hq : stCy ts ≤ TO ts k q) (m : Nat) : TO ts k (q + m * cyW ts k) = TO ts k q + m * cyL ts := by
  have g := TO_gal w.tk k
  refine Nat.le_antisymm (Nat.le_of_not_lt fun c => ?_) ?_
  · have a := (g (q + m * cyW ts k) (TO ts k q + 1 + m * cyL ts)).mp (by omega)
    rw [LB_far w (by omega) hk m] at a
    have := (g q (TO ts k q + 1)).mpr (by omega)
    omega
  · refine (g _ _).mpr ?_
    rw [LB_far w hq hk m]
    have := (g q (TO ts k q)).mp (Nat.le_refl _)
    omega
variable {t : Tk} (ht : t ∈ ts)
include ht
/-- the third part of a state, as it is told -/
def rest3 (ts : List Tk) (l : Nat) (t : Tk) : Bool × Option Str × Int := (((vAt ts l).σ t.name).b, (vAt ts l).loud, if ((vAt ts l).σ t.name).b then (((vAt ts l).σ t.name).rest : Nat) else acc (·.1) t.pre t.cyc (((vAt ts l).σ t.name).i + 1) - ((vAt ts l).σ t.name).tot)
theorem rest_far {l : Nat} (hl : stCy ts ≤ l) (m : Nat) : rest3 ts (l + m * cyL ts) t = rest3 ts l t := by
  have wt := w.tk t ht
  obtain ⟨k, hk, hr⟩ : ∃ k : Nat, k < 10 ∧ t.rank = (k : Int) + 1 := ⟨(t.rank - 1).toNat, by have := wt.r1; have := wt.r2; omega, by have := wt.r1; omega⟩
  obtain ⟨n, n1, s, s1, s2, s3, s4⟩ := vAt_far w ht hk hr hl m
  have lo := loud_far w hl m
  unfold rest3
  rw [s, lo]
  dsimp only
  unfold St.rest St.len
  dsimp only
  have a := acc_per (f := (·.1)) (p := t.pre) wt.lc1 (n := ((vAt ts l).σ t.name).i + 1) (by omega) n
  rw [qs_int wt] at a
  have e1 : ((vAt ts l).σ t.name).i + n * t.cyc.length + 1 = ((vAt ts l).σ t.name).i + 1 + n * t.cyc.length := by omega
  rw [nth_per wt.lc1 s3 n, e1, a, s1, s2]
  congr 2
  split
  · rfl
  · push_cast
    omega
/-- counts some cycles later -/
theorem prog_far {k : Nat} (hk : k < 10) (hr : t.rank = (k : Int) + 1) {l : Nat} (hl : stCy ts ≤ l) (m : Nat) : ∃ n, n * qs t = m * cyW ts (k + 1) ∧
    (progL ts t (k + 1) (LB ts k (l + m * cyL ts)) (LB ts (k + 1) (l + m * cyL ts))).1 = (progL ts t (k + 1) (LB ts k l) (LB ts (k + 1) l)).1 + (n * t.cyc.length : Nat) ∧
    (progL ts t (k + 1) (LB ts k (l + m * cyL ts)) (LB ts (k + 1) (l + m * cyL ts))).2.1 = (progL ts t (k + 1) (LB ts k l) (LB ts (k + 1) l)).2.1 + (n * t.cyc.length : Nat) ∧
    (progL ts t (k + 1) (LB ts k (l + m * cyL ts)) (LB ts (k + 1) (l + m * cyL ts))).2.2 = (progL ts t (k + 1) (LB ts k l) (LB ts (k + 1) l)).2.2 + (n * ql t : Nat) := by
  have wt := w.tk t ht
  obtain ⟨n, n1, s, s1, s2, s3, s4⟩ := vAt_far w ht hk hr hl m
  obtain ⟨p1, p2⟩ := vAt_prog w ht l hk hr
  obtain ⟨q1, q2⟩ := vAt_prog w ht (l + m * cyL ts) hk hr
  have p3 := vAt_tot w ht l hk hr
  have q3 := vAt_tot w ht (l + m * cyL ts) hk hr
  rw [s] at q1 q2 q3
  refine ⟨n, n1, ?_, ?_, ?_⟩
  · rw [q1, p1]
    unfold St.begun
    dsimp only
    push_cast
    omega
  · rw [q2, p2]
    dsimp only
    push_cast
    rfl
  · rw [← q3, ← p3]
    unfold totS
    dsimp only
    have a := acc_per (f := (·.2)) (p := t.pre) wt.lc1 s3 n
    rw [ql_int wt] at a
    rw [a, s1, s2]
    push_cast
    omega
end
end HR
set_option Elab.async false
set_option linter.all false
set_option maxRecDepth 20000
set_option exponentiation.threshold 5000
namespace HR
open PySem L2
/-! ### everything repeats: spans -/
section
variable {ts : List Tk} (w : WfHall T30 ts) {t : Tk} (ht : t ∈ ts)
include w ht
theorem span_far {k : Nat} (hk : k < 10) (hr : t.rank = (k : Int) + 1) {n : Nat} (hs : stCy ts ≤ TO ts k (spF ts t (k + 1) n)) (hn : t.pre.length ≤ n) {m n' : Nat} (e : n' * qs t = m * cyW ts (k + 1)) :
    TO ts k (spF ts t (k + 1) (n + n' * t.cyc.length)) = TO ts k (spF ts t (k + 1) n) + m * cyL ts ∧ TO ts k (spL ts t (k + 1) (n + n' * t.cyc.length)) = TO ts k (spL ts t (k + 1) n) + m * cyL ts := by
  have wt := w.tk t ht
  have hr' : t.rank = ((k + 1 : Nat) : Int) := by rw [hr]; simp
  obtain ⟨z1, z2⟩ := Q1_z wt n
  have q0 : 0 < Q1 t n := by omega
  have cq : cnt t.pre t.cyc (Q1 t n) = n + 1 := by
    obtain ⟨c1, c2⟩ := cnt_at wt.pos1 (Q1 t n)
    have := acc_lt (f := (·.1)) wt.pos1 (show n + 1 < n + 2 by omega)
    refine acc_inj wt.pos1 c1 c2 (by omega) ?_
    show _ < acc (·.1) t.pre t.cyc (n + 2)
    omega
  have rn : runAt (k + 1) (Q1 t n) t = some ⟨t, n, (nth t.pre t.cyc n).2⟩ := by
    unfold runAt
    rw [if_pos ⟨hr', by omega, by rw [cq, z1]⟩, cq]
    rfl
  have hy : (⟨t, n, (nth t.pre t.cyc n).2⟩ : Run) ∈ runL ts (k + 1) (Q1 t n) := List.mem_filterMap.mpr ⟨t, ht, rn⟩
  have lenp : 1 ≤ (nth t.pre t.cyc n).2 := (wt.nth1 n).2.2.1
  have sg := sfold_ge t.name (runL ts (k + 1) (Q1 t n)) ((LI ts (k + 1) (Q1 t n - 1) : Int) + 1) fun y hy => (runL_len w hy).1
  have sl := sfold_len (runL ts (k + 1) (Q1 t n)) ((LI ts (k + 1) (Q1 t n - 1) : Int) + 1) (runL_nd w _ _) (fun v hv => (runL_len w hv).1) _ hy
  dsimp only at sl
  rw [LI_line w (k + 1) q0] at sl
  have ex : ((spF ts t (k + 1) n : Nat) : Int) = sfold t.name ((LI ts (k + 1) (Q1 t n - 1) : Int) + 1) (runL ts (k + 1) (Q1 t n)) := by
    unfold spF spI
    omega
  have eL : spL ts t (k + 1) n = spF ts t (k + 1) n + ((nth t.pre t.cyc n).2 - 1).toNat := by
    unfold spL spI
    omega
  have lbk : LB ts k (TO ts k (spF ts t (k + 1) n)) = spF ts t (k + 1) n := (TO_gal w.tk k).inv (TO_inc w.tk k) _
  have g := inv_gal (LI_inc w.tk (k + 1))
  have lbq : LB ts (k + 1) (TO ts k (spF ts t (k + 1) n)) = Q1 t n := by
    show inv (LI ts (k + 1)) (LB ts k _) = _
    rw [lbk]
    refine Nat.le_antisymm ((g _ _).mp (by omega)) (Nat.le_of_not_lt fun c => ?_)
    have := (g (Q1 t n - 1) (spF ts t (k + 1) n)).mpr (by omega)
    omega
  obtain ⟨n0, f1, f2, f3, _⟩ := line_far w hk hs m (by rw [lbq]; exact q0)
  have o := ofs_x w (k := k) (l := TO ts k (spF ts t (k + 1) n)) (by rw [lbq]; exact q0)
  have o' := ofs_x w (k := k) (l := TO ts k (spF ts t (k + 1) n) + m * cyL ts) (by rw [f2, lbq]; omega)
  have far0 := LB_far w hs (k := k) (by omega) m
  rw [lbk] at far0
  have e2 : n0 * lcmL (mt ts (k + 1)) = n' * qs t := by rw [← f1, e, Nat.mul_comm]
  have ac := acc_per (f := (·.1)) (p := t.pre) wt.lc1 (n := n + 1) (by omega) n'
  rw [qs_int wt] at ac
  have eQ : Q1 t (n + n' * t.cyc.length) = LB ts (k + 1) (TO ts k (spF ts t (k + 1) n) + m * cyL ts) := by
    rw [f2, lbq, e2]
    have : Q1 t (n + n' * t.cyc.length) = (acc (·.1) t.pre t.cyc (n + 1 + n' * t.cyc.length)).toNat := by
      unfold Q1
      rw [show n + n' * t.cyc.length + 1 = n + 1 + n' * t.cyc.length by omega]
    rw [this, ac, ← z1, ← Int.natCast_mul, ← Int.natCast_add, Int.toNat_natCast]
  have fy := f3 ⟨t, n, (nth t.pre t.cyc n).2⟩ (by rw [lbq]; exact hy)
  dsimp only at fy
  have of0 := offT_sfold t.name (runL ts (k + 1) (Q1 t n)) (ofs ts k (TO ts k (spF ts t (k + 1) n))) ((LI ts (k + 1) (Q1 t n - 1) : Int) + 1)
  rw [lbq] at fy o
  rw [lbk] at o
  have al := fy.2 (by omega)
  have of1 := offT_sfold t.name (runL ts (k + 1) (LB ts (k + 1) (TO ts k (spF ts t (k + 1) n) + m * cyL ts))) (ofs ts k (TO ts k (spF ts t (k + 1) n) + m * cyL ts)) ((LI ts (k + 1) (LB ts (k + 1) (TO ts k (spF ts t (k + 1) n) + m * cyL ts) - 1) : Int) + 1)
  have eF : spF ts t (k + 1) (n + n' * t.cyc.length) = spF ts t (k + 1) n + m * cyW ts k := by
    rw [← far0]
    unfold spF spI
    rw [eQ]
    have := al.1
    unfold spF spI at *
    omega
  have np := nth_per wt.lc1 hn n'
  have eL' : spL ts t (k + 1) (n + n' * t.cyc.length) = spL ts t (k + 1) n + m * cyW ts k := by
    have h1 : 1 ≤ spF ts t (k + 1) (n + n' * t.cyc.length) := by omega
    have : spL ts t (k + 1) (n + n' * t.cyc.length) = spF ts t (k + 1) (n + n' * t.cyc.length) + ((nth t.pre t.cyc n).2 - 1).toNat := by
      unfold spL
      rw [np]
      unfold spF at h1 ⊢
      omega
    rw [this, eL, eF]
    omega
  rw [eF, eL']
  refine ⟨TO_far w (by omega) hs m, TO_far w (by omega) (Nat.le_trans hs ?_) m⟩
  exact (TO_inc w.tk k).le (by omega)
end
end HR
set_option Elab.async false
set_option linter.all false
set_option maxRecDepth 20000
set_option exponentiation.threshold 5000
namespace HR
open PySem L2
/-! ### everything repeats: shares -/
theorem red_cross {a b c d : Nat} (hb : 0 < b) (hd : 0 < d) (h : a * d = c * b) : red (a, b) = red (c, d) := by
  have h1 := red_mul (c := d) (x := a) (y := b) hd
  have h2 := red_mul (c := b) (x := c) (y := d) hb
  rw [← h1, ← h2, Nat.mul_comm d a, h, Nat.mul_comm c b, Nat.mul_comm d b]
section
variable {ts : List Tk} (w : WfHall T30 ts)
include w
theorem cyN_tb : ∀ k, tp lcmL ts k * (cyN ts k).1 = bt lcmL ts k * (cyN ts k).2
  | 0 => rfl
  | k + 1 => by
    have ih := cyN_tb k
    have hL := lf_pos qf_lcm w (k + 1)
    have g0 : 0 < Nat.gcd (cyN ts k).2 (lf lcmL (mt ts (k + 1))) := Nat.gcd_pos_of_pos_right _ hL
    show tp lcmL ts k * lcmL (mt ts (k + 1)) * (cyS (cyN ts k) (mt ts (k + 1))).1 = bt lcmL ts k * lf lcmL (mt ts (k + 1)) * (cyS (cyN ts k) (mt ts (k + 1))).2
    unfold cyS
    dsimp only
    have d : lf lcmL (mt ts (k + 1)) ∣ (cyN ts k).2 * rnd (cyN ts k).2 (lf lcmL (mt ts (k + 1))) := by
      obtain ⟨c, hc⟩ := Nat.gcd_dvd_left (cyN ts k).2 (lf lcmL (mt ts (k + 1)))
      obtain ⟨d, hd⟩ := Nat.gcd_dvd_right (cyN ts k).2 (lf lcmL (mt ts (k + 1)))
      refine ⟨c, ?_⟩
      unfold rnd
      generalize Nat.gcd (cyN ts k).2 (lf lcmL (mt ts (k + 1))) = g at *
      generalize (cyN ts k).2 = W at *
      generalize lf lcmL (mt ts (k + 1)) = L at *
      subst hc hd
      rw [Nat.mul_div_cancel_left _ g0]
      ac_rfl
    have e := Nat.div_mul_cancel d
    generalize (cyN ts k).2 * rnd (cyN ts k).2 (lf lcmL (mt ts (k + 1))) / lf lcmL (mt ts (k + 1)) = z at *
    generalize rnd (cyN ts k).2 (lf lcmL (mt ts (k + 1))) = R at *
    generalize lf lcmL (mt ts (k + 1)) = L at *
    generalize lcmL (mt ts (k + 1)) = Q at *
    generalize (cyN ts k).1 = N at *
    generalize (cyN ts k).2 = W at *
    generalize tp lcmL ts k = T at *
    generalize bt lcmL ts k = B at *
    calc T * Q * (N * R) = T * N * (Q * R) := by ac_rfl
      _ = B * W * (Q * R) := by rw [ih]
      _ = B * Q * (W * R) := by ac_rfl
      _ = B * Q * (z * L) := by rw [e]
      _ = B * L * (z * Q) := by ac_rfl
theorem cyL_pos : 0 < cyL ts := (cyN_ok w 10).1
theorem cyW_tb {k : Nat} (hk : k ≤ 10) : tp lcmL ts k * cyL ts = bt lcmL ts k * cyW ts k := by
  have e := cyN_tb w k
  have d := Nat.div_mul_cancel (cyN_dvd w k 10 hk)
  unfold cyW cyL
  generalize (cyN ts 10).1 / (cyN ts k).1 = z at *
  rw [← d]
  calc tp lcmL ts k * (z * (cyN ts k).1) = z * (tp lcmL ts k * (cyN ts k).1) := by ac_rfl
    _ = z * (bt lcmL ts k * (cyN ts k).2) := by rw [e]
    _ = bt lcmL ts k * (z * (cyN ts k).2) := by ac_rfl
/-- the share of the silent ticks -/
theorem share_sil : red (cyW ts 10, cyL ts) = red (tp lcmL ts 10, bt lcmL ts 10) :=
  red_cross (cyL_pos w) (bt_pos qf_lcm w 10) (by rw [cyW_tb w (Nat.le_refl _), Nat.mul_comm])
/-- the share of a talker -/
theorem share_tk {t : Tk} (ht : t ∈ ts) {k : Nat} (hk : k < 10) (hr : t.rank = (k : Int) + 1) {n : Nat} (e : n * qs t = cyW ts (k + 1)) : red (n * ql t, cyL ts) = red (fr lcmL ts t) := by
  have hm : t ∈ mt ts (k + 1) := List.mem_filter.mpr ⟨ht, decide_eq_true (by rw [hr]; simp)⟩
  have q0 := qs_pos (w.tk t ht)
  have er : t.rank.toNat = k + 1 := by omega
  unfold fr
  rw [er, Nat.add_sub_cancel]
  refine red_cross (cyL_pos w) (bt_pos qf_lcm w (k + 1)) ?_
  have c := cyW_tb w (k := k + 1) (by omega)
  have dv := Nat.div_mul_cancel (qf_lcm.dvd hm)
  have c' : tp lcmL ts k * lcmL (mt ts (k + 1)) * cyL ts = bt lcmL ts (k + 1) * cyW ts (k + 1) := c
  unfold sk
  rw [← e] at c'
  rw [← dv] at c'
  generalize lcmL (mt ts (k + 1)) / qs t = z at *
  refine Nat.eq_of_mul_eq_mul_left q0 ?_
  calc qs t * (n * ql t * bt lcmL ts (k + 1)) = bt lcmL ts (k + 1) * (n * qs t) * ql t := by ac_rfl
    _ = tp lcmL ts k * (z * qs t) * cyL ts * ql t := by rw [c']
    _ = qs t * (tp lcmL ts k * (z * ql t) * cyL ts) := by ac_rfl
end
end HR
set_option Elab.async false
set_option linter.all false
set_option maxRecDepth 20000
set_option exponentiation.threshold 5000
namespace HR
open PySem L2
/-! ### law k71: what the functions tell -/
section
variable {ts : List Tk}
theorem stateAt71 (w : WfHall T30 ts) (l : Nat) (hl : l + 1 < 2 ^ 4000) (h : OH) : pureF Sh.state_at_1 [.lst (ts.map dTk), .int l] h = .ok (.lst (ts.map (stD (vAt ts l)))) h := by
  have px : ∀ t, (stD (vAt ts l) t).pure = true := fun t => by unfold stD; split <;> simp
  refine pure_eq h (by simp) (pureL_map _ px ts) ?_
  have hlen := w.len
  have tb := talkBy w l hl
  have ck := (hallish w).chk
  have ms := fun t (ht : t ∈ ts) => memberStateL w ht l hl
  have el := vAt_loud w l
  unfold Sh.state_at_1; rw [W_fn]; unfold Sh.state_at_1_b
  generalize pureF Sh.checked_hall = CH at ck ⊢
  simp [ck, checkTick, tb]
  cases q : talkL ts l with
  | none =>
    rw [q] at el
    rw [el] at ms
    simp [dTalk, wipeD]
    refine W_lcMap1 ts dMem (stD (vAt ts l)) _ (by simp [big]; omega) (fun t ht => ⟨_, rfl, ?_⟩) ?_
    · have m := ms t ht []
      simp [spO] at m
      simp [m]
    · simp
  | some z =>
    rw [q] at el
    rw [el] at ms
    simp [dTalk, wipeD]
    refine W_lcMap1 ts dMem (stD (vAt ts l)) _ (by simp [big]; omega) (fun t ht => ⟨_, rfl, ?_⟩) ?_
    · have m := ms t ht []
      simp [spO] at m
      simp [m]
    · simp
/-- a state without the talk's index depends on rest3 alone -/
def stD3 (nm : Str) (p : Bool × Option Str × Int) : D := .tup [.str (if p.1 then (if p.2.1 = some nm then "speaking" else "ready") else "silent"), .int p.2.2]
theorem stD_13 (l : Nat) (t : Tk) : ∃ a b c : D, stD (vAt ts l) t = .tup [a, b, c] ∧ D.tup [a, c] = stD3 t.name (rest3 ts l t) := by
  unfold stD stD3 rest3
  cases c : ((vAt ts l).σ t.name).b with
  | true => exact ⟨_, _, _, if_pos rfl, rfl⟩
  | false => exact ⟨_, _, _, if_neg (by simp), rfl⟩
end
end HR
set_option Elab.async false
set_option linter.all false
set_option maxRecDepth 20000
set_option exponentiation.threshold 5000
namespace HR
open PySem L2
/-! ### a talk that is not begun begins later -/
section
variable {ts : List Tk} (w : WfHall T30 ts) {t : Tk} (ht : t ∈ ts)
include w ht
theorem begun_first {k : Nat} (hk : k < 10) (hr : t.rank = (k : Int) + 1) (l : Nat) : l ≤ TO ts k (spF ts t (k + 1) ((vAt ts l).σ t.name).begun) := by
  have wt := w.tk t ht
  refine (TO_gal w.tk k _ _).mpr (Nat.le_of_not_lt fun c => ?_)
  obtain ⟨n, hn⟩ : ∃ n, n = ((vAt ts l).σ t.name).begun := ⟨_, rfl⟩
  rw [← hn] at c
  obtain ⟨z1, z2⟩ := Q1_z wt n
  have sg := sfold_ge t.name (runL ts (k + 1) (Q1 t n)) ((LI ts (k + 1) (Q1 t n - 1) : Int) + 1) fun y hy => (runL_len w hy).1
  have ex : ((spF ts t (k + 1) n : Nat) : Int) = sfold t.name ((LI ts (k + 1) (Q1 t n - 1) : Int) + 1) (runL ts (k + 1) (Q1 t n)) := by
    unfold spF spI
    omega
  have g := inv_gal (LI_inc w.tk (k + 1))
  have hq : Q1 t n ≤ LB ts (k + 1) l := by
    refine Nat.le_of_not_lt fun d => ?_
    have := (g (Q1 t n - 1) (LB ts k l)).mpr (by rw [← LB_s ts k l]; omega)
    omega
  have hc : n + 1 ≤ cnt t.pre t.cyc (LB ts (k + 1) l) := by
    refine Nat.le_of_not_lt fun d => ?_
    have a := (cnt_at wt.pos1 (LB ts (k + 1) l)).2
    have b := acc_mono wt.pos1 (show cnt t.pre t.cyc (LB ts (k + 1) l) + 1 ≤ n + 1 by omega)
    omega
  cases rn : runAt (k + 1) (LB ts (k + 1) l) t with
  | none =>
    rw [vAt_no w ht l hk hr rn] at hn
    simp [St.begun] at hn
    omega
  | some y =>
    obtain ⟨p1, p2, p3, p4, p5⟩ := pass_run w ht rn
    rw [vAt_run w ht l hk hr rn] at hn
    split at hn
    · rename_i al
      unfold St.begun at hn
      dsimp only at hn
      by_cases d : true = true ∧ 0 < (offT t.name (ofs ts k l) (runL ts (k + 1) (LB ts (k + 1) l))).toNat
      · rw [if_pos d] at hn
        omega
      · rw [if_neg d] at hn
        have en : y.i + 1 = n + 1 := by omega
        rw [en] at p5
        have eq : LB ts (k + 1) l = Q1 t n := by omega
        have o := ofs_x w (k := k) (l := l) (by omega)
        have of := offT_sfold t.name (runL ts (k + 1) (LB ts (k + 1) l)) (ofs ts k l) ((LI ts (k + 1) (LB ts (k + 1) l - 1) : Int) + 1)
        rw [eq] at o of d
        have : ¬ 0 < (offT t.name (ofs ts k l) (runL ts (k + 1) (Q1 t n))).toNat := fun z => d ⟨rfl, z⟩
        omega
    · simp [St.begun] at hn
      omega
end
end HR
set_option Elab.async false
set_option linter.all false
set_option maxRecDepth 20000
set_option exponentiation.threshold 5000
namespace HR
open PySem L2
/-! ### what is spoken in one cycle -/
def amt (ts : List Tk) (t : Tk) : Nat := cyW ts t.rank.toNat / qs t * ql t
section
variable {ts : List Tk} (w : WfHall T30 ts)
include w
theorem amt_sum : ∀ {k : Nat}, k ≤ 10 → ((mu ts k).map (amt ts)).sum + cyW ts k = cyL ts
  | 0, _ => by
    rw [mu_zero fun t ht => (w.tk t ht).r1]
    show 0 + cyL ts / 1 * 1 = cyL ts
    simp
  | k + 1, hk => by
    have ih := amt_sum (k := k) (by omega)
    obtain ⟨j, j1, j2⟩ := cyL_rank w (show k < 10 by omega)
    have es : ((mt ts (k + 1)).map (amt ts)).sum = j * ((mt ts (k + 1)).map (sk (lcmL (mt ts (k + 1))))).sum := by
      have key : ∀ us : List Tk, (∀ t ∈ us, t ∈ mt ts (k + 1)) → (us.map (amt ts)).sum = j * (us.map (sk (lcmL (mt ts (k + 1))))).sum := fun us => by
        induction us with
        | nil => intro _; simp
        | cons t us i =>
          intro hu
          have i := i fun v hv => hu v (List.mem_cons_of_mem _ hv)
          have hm := hu t List.mem_cons_self
          obtain ⟨_, wt, hr⟩ := mt_wf w hm
          have er : t.rank.toNat = k + 1 := by omega
          have ea : amt ts t = j * sk (lcmL (mt ts (k + 1))) t := by
            unfold amt sk
            rw [er, j2, Nat.mul_div_assoc _ (qf_lcm.dvd hm), Nat.mul_assoc]
          simp only [List.map_cons, List.sum_cons]
          rw [i, ea, Nat.mul_add]
      exact key _ fun t ht => ht
    rw [mu_sum, es, ← ih, j1, j2]
    unfold lf
    rw [Nat.mul_add]
    omega
theorem amt_all : (ts.map (amt ts)).sum + cyW ts 10 = cyL ts := by
  have := amt_sum w (k := 10) (Nat.le_refl _)
  rwa [mu_all fun t ht => (w.tk t ht).r2] at this
theorem amt_n {t : Tk} (ht : t ∈ ts) {k : Nat} (hr : t.rank = (k : Int) + 1) {n : Nat} (e : n * qs t = cyW ts (k + 1)) : n * ql t = amt ts t := by
  have er : t.rank.toNat = k + 1 := by omega
  unfold amt
  rw [er, ← e, Nat.mul_div_cancel _ (qs_pos (w.tk t ht))]
end
end HR
set_option Elab.async false
set_option linter.all false
set_option maxRecDepth 20000
set_option exponentiation.threshold 5000
namespace HR
open PySem L2
/-! ### law k71: the same state -/
section
variable {ts : List Tk}
theorem eqOk_stD3 {t : Tk} (wn : WfN t.name) (p : Bool × Option Str × Int) : EqOk 1 (stD3 t.name p) := by
  have s1 : PyData.strOk ("speaking" : Str) = true := by decide +kernel
  have s2 : PyData.strOk ("ready" : Str) = true := by decide +kernel
  have s3 : PyData.strOk ("silent" : Str) = true := by decide +kernel
  unfold stD3
  refine eqOk_tup (eqOks_cons ?_ (eqOks_cons (eqOk_int _) (eqOks_nil _)))
  split
  · split
    · exact eqOk_str s1
    · exact eqOk_str s2
  · exact eqOk_str s3
theorem dName_far (w : WfHall T30 ts) {l : Nat} (hl : stCy ts ≤ l) (m : Nat) : dName (talkL ts (l + m * cyL ts)) = dName (talkL ts l) := by
  have a := loud_far w hl m
  rw [vAt_loud w, vAt_loud w] at a
  cases x : talkL ts (l + m * cyL ts) <;> cases y : talkL ts l <;> rw [x, y] at a <;> simp_all [dName]
theorem eqOk_dName (w : WfHall T30 ts) (l : Nat) : EqOk 0 (dName (talkL ts l)) := by
  have a := loud_okS w l
  rw [vAt_loud w] at a
  cases x : talkL ts l with
  | none => exact eqOk_non
  | some z =>
    rw [x] at a
    exact eqOk_str (a _ rfl)
theorem sameState (w : WfHall T30 ts) {l : Nat} (hl : stCy ts ≤ l) (m : Nat) (h1 : l + m * cyL ts + 1 < 2 ^ 4000) (h : OH) : pureF Sh.l_same_state [.lst (ts.map dTk), .int (l : Int), .int ((l + m * cyL ts : Nat) : Int)] h = .ok (.bl true) h := by
  refine pure_eq h (by simp) rfl ?_
  have hlen := w.len
  have s0 := fun h => show noXF (pureF Sh.state_at_1) [.lst (ts.map dTk), .int (l : Int)] h = .ok (.lst (ts.map (stD (vAt ts l)))) h by rw [noXF_at, stateAt71 w l (by omega)]; rfl
  have s1 := fun h => show noXF (pureF Sh.state_at_1) [.lst (ts.map dTk), .int ((l + m * cyL ts : Nat) : Int)] h = .ok (.lst (ts.map (stD (vAt ts (l + m * cyL ts))))) h by rw [noXF_at, stateAt71 w _ h1]; rfl
  have p0 := fun h => show noXF (pureF Sh.speaker_at) [.lst (ts.map dTk), .int (l : Int)] h = .ok (dName (talkL ts l)) h by rw [noXF_at, speakerAt w l (by omega)]; rfl
  have p1 := fun h => show noXF (pureF Sh.speaker_at) [.lst (ts.map dTk), .int ((l + m * cyL ts : Nat) : Int)] h = .ok (dName (talkL ts l)) h by rw [noXF_at, speakerAt w _ h1, dName_far w hl m]; rfl
  have e0 : ∀ (h : OH) (PD : D → OH → Prop), (opEq true (.lst (ts.map fun t => stD3 t.name (rest3 ts l t))) (.lst (ts.map fun t => stD3 t.name (rest3 ts l t))) h).W PD = PD (.bl false) h := fun h PD => W_eqRf (k := 2) (eqOk_lst (eqOks_all fun d hd => by
    obtain ⟨t, ht, rfl⟩ := List.mem_map.mp hd
    exact eqOk_stD3 (w.tk t ht).name _)) (by decide) true h
  have e1 := fun (h : OH) (PD : D → OH → Prop) => W_eqRf (eqOk_dName w l) (by decide) false h (PD := PD)
  have rf := fun t (ht : t ∈ ts) => rest_far w ht hl m
  have g0 := fun t => stD_13 (ts := ts) l t
  have g1 := fun t => stD_13 (ts := ts) (l + m * cyL ts) t
  generalize ((l + m * cyL ts : Nat) : Int) = L1 at *
  unfold Sh.l_same_state; rw [W_fn]; unfold Sh.l_same_state_b
  generalize noXF (pureF Sh.state_at_1) = SA at s0 s1 ⊢
  generalize noXF (pureF Sh.speaker_at) = SP at p0 p1 ⊢
  refine SW_seqK fun K hK => ?_
  simp [s0, s1]
  refine hK _ _ ?_
  clear hK K
  refine SW_seqK fun K hK => ?_
  simp [wipeD]
  refine W_lcMap1 ts (stD (vAt ts l)) (fun t => stD3 t.name (rest3 ts l t)) _ (by simp [big]; omega) (fun t ht => ⟨_, rfl, ?_⟩) ?_
  · obtain ⟨a, b, c, x1, x2⟩ := g0 t
    rw [← x2]
    simp [x1]
  refine W_lcMap1 ts (stD (vAt ts (l + m * cyL ts))) (fun t => stD3 t.name (rest3 ts l t)) _ (by simp [big]; omega) (fun t ht => ⟨_, rfl, ?_⟩) ?_
  · obtain ⟨a, b, c, x1, x2⟩ := g1 t
    rw [← rf t ht, ← x2]
    simp [x1]
  simp [e0]
  refine hK _ _ ?_
  simp [p0, p1, e1]
end
end HR
set_option Elab.async false
set_option linter.all false
set_option maxRecDepth 20000
set_option exponentiation.threshold 5000
namespace HR
open PySem L2
/-! ### law k71: shares -/
theorem gcd71 {a b : Nat} (h : OH) (hb : bl2 a + bl2 b < 400000) : pureF Sh.l_gcd [.int (a : Int), .int (b : Int)] h = .ok (.int ((Nat.gcd a b : Nat) : Int)) h := by
  refine pure_eq h rfl rfl ?_
  unfold Sh.l_gcd; rw [W_fn]; unfold Sh.l_gcd_b
  refine SW_seqK fun K hK => ?_
  refine W_while (I := fun e _ => ∃ x y : Nat, e = [some (.int (x : Int)), some (.int (y : Int))] ∧ Nat.gcd x y = Nat.gcd a b) (fun e _ => match e with
    | [some (.int x), some (.int y)] => gmu x.toNat y.toNat
    | _ => 0) ⟨a, b, rfl, rfl⟩ (by show gmu (a : Int).toNat (b : Int).toNat < 1000000; simp only [Int.toNat_natCast, gmu]; split <;> omega) fun e h hI => ?_
  obtain ⟨x, y, rfl, hg⟩ := hI
  simp
  by_cases hy : 0 < y
  · have hy2 : (0 : Int) < y := by omega
    simp [sPar, hy, hy2]
    exact ⟨⟨y, x % y, ⟨rfl, rfl⟩, by rw [← hg, Nat.gcd_comm x y, Nat.gcd_rec y x, Nat.gcd_comm]⟩, gmu_step hy⟩
  · have hy0 : y = 0 := by omega
    subst hy0
    simp
    refine hK _ _ ?_
    simp
    rw [← hg]
    simp
theorem share71 {a b : Nat} (h : OH) (b0 : 0 < b) (ha : bl2 a ≤ 2000) (hb : bl2 b ≤ 2000) : pureF Sh.l_share [.int (a : Int), .int (b : Int)] h = .ok (dPr (red (a, b))) h := by
  refine pure_eq h rfl rfl ?_
  have gc := fun h => gcd71 (a := a) (b := b) h (by omega)
  have g0 : 0 < Nat.gcd a b := Nat.gcd_pos_of_pos_right _ b0
  have g1 : bl2 (Nat.gcd a b) ≤ bl2 b := bl2_mono (Nat.gcd_le_right _ b0)
  have d1 : ∀ i : Int, divOk i ((Nat.gcd a b : Nat) : Int) = true := fun i => divOk_bl g0 (by omega)
  unfold Sh.l_share; rw [W_fn]; unfold Sh.l_share_b
  generalize pureF Sh.l_gcd = LG at gc ⊢
  refine SW_seqK fun K hK => ?_
  simp [gc]
  refine hK _ _ ?_
  clear hK K
  simp [d1, dPr, red]
end HR
set_option Elab.async false
set_option linter.all false
set_option maxRecDepth 20000
set_option exponentiation.threshold 5000
namespace HR
open PySem L2
/-! ### law k71: far talks -/
section
variable {ts : List Tk} {t : Tk}
theorem sp_ok2 (w : WfHall T30 ts) (ht : t ∈ ts) (r n : Nat) (hn : n + 1 < 2 ^ 1200) : spI ts t r n = spF ts t r n ∧ spI ts t r n + (nth t.pre t.cyc n).2 - 1 = spL ts t r n ∧ spF ts t r n < 2 ^ 1450 ∧ spL ts t r n < 2 ^ 1450 := by
  have wt := w.tk t ht
  have a := sfold_le t.name (runL ts r (Q1 t n)) ((LI ts r (Q1 t n - 1) : Int) + 1) fun y hy => runL_len w hy
  have b := runL_length w r (Q1 t n)
  have c := Q1_le wt n
  have d : Q1 t n - 1 < 2 ^ 1300 := by
    have : (n + 1) * 2 ^ 100 < 2 ^ 1200 * 2 ^ 100 := Nat.mul_lt_mul_of_pos_right hn (by decide)
    rw [← Nat.pow_add] at this
    have e : (1200 + 100) = 1300 := rfl
    omega
  have e := LI_le w r d
  have e1 : (2 : Nat) ^ (1300 + 105) + 2 ^ 150 < 2 ^ 1450 := by decide
  have hl := wt.nth1 n
  have l1 := hl.2.2.1
  have l2 := hl.2.2.2
  have m : ((runL ts r (Q1 t n)).length : Int) * T30 ≤ 10 * T30 := Int.mul_le_mul_of_nonneg_right (by omega) (by decide)
  have i0 : 0 ≤ spI ts t r n := by unfold spI; omega
  have i1 : spI ts t r n ≤ (LI ts r (Q1 t n - 1) : Int) + 1 + 10 * T30 := by unfold spI; omega
  have f1 : spI ts t r n = spF ts t r n := (Int.toNat_of_nonneg i0).symm
  have f2 : spI ts t r n + (nth t.pre t.cyc n).2 - 1 = spL ts t r n := (Int.toNat_of_nonneg (by omega)).symm
  have t1 : (T30 : Int) * 12 < ((2 ^ 150 : Nat) : Int) := by decide
  generalize (2 : Nat) ^ (1300 + 105) = A at e e1
  generalize (2 : Nat) ^ 150 = B at t1 e1
  generalize (2 : Nat) ^ 1450 = G at e1 ⊢
  simp only [T30] at *
  exact ⟨f1, f2, by omega, by omega⟩
theorem spanBy2 (w : WfHall T30 ts) (ht : t ∈ ts) (k n : Nat) (hk : k < 10) (hr : t.rank = (k : Int) + 1) (hn : n + 1 < 2 ^ 1200) (h : OH) : pureF Sh.span_by [.lst (ts.map dMem), dMem t, .int n] h = .ok (.tup [.int (TO ts k (spF ts t (k + 1) n)), .int (TO ts k (spL ts t (k + 1) n))]) h := by
  refine pure_eq h (by simp) (by simp) ?_
  have wt := w.tk t ht
  obtain ⟨s1, s2, s3, s4⟩ := sp_ok2 w ht (k + 1) n hn
  have p1450 : ∀ {x : Nat}, x < 2 ^ 1450 → x < 2 ^ 1500 := fun hx => Nat.lt_of_lt_of_le hx (Nat.pow_le_pow_right (by decide) (by decide))
  have e1 := fun h => nthReady (p := t.pre) (c := t.cyc) n h wt.lc1 wt.lc (by rw [show (n : Int) + 1 = ((n + 1 : Nat) : Int) from by simp]; exact small_of (k := 1200) (by omega) (by decide)) wt.s1
  obtain ⟨z1, z2⟩ := Q1_z wt n
  rw [← z1] at e1
  have c := Q1_le wt n
  have d : Q1 t n + 1 < 2 ^ 4000 := by
    have : (n + 1) * 2 ^ 100 < 2 ^ 1200 * 2 ^ 100 := Nat.mul_lt_mul_of_pos_right hn (by decide)
    rw [← Nat.pow_add] at this
    have e : (2 : Nat) ^ (1200 + 100) + 5 < 2 ^ 4000 := by decide
    omega
  have z3 : (Q1 t n : Int) - 1 = ((Q1 t n - 1 : Nat) : Int) := by omega
  have e2 : ∀ h, pureF Sh.left_index [.lst (ts.map dMem), .int ((k : Int) + 1), .int ((Q1 t n : Int) - 1)] h = .ok (.int (LI ts (k + 1) (Q1 t n - 1))) h := fun h => by
    rw [z3]; exact leftIndex' w k (Q1 t n - 1) (by omega) h
  have e3 : ∀ h, pureF Sh.run_of [.lst (ts.map dMem), .int ((k : Int) + 1), .int (Q1 t n)] h = _ := fun h => runOf w (k + 1) (Q1 t n) d h
  have e4 := fun h => nthTalk (p := t.pre) (c := t.cyc) n h wt.lc1 wt.lc
  have e5 := tickOf' w k (spF ts t (k + 1) n) hk (p1450 s3)
  have e6 := tickOf' w k (spL ts t (k + 1) n) hk (p1450 s4)
  rw [← s1] at e5
  rw [← s2] at e6
  unfold Sh.span_by; rw [W_fn]; unfold Sh.span_by_b
  simp [hr, e1, e2, e3]
  have eS : spI ts t (k + 1) n = sfold t.name ((LI ts (k + 1) (Q1 t n - 1) : Int) + 1) (runL ts (k + 1) (Q1 t n)) := rfl
  refine W_forL (fun j e h' => h' = [] ∧ ∃ (f : Int) (a b c : Option D), e = [some (.lst (ts.map dMem)), some (dMem t), some (.int n), some (.int (Q1 t n)), some (.int f), a, b, c, none] ∧ sfold t.name f ((runL ts (k + 1) (Q1 t n)).drop j) = spI ts t (k + 1) n) _ _ _ ⟨rfl, _, _, _, _, rfl, rfl⟩ (fun j d hd e h' hI => ?_) (fun e h' hI => ?_)
  · obtain ⟨rfl, f, a, b, c, rfl, hf⟩ := hI
    rw [List.getElem?_map, Option.map_eq_some_iff] at hd
    obtain ⟨x, hx, rfl⟩ := hd
    have hj := (List.getElem?_eq_some_iff.mp hx).1
    have wx := w.tk x.t (runL_mem (List.mem_of_getElem? hx))
    have ed : (runL ts (k + 1) (Q1 t n)).drop j = x :: (runL ts (k + 1) (Q1 t n)).drop (j + 1) := by
      rw [List.drop_eq_getElem_cons hj]
      congr 1
      exact (List.getElem?_eq_some_iff.mp hx).2
    rw [ed, sfold] at hf
    refine ⟨_, rfl, ?_⟩
    simp [W_eqS, strOk_nm wx.name, strOk_nm wt.name]
    by_cases hn : x.t.name = t.name
    · rw [if_pos hn] at hf
      subst hf
      simp [hn, e4, dT, hr, e5, e6]
    · rw [if_neg hn] at hf
      simp [hn]
      exact hf
  · obtain ⟨rfl, f, a, b, c, rfl, hf⟩ := hI
    rw [List.length_map, List.drop_length, sfold] at hf
    subst hf
    simp [e4, dT, hr, e5, e6]
theorem sp_ok3 (w : WfHall T30 ts) (ht : t ∈ ts) (r n : Nat) (hn : n + 1 < 2 ^ 4) : spI ts t r n = spF ts t r n ∧ spI ts t r n + (nth t.pre t.cyc n).2 - 1 = spL ts t r n ∧ spF ts t r n < 2 ^ 215 ∧ spL ts t r n < 2 ^ 215 := by
  have wt := w.tk t ht
  have a := sfold_le t.name (runL ts r (Q1 t n)) ((LI ts r (Q1 t n - 1) : Int) + 1) fun y hy => runL_len w hy
  have b := runL_length w r (Q1 t n)
  have c := Q1_le wt n
  have d : Q1 t n - 1 < 2 ^ 104 := by
    have : (n + 1) * 2 ^ 100 < 2 ^ 4 * 2 ^ 100 := Nat.mul_lt_mul_of_pos_right hn (by decide)
    rw [← Nat.pow_add] at this
    have e : (4 + 100) = 104 := rfl
    omega
  have e := LI_le w r d
  have e1 : (2 : Nat) ^ (104 + 105) + 2 ^ 150 < 2 ^ 215 := by decide
  have hl := wt.nth1 n
  have l1 := hl.2.2.1
  have l2 := hl.2.2.2
  have m : ((runL ts r (Q1 t n)).length : Int) * T30 ≤ 10 * T30 := Int.mul_le_mul_of_nonneg_right (by omega) (by decide)
  have i0 : 0 ≤ spI ts t r n := by unfold spI; omega
  have i1 : spI ts t r n ≤ (LI ts r (Q1 t n - 1) : Int) + 1 + 10 * T30 := by unfold spI; omega
  have f1 : spI ts t r n = spF ts t r n := (Int.toNat_of_nonneg i0).symm
  have f2 : spI ts t r n + (nth t.pre t.cyc n).2 - 1 = spL ts t r n := (Int.toNat_of_nonneg (by omega)).symm
  have t1 : (T30 : Int) * 12 < ((2 ^ 150 : Nat) : Int) := by decide
  generalize (2 : Nat) ^ (104 + 105) = A at e e1
  generalize (2 : Nat) ^ 150 = B at t1 e1
  generalize (2 : Nat) ^ 215 = G at e1 ⊢
  simp only [T30] at *
  exact ⟨f1, f2, by omega, by omega⟩
theorem spanOfD2 {d : D} (hd : Hallish d ts) (w : WfHall T30 ts) (ht : t ∈ ts) (k n : Nat) (hk : k < 10) (hr : t.rank = (k : Int) + 1) (hn : n + 1 < 2 ^ 1200) (h : OH) : pureF Sh.span_of [d, .str t.name, .int n] h = .ok (.tup [.int (TO ts k (spF ts t (k + 1) n)), .int (TO ts k (spL ts t (k + 1) n))]) h := by
  refine pure_eq h (by simp [hd.pure]) (by simp) ?_
  have e1 : ∀ h, pureF Sh.located [d, .str t.name, .int n] h = .ok (.tup [.lst (ts.map dMem), dMem t, .tup [.int (TO ts k (spF ts t (k + 1) n)), .int (TO ts k (spL ts t (k + 1) n))]]) h := fun h => by
    refine pure_eq h (by simp [hd.pure]) (by simp) ?_
    unfold Sh.located; rw [W_fn]; unfold Sh.located_b
    simp [hd.chk, memberOf ts t _ w ht, checkNo n _ (by omega), spanBy2 w ht k n hk hr hn]
  unfold Sh.span_of; rw [W_fn]; unfold Sh.span_of_b
  simp [e1]
theorem bl2_pow {a k : Nat} (h : bl2 a ≤ k) : a < 2 ^ k := by
  refine Nat.lt_of_lt_of_le ?_ (Nat.pow_le_pow_right (by decide) h)
  unfold bl2
  split
  · rename_i e
    rw [e]
    decide
  · exact Nat.lt_log2_self
theorem endT_small (w : WfHall T30 ts) (ht : t ∈ ts) (hp : t.pre.length ≠ 0) : endT ts t < 2 ^ 1161 := by
  have wt := w.tk t ht
  have lp := wt.lp
  have r1 := wt.r1
  have r2 := wt.r2
  obtain ⟨_, _, _, s⟩ := sp_ok3 w ht (t.rank.toNat - 1 + 1) (t.pre.length - 1) (by omega)
  have a := TO_le w (t.rank.toNat - 1) s
  have b : (2 : Nat) ^ (215 + 105 * (t.rank.toNat - 1)) ≤ 2 ^ 1160 := Nat.pow_le_pow_right (by decide) (by omega)
  have c : (2 : Nat) ^ 1160 + 1 < 2 ^ 1161 := by decide
  unfold endT
  generalize (2 : Nat) ^ 1160 = B at *
  generalize (2 : Nat) ^ 1161 = C at *
  omega
theorem stCy_small (w : WfHall T30 ts) : stCy ts < 2 ^ 1161 := by
  have key : ∀ (us : List Tk) (f : Nat), (∀ t ∈ us, t ∈ ts) → f < 2 ^ 1161 → us.foldl (stF ts) f < 2 ^ 1161 := fun us => by
    induction us with
    | nil => exact fun f _ h => h
    | cons t us ih =>
      intro f hu hf
      refine ih _ (fun v hv => hu v (List.mem_cons_of_mem _ hv)) ?_
      unfold stF
      split
      · exact hf
      · rename_i hp
        exact Nat.max_lt.mpr ⟨hf, endT_small w (hu t List.mem_cons_self) hp⟩
  exact key ts 0 (fun t h => h) (Nat.two_pow_pos _)
theorem begun_le (w : WfHall T30 ts) (ht : t ∈ ts) (l : Nat) {k : Nat} (hk : k < 10) (hr : t.rank = (k : Int) + 1) : ((vAt ts l).σ t.name).begun ≤ l + 1 := by
  have wt := w.tk t ht
  have a := (cnt_at wt.pos1 (LB ts (k + 1) l)).1
  have b := acc_ge wt.pos1 (cnt t.pre t.cyc (LB ts (k + 1) l))
  have c := LB_le w.tk (k + 1) l
  cases rn : runAt (k + 1) (LB ts (k + 1) l) t with
  | none =>
    rw [vAt_no w ht l hk hr rn]
    simp [St.begun]
    omega
  | some y =>
    have yi : y.i = cnt t.pre t.cyc (LB ts (k + 1) l) - 1 := by
      unfold runAt at rn
      split at rn
      · cases rn
        rfl
      · cases rn
    rw [vAt_run w ht l hk hr rn]
    unfold St.begun
    split <;> dsimp only <;> split <;> omega
end
end HR
set_option Elab.async false
set_option linter.all false
set_option maxRecDepth 20000
set_option exponentiation.threshold 5000
namespace HR
open PySem L2
/-! ### law k71: far descents -/
section
variable {ts : List Tk}
theorem descentByL (w : WfHall T30 ts) (l : Nat) (hl : l < 2 ^ 4000) : ∃ L : List Trip, L.length ≤ 9 ∧ ∀ h, pureF Sh.descent_by [.lst (ts.map dMem), .int l] h = .ok (.lst ((L ++ [lastD ts 9 0 l]).map dTrip)) h := by
  have key : (Sh.descent_by [.lst (ts.map dMem), .int l] []).W fun d _ => ∃ L : List Trip, L.length ≤ 9 ∧ d = .lst ((L ++ [lastD ts 9 0 l]).map dTrip) := by
    unfold Sh.descent_by; rw [W_fn]; unfold Sh.descent_by_b
    have r1 : rngOk 1 = true := by decide
    have r2 : rngOk 11 = true := by decide
    simp [r1, r2]
    refine W_forL (fun j e h' => ∃ (L : List Trip) (x : Nat) (a b : Option D), h' = [.lst (L.map dTrip)] ∧ e = [some (.lst (ts.map dMem)), some (.int l), some (.ref 0), some (.int x), a, b] ∧ x ≤ l ∧ L.length = j ∧ (j < 10 → lastD ts (9 - j) j x = lastD ts 9 0 l) ∧ (j = 10 → ∃ L', L = L' ++ [lastD ts 9 0 l])) _ _ _
      ⟨[], l, none, none, rfl, rfl, Nat.le_refl _, rfl, fun _ => rfl, fun z => absurd z (by decide)⟩ (fun j d hd e h' hI => ?_) (fun e h' hI => ?_)
    · obtain ⟨L, x, a, b, rfl, rfl, hx, hL, hT, _⟩ := hI
      obtain ⟨hj, rfl⟩ := rngD_at hd
      have hj' : j < 10 := hj
      refine ⟨_, rfl, ?_⟩
      have e1 : (1 : Int) + (j : Int) = ((j + 1 : Nat) : Int) := by simp; omega
      have q1 := quietAmong w (j + 1) x (by omega)
      have hq := (inv_gal (LI_inc w.tk (j + 1))).small (LI_inc w.tk (j + 1)) x
      have q2 := leftIndex w (j + 1) (inv (LI ts (j + 1)) x) (small_of (k := 4000) (by omega) (by decide))
      have hT' := hT hj'
      have z1 : ((j + 1 : Nat) : Int) = (j : Int) + 1 := by simp
      simp only [e1]
      have lim : L.length < 1000000 := by omega
      obtain ⟨z, hz⟩ : ∃ z : Int, z = ((j + 1 : Nat) : Int) := ⟨_, rfl⟩
      rw [← hz] at q1 q2 ⊢
      simp [q1, q2, lim]
      by_cases hb : x = LI ts (j + 1) (inv (LI ts (j + 1)) x)
      · have hb' : (x : Int) = (LI ts (j + 1) (inv (LI ts (j + 1)) x) : Int) := congrArg (fun z : Nat => (z : Int)) hb
        rw [if_pos hb']
        refine ⟨L ++ [(j + 1, x, inv (LI ts (j + 1)) x)], ?_, inv (LI ts (j + 1)) x, rfl, by omega, by simp [hL], fun h9 => ?_, fun h9 => ?_⟩
        · simp [dTrip, hz]
        · rw [← hT', show 9 - j = (8 - j) + 1 from by omega, lastD, if_pos hb]
        · refine ⟨L, ?_⟩
          rw [← hT', show 9 - j = 0 from by omega, lastD]
      · have hb' : ¬ (x : Int) = (LI ts (j + 1) (inv (LI ts (j + 1)) x) : Int) := by omega
        rw [if_neg hb']
        refine ⟨L, by omega, ?_⟩
        rw [← hT']
        by_cases h9 : j = 9
        · subst h9
          simp [lastD, dTrip, hz]
        · rw [show 9 - j = (8 - j) + 1 from by omega, lastD, if_neg hb]
          simp [dTrip, hz]
    · obtain ⟨L, x, a, b, rfl, rfl, hx, hL, _, hT⟩ := hI
      obtain ⟨L', rfl⟩ := hT rfl
      simp at hL
      simp
      exact ⟨L', by omega, rfl⟩
  obtain ⟨d, h', e, L, hl9, rfl⟩ := key.out
  refine ⟨L, hl9, fun h => pure_eq h (by simp) (pureL_dTrip _) ?_⟩
  rw [e]
  rfl
theorem descentOfL (w : WfHall T30 ts) (l : Nat) (hl : l + 1 < 2 ^ 4000) : ∃ L : List Trip, L.length ≤ 10 ∧ ∀ h, pureF Sh.descent_of_1 [.lst (ts.map dTk), .int l] h = .ok (.lst (L.map dTrip)) h := by
  obtain ⟨L, l9, e⟩ := descentByL w l (by omega)
  have ck := (hallish w).chk
  refine ⟨L ++ [lastD ts 9 0 l], by simp; omega, fun h => pure_eq h (by simp) (show D.pureL _ = true from pureL_dTrip _) ?_⟩
  unfold Sh.descent_of_1; rw [W_fn]; unfold Sh.descent_of_1_b
  simp [ck, checkTick, e]
theorem isLine (x : Trip) (h : OH) : pureF Sh.is_line [dTrip x] h = .ok (.bl true) h := by
  refine pure_eq h (by simp [pure_dTrip]) rfl ?_
  unfold Sh.is_line; rw [W_fn]; unfold Sh.is_line_b
  simp [dTrip, lcGo, wipeD, big]
theorem eqTrips (L : List Trip) (h : OH) {PD : D → OH → Prop} : (opEq false (.lst (L.map dTrip)) (.lst (L.map dTrip)) h).W PD = PD (.bl true) h :=
  W_eqRf (k := 2) (eqOk_lst (eqOks_all fun d hd => by
    obtain ⟨x, _, rfl⟩ := List.mem_map.mp hd
    exact eqOk_tup (eqOks_cons (eqOk_int _) (eqOks_cons (eqOk_int _) (eqOks_cons (eqOk_int _) (eqOks_nil _)))))) (by decide) false h
theorem isDescent71 (w : WfHall T30 ts) (l : Nat) (hl : l + 1 < 2 ^ 4000) : ∃ L : List Trip, (∀ h, pureF Sh.descent_of_1 [.lst (ts.map dTk), .int l] h = .ok (.lst (L.map dTrip)) h) ∧ ∀ h, pureF Sh.is_descent_1 [.lst (ts.map dTk), .int l, .lst (L.map dTrip)] h = .ok (.bl true) h := by
  obtain ⟨L, l10, e⟩ := descentOfL w l hl
  refine ⟨L, e, fun h => pure_eq h (by simp) rfl ?_⟩
  have il := fun (x : Trip) h => isLine x h
  have eq := fun (h : OH) (PD : D → OH → Prop) => eqTrips L h (PD := PD)
  unfold Sh.is_descent_1; rw [W_fn]; unfold Sh.is_descent_1_b
  generalize pureF Sh.descent_of_1 = DO at e ⊢
  generalize pureF Sh.is_line = IL at il ⊢
  refine SW_seqK fun K hK => ?_
  simp [e]
  refine hK _ _ ?_
  clear hK K
  refine SW_seqK fun K hK => ?_
  simp [wipeD]
  refine W_lcMap1 L dTrip (fun _ => .bl true) _ (by simp only [big]; omega) (fun x hx => ⟨_, rfl, by simp [il]⟩) ?_
  rw [bs_mapF (fun _ : Trip => true) L]
  simp
  refine hK _ _ ?_
  clear hK K
  simp [wipeD]
  refine W_lcMap1 L dTrip dTrip _ (by simp only [big]; omega) (fun x hx => ⟨_, rfl, by simp [dTrip]⟩) ?_
  simp [eq]
end
end HR
set_option Elab.async false
set_option linter.all false
set_option maxRecDepth 20000
set_option exponentiation.threshold 5000
namespace HR
open PySem L2
/-! ### law k71: the shares hold -/
section
variable {ts : List Tk}
/-- what is spoken by each, and what is silent, in one cycle -/
def amtL (ts : List Tk) : List Nat := ts.map (amt ts) ++ [cyW ts 10]
theorem amtL_sum (w : WfHall T30 ts) : ((amtL ts).map fun n : Nat => (n : Int)).sum = (cyL ts : Int) := by
  have h : (amtL ts).sum = cyL ts := by
    unfold amtL
    rw [List.sum_append]
    simpa using amt_all w
  rw [← h]
  generalize amtL ts = l
  induction l with
  | nil => rfl
  | cons x l ih => simp [ih]
theorem amtL_rows (w : WfHall T30 ts) : (amtL ts).map (fun a => dPr (red (a, cyL ts))) = (shE ts).map fun q => dPr (red q.2) := by
  unfold amtL shE
  rw [List.map_append, List.map_append, List.map_map, List.map_map]
  congr 1
  · refine List.map_congr_left fun t ht => ?_
    have wt := w.tk t ht
    have r1 := wt.r1
    have r2 := wt.r2
    have hr : t.rank = ((t.rank.toNat - 1 : Nat) : Int) + 1 := by omega
    obtain ⟨n, n1, _⟩ := prog_far w ht (k := t.rank.toNat - 1) (by omega) hr (Nat.le_refl (stCy ts)) 1
    rw [Nat.one_mul] at n1
    have := share_tk w ht (k := t.rank.toNat - 1) (by omega) hr n1
    rw [amt_n w ht hr n1] at this
    show dPr (red (amt ts t, cyL ts)) = dPr (red (fr lcmL ts t))
    rw [this]
  · show [dPr (red (cyW ts 10, cyL ts))] = [dPr (red (tp lcmL ts 10, bt lcmL ts 10))]
    rw [share_sil w]
theorem amtL_bl (w : WfHall T30 ts) {a : Nat} (h : a ∈ amtL ts) : bl2 a ≤ 2000 := by
  have e : (amtL ts).sum = cyL ts := by
    unfold amtL
    rw [List.sum_append]
    simpa using amt_all w
  have le : ∀ (l : List Nat), a ∈ l → a ≤ l.sum := fun l => by
    induction l with
    | nil => intro h; cases h
    | cons x l ih =>
      intro h
      rw [List.sum_cons]
      rcases List.mem_cons.mp h with rfl | h
      · omega
      · have := ih h
        omega
  have := bl2_mono (le _ h)
  rw [e] at this
  have := (cyN_bl w (k := 10) (Nat.le_refl _)).1
  unfold cyL at *
  omega
theorem spoken71 (w : WfHall T30 ts) {t : Tk} (ht : t ∈ ts) : ∃ a : Int, (∀ h, pureF Sh.ticks_spoken [.lst (ts.map dTk), .str t.name, .int ((stCy ts + cyL ts : Nat) : Int)] h = .ok (.int (a + (amt ts t : Nat))) h) ∧ ∀ h, pureF Sh.ticks_spoken [.lst (ts.map dTk), .str t.name, .int ((stCy ts : Nat) : Int)] h = .ok (.int a) h := by
  have wt := w.tk t ht
  have r1 := wt.r1
  have r2 := wt.r2
  have hr : t.rank = ((t.rank.toNat - 1 : Nat) : Int) + 1 := by omega
  have s0 := stCy_small w
  have b0 : cyL ts < 2 ^ 1051 := bl2_pow (cyN_bl w (k := 10) (Nat.le_refl _)).1
  have bb : (2 : Nat) ^ 1161 + 2 ^ 1051 + 1 < 2 ^ 4000 := by decide
  obtain ⟨n, n1, _, _, e⟩ := prog_far w ht (k := t.rank.toNat - 1) (by omega) hr (Nat.le_refl (stCy ts)) 1
  rw [Nat.one_mul] at n1 e
  rw [amt_n w ht hr n1] at e
  refine ⟨_, fun h => ?_, fun h => ticksSpoken w ht (t.rank.toNat - 1) (stCy ts) (by omega) hr (by omega) h⟩
  rw [ticksSpoken w ht (t.rank.toNat - 1) (stCy ts + cyL ts) (by omega) hr (by omega) h, e]
theorem silent71 (w : WfHall T30 ts) : ∃ a : Int, (∀ h, pureF Sh.silent_before [.lst (ts.map dTk), .int ((stCy ts + cyL ts : Nat) : Int)] h = .ok (.int (a + (cyW ts 10 : Nat))) h) ∧ ∀ h, pureF Sh.silent_before [.lst (ts.map dTk), .int ((stCy ts : Nat) : Int)] h = .ok (.int a) h := by
  have s0 := stCy_small w
  have b0 : cyL ts < 2 ^ 1051 := bl2_pow (cyN_bl w (k := 10) (Nat.le_refl _)).1
  have bb : (2 : Nat) ^ 1161 + 2 ^ 1051 + 1 < 2 ^ 4000 := by decide
  have e := LB_far w (Nat.le_refl (stCy ts)) (k := 10) (Nat.le_refl _) 1
  rw [Nat.one_mul, Nat.one_mul] at e
  refine ⟨(LB ts 10 (stCy ts) : Nat), fun h => ?_, fun h => silentBefore w (stCy ts) (by omega) h⟩
  rw [silentBefore w (stCy ts + cyL ts) (by omega) h, e]
  rfl
theorem cutRow (n : D) (p : Nat × Nat) (h : OH) {PD : D → OH → Prop} : (opCut false (dRow n p) (some 1) none h).W PD = PD (dPr p) h := by
  have e : opCut false (dRow n p) (some 1) none h = .ok (dPr p) h := rfl
  rw [e]
  rfl
theorem sharesHold (P : Program) (wd : World) (w : WfHall T30 ts) (h : OH) : pureF (Sh.l_shares_hold P wd) [.lst (ts.map dTk), .int ((stCy ts : Nat) : Int), .int ((cyL ts : Nat) : Int)] h = .ok (.bl true) h := by
  refine pure_eq h (by simp) rfl ?_
  have hlen := w.len
  have sh := fun h => show noXF (pureF (Sh.shares_of_1 P wd)) [.lst (ts.map dTk)] h = .ok (.lst ((shE ts).map fun q => dRow q.1 (red q.2))) h by rw [noXF_at, shares1 (hallish w) w P wd, shE_rows]; rfl
  have sp := fun {t : Tk} (ht : t ∈ ts) => spoken71 w ht
  have si := silent71 w
  have ls := fun {a : Nat} (ha : a ∈ amtL ts) (h : OH) => share71 h (a := a) (b := cyL ts) (cyL_pos w) (amtL_bl w ha) (by have := (cyN_bl w (k := 10) (Nat.le_refl _)).1; unfold cyL; omega)
  have en : ∀ (h : OH) (PD : D → OH → Prop), (opEq true (.lst ((shE ts).map (·.1))) (.lst ((shE ts).map (·.1))) h).W PD = PD (.bl false) h := fun h PD => W_eqRf (k := 1) (eqOk_lst (eqOks_all fun d hd => by
    rw [← shE_names] at hd
    rcases List.mem_append.mp hd with z | z
    · obtain ⟨u, hu, rfl⟩ := List.mem_map.mp z
      exact eqOk_str (strOk_nm (w.tk u hu).name)
    · rw [List.mem_singleton] at z
      subst z
      exact eqOk_non)) (by decide) true h
  have er : ∀ (h : OH) (PD : D → OH → Prop), (opEq false (.lst ((shE ts).map fun q => dPr (red q.2))) (.lst ((shE ts).map fun q => dPr (red q.2))) h).W PD = PD (.bl true) h := fun h PD => W_eqRf (k := 2) (eqOk_lst (eqOks_all fun d hd => by
    obtain ⟨u, hu, rfl⟩ := List.mem_map.mp hd
    exact eqOk_tup (eqOks_cons (eqOk_int _) (eqOks_cons (eqOk_int _) (eqOks_nil _))))) (by decide) false h
  have am := amtL_sum w
  have ar := amtL_rows w
  have nm := shE_names ts
  have le : (shE ts).length = ts.length + 1 := by simp [shE]
  have la : (amtL ts).length = ts.length + 1 := by simp [amtL]
  have ea : ts.map (fun t => D.int ((amt ts t : Nat) : Int)) ++ [.int ((cyW ts 10 : Nat) : Int)] = (amtL ts).map fun n : Nat => D.int (n : Int) := by
    unfold amtL
    rw [List.map_append, List.map_map]
    rfl
  have e0 : ((stCy ts : Nat) : Int) + ((cyL ts : Nat) : Int) = ((stCy ts + cyL ts : Nat) : Int) := by simp
  unfold Sh.l_shares_hold; rw [W_fn]; unfold Sh.l_shares_hold_b
  obtain ⟨a10, si1, si0⟩ := si
  have si1 := fun h => show noXF (pureF Sh.silent_before) [.lst (ts.map dTk), .int ((stCy ts + cyL ts : Nat) : Int)] h = .ok (.int (a10 + (cyW ts 10 : Nat))) h by rw [noXF_at, si1]; rfl
  have si0 := fun h => show noXF (pureF Sh.silent_before) [.lst (ts.map dTk), .int ((stCy ts : Nat) : Int)] h = .ok (.int a10) h by rw [noXF_at, si0]; rfl
  have sp := fun {t : Tk} (ht : t ∈ ts) => show ∃ a : Int, (∀ h, noXF (pureF Sh.ticks_spoken) [.lst (ts.map dTk), .str t.name, .int ((stCy ts + cyL ts : Nat) : Int)] h = .ok (.int (a + (amt ts t : Nat))) h) ∧ ∀ h, noXF (pureF Sh.ticks_spoken) [.lst (ts.map dTk), .str t.name, .int ((stCy ts : Nat) : Int)] h = .ok (.int a) h by
    obtain ⟨a, p, q⟩ := sp ht
    exact ⟨a, fun h => by rw [noXF_at, p]; rfl, fun h => by rw [noXF_at, q]; rfl⟩
  generalize ((stCy ts + cyL ts : Nat) : Int) = EN at *
  generalize ((stCy ts : Nat) : Int) = ST at *
  generalize noXF (pureF (Sh.shares_of_1 P wd)) = SO at sh ⊢
  generalize noXF (pureF Sh.ticks_spoken) = TS at sp ⊢
  generalize noXF (pureF Sh.silent_before) = SB at si0 si1 ⊢
  generalize pureF Sh.l_share = LS at ls ⊢
  refine SW_seqK fun K hK => ?_
  simp [sh]
  refine hK _ _ ?_
  clear hK K
  refine SW_seqK fun K hK => ?_
  simp [wipeD]
  refine W_lcMap1 (shE ts) (fun q => dRow q.1 (red q.2)) (·.1) _ (by simp [big]; omega) (fun q hq => ⟨_, rfl, by simp [dRow]⟩) ?_
  refine W_lcMap1 ts dTk (fun t => .str t.name) _ (by simp [big]; omega) (fun t ht => ⟨_, rfl, by simp [dTk]⟩) ?_
  simp [nm, en]
  refine ⟨by omega, ?_⟩
  refine hK _ _ ?_
  clear hK K
  refine SW_seqK fun K hK => ?_
  simp [e0]
  refine hK _ _ ?_
  clear hK K
  refine SW_seqK fun K hK => ?_
  simp [wipeD]
  refine W_lcMap1 ts dTk (fun t => .int ((amt ts t : Nat) : Int)) _ (by simp [big]; omega) (fun t ht => ⟨_, rfl, ?_⟩) ?_
  · obtain ⟨a, p, q⟩ := sp ht
    simp [dTk] at p q ⊢
    simp [p, q]
    omega
  refine hK _ _ ?_
  clear hK K
  refine SW_seqK fun K hK => ?_
  simp [si0, si1]
  refine ⟨by omega, ?_⟩
  rw [show a10 + ((cyW ts 10 : Nat) : Int) - a10 = ((cyW ts 10 : Nat) : Int) by omega, ea]
  refine hK _ _ ?_
  clear hK K
  have im : intsOf ((amtL ts).map fun n : Nat => D.int (n : Int)) = some ((amtL ts).map fun n : Nat => (n : Int)) := by
    rw [show ((amtL ts).map fun n : Nat => D.int (n : Int)) = ((amtL ts).map fun n : Nat => (n : Int)).map D.int by rw [List.map_map]; rfl]
    exact intsOf_map _
  refine SW_seqK fun K hK => ?_
  simp [im, am]
  refine hK _ _ ?_
  clear hK K
  simp [wipeD]
  refine W_lcMap1 (shE ts) (fun q => dRow q.1 (red q.2)) (fun q => dPr (red q.2)) _ (by simp [big]; omega) (fun q hq => ⟨_, rfl, by simp [sPart, sNoPart, cutRow]⟩) ?_
  refine W_lcMap1 (amtL ts) (fun n : Nat => D.int (n : Int)) (fun a => dPr (red (a, cyL ts))) _ (by simp [big]; omega) (fun a ha => ⟨_, rfl, by simp [ls ha]⟩) ?_
  rw [ar]
  simp [er]
end
end HR
set_option Elab.async false
set_option linter.all false
set_option maxRecDepth 20000
set_option exponentiation.threshold 5000
namespace HR
open PySem L2
/-! ### law k71: the talks hold -/
section
variable {ts : List Tk}
theorem cyL_small (w : WfHall T30 ts) : cyL ts < 2 ^ 1051 := bl2_pow (cyN_bl w (k := 10) (Nat.le_refl _)).1
/-- a tick some cycles later is small -/
theorem far_small (w : WfHall T30 ts) {d m : Nat} (hd : d < 3 * cyL ts) (hm : m ≤ 10 ^ 20) : stCy ts + d + m * cyL ts + 1 < 2 ^ 1170 := by
  have a := stCy_small w
  have b := cyL_small w
  have c : m * cyL ts ≤ 10 ^ 20 * cyL ts := Nat.mul_le_mul_right _ hm
  have e : (2 : Nat) ^ 1161 + 3 * 2 ^ 1051 + 10 ^ 20 * 2 ^ 1051 + 1 < 2 ^ 1170 := by decide
  omega
/-- what talks_before and span_of tell at l and some cycles later -/
theorem talks71 (w : WfHall T30 ts) {t : Tk} (ht : t ∈ ts) {d m : Nat} (hd : d < 2 * cyL ts) (hm : m ≤ 10 ^ 20) :
    ∃ b e c f g : Nat, c < 2 ^ 1200 ∧
      (∀ h, pureF Sh.talks_before [.lst (ts.map dTk), .str t.name, .int ((stCy ts + d : Nat) : Int)] h = .ok (.tup [.int (b : Int), .int (e : Int)]) h) ∧
      (∀ h, pureF Sh.talks_before [.lst (ts.map dTk), .str t.name, .int ((stCy ts + d + cyL ts : Nat) : Int)] h = .ok (.tup [.int ((b : Int) + (c : Int)), .int ((e : Int) + (c : Int))]) h) ∧
      (∀ h, pureF Sh.talks_before [.lst (ts.map dTk), .str t.name, .int ((stCy ts + d + m * cyL ts : Nat) : Int)] h = .ok (.tup [.int ((b : Int) + (m : Int) * (c : Int)), .int ((e : Int) + (m : Int) * (c : Int))]) h) ∧
      stCy ts ≤ f ∧
      (∀ h, pureF Sh.span_of [.lst (ts.map dTk), .str t.name, .int (b : Int)] h = .ok (.tup [.int (f : Int), .int (g : Int)]) h) ∧
      (∀ h, pureF Sh.span_of [.lst (ts.map dTk), .str t.name, .int ((b : Int) + (m : Int) * (c : Int))] h = .ok (.tup [.int ((f : Int) + (m : Int) * (cyL ts : Int)), .int ((g : Int) + (m : Int) * (cyL ts : Int))]) h) := by
  have wt := w.tk t ht
  have r1 := wt.r1
  have r2 := wt.r2
  obtain ⟨k, hk⟩ : ∃ k : Nat, k = t.rank.toNat - 1 := ⟨_, rfl⟩
  have hr : t.rank = (k : Int) + 1 := by omega
  have hk10 : k < 10 := by omega
  have s1 := far_small w (d := d) (m := 1) (by omega) (by decide)
  have sm := far_small w (d := d) (m := m) (by omega) hm
  rw [Nat.one_mul] at s1
  have pp : (2 : Nat) ^ 1170 < 2 ^ 4000 := by decide
  obtain ⟨n, n1, x1, x2, _⟩ := prog_far w ht hk10 hr (l := stCy ts + d) (by omega) 1
  obtain ⟨n', m1, y1, y2, _⟩ := prog_far w ht hk10 hr (l := stCy ts + d) (by omega) m
  rw [Nat.one_mul] at n1 x1 x2
  have enm : n' = m * n := by
    refine Nat.eq_of_mul_eq_mul_right (qs_pos wt) ?_
    rw [m1, ← n1, Nat.mul_assoc]
  subst enm
  obtain ⟨p1, p2⟩ := vAt_prog w ht (stCy ts + d) hk10 hr
  have bl := begun_le w ht (stCy ts + d + m * cyL ts) hk10 hr
  obtain ⟨q1, _⟩ := vAt_prog w ht (stCy ts + d + m * cyL ts) hk10 hr
  have bl1 := begun_le w ht (stCy ts + d + cyL ts) hk10 hr
  obtain ⟨q2, _⟩ := vAt_prog w ht (stCy ts + d + cyL ts) hk10 hr
  have bf := begun_first w ht hk10 hr (stCy ts + d)
  have ip : t.pre.length ≤ ((vAt ts (stCy ts + d)).σ t.name).begun := by
    obtain ⟨_, _, _, _, _, z, _⟩ := vAt_far w ht hk10 hr (l := stCy ts + d) (by omega) 0
    unfold St.begun
    omega
  have t0 := talksBefore w ht k (stCy ts + d) hk10 hr (by omega)
  have t1 := talksBefore w ht k (stCy ts + d + cyL ts) hk10 hr (by omega)
  have tm := talksBefore w ht k (stCy ts + d + m * cyL ts) hk10 hr (by omega)
  rw [y1, p1] at q1
  rw [x1, p1] at q2
  rw [p1, p2] at t0
  rw [x1, x2, p1, p2] at t1
  rw [y1, y2, p1, p2] at tm
  generalize ((vAt ts (stCy ts + d)).σ t.name).begun = b at *
  generalize ((vAt ts (stCy ts + d)).σ t.name).i = e at *
  have ebn : b + m * n * t.cyc.length ≤ stCy ts + d + m * cyL ts + 1 := by omega
  have p12 : (2 : Nat) ^ 1170 + 10 < 2 ^ 1200 := by decide
  obtain ⟨f1, f2⟩ := span_far w ht hk10 hr (n := b) (by omega) ip m1
  have sp0 := fun h => spanOfD2 (hallish w) w ht k b hk10 hr (by omega) h
  have sp1 := fun h => spanOfD2 (hallish w) w ht k (b + m * n * t.cyc.length) hk10 hr (by omega) h
  rw [f1, f2] at sp1
  have ec : ((m * n * t.cyc.length : Nat) : Int) = (m : Int) * ((n * t.cyc.length : Nat) : Int) := by
    rw [Nat.mul_assoc]
    exact Int.natCast_mul _ _
  refine ⟨b, e, n * t.cyc.length, _, _, by omega, t0, t1, fun h => ?_, Nat.le_trans (Nat.le_add_right _ _) bf, sp0, fun h => ?_⟩
  · rw [tm, ec]
  · have := sp1 h
    rw [Int.natCast_add, ec] at this
    rw [this]
    simp
theorem talksHold (w : WfHall T30 ts) (l0 : 0 < ts.length) {h : OH} {i : Nat} (hs : Spr4 h i) {m : Nat} (hm : m ≤ 10 ^ 20) {P : D → OH → Prop} (q : ∀ h', Spr4 h' i → P (.bl true) h') : (Sh.l_talks_hold [.ref i, .lst (ts.map dTk), .int ((stCy ts : Nat) : Int), .int ((cyL ts : Nat) : Int), .int (m : Int)] h).W P := by
  have hl := w.len
  have tk := fun {t : Tk} (ht : t ∈ ts) {d : Nat} (hd : d < 2 * cyL ts) => talks71 w ht hd hm
  have c0 := cyL_pos w
  have cs := cyL_small w
  have cb : bl2 (cyL ts) ≤ 1051 := bl2_lt cs
  have mb : bl2 m ≤ 67 := bl2_lt (by have : (10 : Nat) ^ 20 < 2 ^ 67 := (by decide); omega)
  have sm : Small (2 * ((cyL ts : Nat) : Int)) := small_of (k := 1053) (by have : (2 : Nat) * 2 ^ 1051 < 2 ^ 1053 := (by decide); omega) (by decide)
  have mo1 : mulOk 2 ((cyL ts : Nat) : Int) = true := mulOk_bl (a := 2) (by have : bl2 2 = 2 := (by decide); omega)
  have mo2 : mulOk (m : Int) ((cyL ts : Nat) : Int) = true := mulOk_bl (by omega)
  have mo3 : ∀ c : Nat, c < 2 ^ 1200 → mulOk (m : Int) (c : Int) = true := fun c hc => mulOk_bl (by have := bl2_lt hc; omega)
  have eT : ∀ (neg : Bool) (a b : Int) (h : OH) (PD : D → OH → Prop), (opEq neg (.tup [.int a, .int b]) (.tup [.int a, .int b]) h).W PD = PD (.bl (!neg)) h := fun neg a b h PD => W_eqRf (k := 1) (eqOk_tup (eqOks_cons (eqOk_int _) (eqOks_cons (eqOk_int _) (eqOks_nil _)))) (by decide) neg h
  unfold Sh.l_talks_hold; rw [W_fn]; unfold Sh.l_talks_hold_b
  have tbx : ∀ (as : List D) (a b : Int), (∀ h, pureF Sh.talks_before as h = .ok (.tup [.int a, .int b]) h) → ∀ h, noXF (pureF Sh.talks_before) as h = .ok (.tup [.int a, .int b]) h := fun as a b e h => by
    rw [noXF_at, e]
    rfl
  have sox : ∀ (as : List D) (a b : Int), (∀ h, pureF Sh.span_of as h = .ok (.tup [.int a, .int b]) h) → ∀ h, noXF (pureF Sh.span_of) as h = .ok (.tup [.int a, .int b]) h := fun as a b e h => by
    rw [noXF_at, e]
    rfl
  generalize noXF (pureF Sh.talks_before) = TB at tbx ⊢
  generalize noXF (pureF Sh.span_of) = SO at sox ⊢
  refine SW_seqK fun K hK => ?_
  simp
  refine draw4 hs (by omega) (small_64 (by omega)) fun p h2 p0 p1 s2 c2 => ?_
  obtain ⟨p, rfl⟩ : ∃ m : Nat, p = m := ⟨p.toNat, by omega⟩
  have hp : p < ts.length := by omega
  have ep : ts[p]? = some ts[p] := List.getElem?_eq_getElem hp
  generalize ts[p] = t at ep
  have ht := List.mem_of_getElem? ep
  have ix : atI (ts.map dTk) (p : Int) = some (dTk t) := by
    rw [atI_nat', List.getElem?_map, ep]
    rfl
  simp [ix, dTk]
  refine hK _ _ ?_
  clear hK K
  refine SW_seqK fun K hK => ?_
  simp [mo1]
  refine draw4 s2 (by omega) sm fun d h3 d0 d1 s3 c3 => ?_
  obtain ⟨d, rfl⟩ : ∃ m : Nat, d = m := ⟨d.toNat, by omega⟩
  refine hK _ _ ?_
  clear hK K
  obtain ⟨b, e, c, f, g, hc, t0, t1, tm, hf, sp0, sp1⟩ := tk ht (d := d) (by omega)
  have mo3 := mo3 c hc
  have t0 := tbx _ _ _ t0
  have t1 := tbx _ _ _ t1
  have tm := tbx _ _ _ tm
  have sp0 := sox _ _ _ sp0
  have sp1 := sox _ _ _ sp1
  simp only [Int.natCast_add, Int.natCast_mul] at t0 t1 tm
  refine SW_seqK fun K hK => ?_
  simp [t0, gT, gCs, gN, gNl, seqAt]
  refine hK _ _ ?_
  clear hK K
  refine SW_seqK fun K hK => ?_
  simp [t1, gT, gCs, gN, gNl, seqAt]
  refine hK _ _ ?_
  clear hK K
  refine SW_seqK fun K hK => ?_
  have e1 : (b : Int) + c - b = c := by omega
  have e2 : (e : Int) + c - e = c := by omega
  simp [e1, mo3]
  refine hK _ _ ?_
  clear hK K
  refine SW_seqK fun K hK => ?_
  simp [mo2, mo3, e2, tm, eT]
  refine hK _ _ ?_
  clear hK K
  refine SW_seqK fun K hK => ?_
  simp [sp0, gT, gCs, gN, gNl, seqAt]
  refine hK _ _ ?_
  clear hK K
  refine SW_seqK fun K hK => ?_
  simp
  rw [if_neg (by omega)]
  refine hK _ _ ?_
  clear hK K
  simp [sp1, mo2, eT]
  exact q _ s3
end
end HR
set_option Elab.async false
set_option linter.all false
set_option maxRecDepth 20000
set_option exponentiation.threshold 5000
namespace HR
open PySem L2
/-! ### law k71: one hall -/
theorem p20_71 : sBin opPow (sC (.int 10)) (sC (.int 20)) = sC (.int 100000000000000000000) := by
  funext e h
  rfl
section
variable {ts : List Tk}
/-- one tick, and the tick some cycles later -/
theorem turn71 (w : WfHall T30 ts) {d m : Nat} (hd : d < 3 * cyL ts) (hm : m ≤ 10 ^ 20) :
    ∃ (L : List Trip) (a c : Nat), bl2 c ≤ 2000 ∧
      (∀ h, pureF Sh.l_same_state [.lst (ts.map dTk), .int ((stCy ts : Int) + (d : Int)), .int ((stCy ts : Int) + (d : Int) + (m : Int) * (cyL ts : Int))] h = .ok (.bl true) h) ∧
      (∀ h, noXF (pureF Sh.descent_of_1) [.lst (ts.map dTk), .int ((stCy ts : Int) + (d : Int) + (m : Int) * (cyL ts : Int))] h = .ok (.lst (L.map dTrip)) h) ∧
      (∀ h, noXF (pureF Sh.is_descent_1) [.lst (ts.map dTk), .int ((stCy ts : Int) + (d : Int) + (m : Int) * (cyL ts : Int)), .lst (L.map dTrip)] h = .ok (.bl true) h) ∧
      (∀ h, noXF (pureF Sh.silent_before) [.lst (ts.map dTk), .int ((stCy ts : Int) + (d : Int))] h = .ok (.int (a : Int)) h) ∧
      (∀ h, noXF (pureF Sh.silent_before) [.lst (ts.map dTk), .int ((stCy ts : Int) + (d : Int) + (cyL ts : Int))] h = .ok (.int ((a : Int) + (c : Int))) h) ∧
      (∀ h, noXF (pureF Sh.silent_before) [.lst (ts.map dTk), .int ((stCy ts : Int) + (d : Int) + (m : Int) * (cyL ts : Int))] h = .ok (.int ((a : Int) + (m : Int) * (c : Int))) h) := by
  have s1 := far_small w (d := d) (m := 1) hd (by decide)
  have sm := far_small w (d := d) (m := m) hd hm
  rw [Nat.one_mul] at s1
  have pp : (2 : Nat) ^ 1170 < 2 ^ 4000 := by decide
  have ss := fun h => sameState w (l := stCy ts + d) (by omega) m (by omega) h
  obtain ⟨L, d1, d2⟩ := isDescent71 w (stCy ts + d + m * cyL ts) (by omega)
  have b0 := silentBefore w (stCy ts + d) (by omega)
  have b1 := silentBefore w (stCy ts + d + cyL ts) (by omega)
  have bm := silentBefore w (stCy ts + d + m * cyL ts) (by omega)
  have f1 := LB_far w (l := stCy ts + d) (by omega) (k := 10) (Nat.le_refl _) 1
  have fm := LB_far w (l := stCy ts + d) (by omega) (k := 10) (Nat.le_refl _) m
  rw [Nat.one_mul, Nat.one_mul] at f1
  rw [f1] at b1
  rw [fm] at bm
  have cw := amtL_bl w (a := cyW ts 10) (by unfold amtL; simp)
  simp only [Int.natCast_add, Int.natCast_mul] at ss d1 d2 b0 b1 bm
  refine ⟨L, LB ts 10 (stCy ts + d), cyW ts 10, cw, ss, fun h => ?_, fun h => ?_, fun h => ?_, fun h => ?_, fun h => ?_⟩
  · rw [noXF_at, d1]; rfl
  · rw [noXF_at, d2]; rfl
  · rw [noXF_at, b0]; rfl
  · rw [noXF_at, b1]; rfl
  · rw [noXF_at, bm]; rfl
end
theorem holds71 (P : Program) (wd : World) {h : OH} {i : Nat} (hs : Spr4 h i) {PD : D → OH → Prop} (fin : ∀ h', PD (.bl true) h') : (Sh.l_holds_1 P wd [.ref i] h).W PD := by
  have cy := fun {ts : List Tk} (w : WfHall T30 ts) (h : OH) => show noXF (pureF Sh.cycle_of) [.lst (ts.map dTk)] h = .ok (.tup [.int ((stCy ts : Nat) : Int), .int ((cyL ts : Nat) : Int)]) h by rw [noXF_at, cycleOf (hallish w) w]; rfl
  have sh := fun {ts : List Tk} (w : WfHall T30 ts) (h : OH) => sharesHold P wd w h
  have th := fun {ts : List Tk} (w : WfHall T30 ts) (l0 : 0 < ts.length) {h : OH} {i : Nat} (hs : Spr4 h i) {m : Nat} (hm : m ≤ 10 ^ 20) {P : D → OH → Prop} (q : ∀ h', Spr4 h' i → P (.bl true) h') => talksHold w l0 hs hm q
  have tu := fun {ts : List Tk} (w : WfHall T30 ts) {d m : Nat} (hd : d < 3 * cyL ts) (hm : m ≤ 10 ^ 20) => turn71 w hd hm
  unfold Sh.l_holds_1; rw [W_fn]; unfold Sh.l_holds_1_b
  rw [p20_71]
  generalize noXF (pureF Sh.cycle_of) = CY at cy ⊢
  generalize pureF (Sh.l_shares_hold P wd) = SH at sh ⊢
  generalize Sh.l_talks_hold = TH at th ⊢
  generalize pureF Sh.l_same_state = SS at tu ⊢
  generalize noXF (pureF Sh.descent_of_1) = DO at tu ⊢
  generalize noXF (pureF Sh.is_descent_1) = IDS at tu ⊢
  generalize noXF (pureF Sh.silent_before) = SB at tu ⊢
  refine SW_seqK fun K hK => ?_
  simp
  refine hall4 (ss := [3, 6]) hs (by decide) (by decide) (by decide) (by decide) (by simp only [T30]; decide) fun ts h1 s1 c1 l0 l1 w => ?_
  refine hK _ _ ?_
  clear hK K
  have c0 := cyL_pos w
  have cs := cyL_small w
  have sm : Small (3 * ((cyL ts : Nat) : Int)) := small_of (k := 1053) (by have : (3 : Nat) * 2 ^ 1051 < 2 ^ 1053 := (by decide); omega) (by decide)
  have cb : bl2 (cyL ts) ≤ 1051 := bl2_lt cs
  have mo1 : mulOk 3 ((cyL ts : Nat) : Int) = true := mulOk_bl (a := 3) (by have : bl2 3 = 2 := (by decide); omega)
  refine SW_seqK fun K hK => ?_
  simp [cy w, gT, gCs, gN, gNl, seqAt]
  refine hK _ _ ?_
  clear hK K cy
  refine SW_seqK fun K hK => ?_
  have q1 : ¬ ((cyL ts : Nat) : Int) < 1 := by omega
  simp [q1]
  rw [if_neg (by omega)]
  refine hK _ _ ?_
  clear hK K
  refine SW_seqK fun K hK => ?_
  simp
  refine draw4 s1 (by decide) (small_64 (by decide)) fun x h2 x0 x1 s2 c2 => ?_
  simp
  refine pickI (ns := [3, 100000000000000000000]) x0 x1 fun mx hmx => ?_
  have hmx' : 0 < mx ∧ mx ≤ 100000000000000000000 := by simp at hmx; omega
  refine draw4 s2 hmx'.1 (small_lt 200 (by omega) (by omega)) fun m0 h3 m00 m01 s3 c3 => ?_
  obtain ⟨m, hm⟩ : ∃ m : Nat, 1 + m0 = (m : Int) := ⟨(1 + m0).toNat, by omega⟩
  simp
  rw [hm]
  have hm2 : m ≤ 10 ^ 20 := by omega
  have mb : bl2 m ≤ 67 := bl2_lt (by have : (10 : Nat) ^ 20 < 2 ^ 67 := (by decide); omega)
  have mo2 : mulOk (m : Int) ((cyL ts : Nat) : Int) = true := mulOk_bl (by omega)
  refine hK _ _ ?_
  clear hK K
  have tw := fun {d : Nat} (hd : d < 3 * cyL ts) => tu w hd hm2
  refine SW_seqK fun K hK => ?_
  simp
  refine ⟨by decide, ?_⟩
  refine W_forL (fun k e h' => Spr4 h' i ∧ ∃ a5 a6 a7 a8 : Option D, e = [some (.ref i), some (.lst (ts.map dTk)), some (.int ((stCy ts : Nat) : Int)), some (.int ((cyL ts : Nat) : Int)), some (.int (m : Int)), a5, a6, a7, a8]) _ _ _ ⟨s3, _, _, _, _, rfl⟩ (fun k dd hdd e h' hI => ?_) (fun e h' hI => ?_)
  · obtain ⟨s4, a5, a6, a7, a8, rfl⟩ := hI
    refine ⟨_, rfl, ?_⟩
    refine SW_seqK fun K hK => ?_
    simp [mo1]
    refine draw4 s4 (by omega) sm fun d h5 d0 d1 s5 c5 => ?_
    obtain ⟨d, rfl⟩ : ∃ m : Nat, d = m := ⟨d.toNat, by omega⟩
    refine hK _ _ ?_
    clear hK K
    obtain ⟨L, a, c, bc, f1, f2, f3, f4, f5, f6⟩ := tw (d := d) (by omega)
    have mo3 : mulOk (m : Int) (c : Int) = true := mulOk_bl (by omega)
    have e1 : (a : Int) + c - a = c := by omega
    refine SW_seqK fun K hK => ?_
    simp [mo2, f1]
    refine hK _ _ ?_
    clear hK K
    refine SW_seqK fun K hK => ?_
    simp [mo2]
    refine hK _ _ ?_
    clear hK K
    refine SW_seqK fun K hK => ?_
    simp [f2, f3]
    refine hK _ _ ?_
    clear hK K
    refine SW_seqK fun K hK => ?_
    simp [f4, f5, e1]
    refine hK _ _ ?_
    clear hK K
    simp [f4, f6, mo3]
    exact s5
  · obtain ⟨s4, a5, a6, a7, a8, rfl⟩ := hI
    refine hK _ _ ?_
    clear hK K
    simp [sh w]
    refine th w l0 s4 hm2 fun h6 s6 => ?_
    exact fin h6
theorem stream71 (c k : Int) (h : OH) {P : D → OH → Prop} (q : ∀ o, Spr4 (h ++ [o]) h.length → P (.ref h.length) (h ++ [o])) : (Sh.l_stream [.int c, .int k] h).W P := by
  unfold Sh.l_stream
  rw [W_fn]
  unfold Sh.l_stream_b
  have m1 : mulOk 2 k = true := mulOk_l (by decide)
  have m2 : ∀ x y : Int, mulOk (x % 2147483629 + 1) y = true := fun x y => mulOk_l (by
    have a := Int.emod_nonneg x (show (2147483629 : Int) ≠ 0 by decide)
    have b := Int.emod_lt_of_pos x (show (0 : Int) < 2147483629 by decide)
    omega)
  simp [m1, m2]
  refine q _ ?_
  exact ⟨_, _, (by rw [List.getElem?_append_right (Nat.le_refl _), Nat.sub_self]; rfl), Int.emod_nonneg _ (by decide), Int.emod_lt_of_pos _ (by decide)⟩
theorem enumD_at71 {xs : List D} {k : Nat} {d : D} (h : (enumD xs)[k]? = some d) : ∃ x, xs[k]? = some x ∧ d = .tup [.int (k : Int), x] := by
  simp only [enumD, List.getElem?_mapIdx, Option.map_eq_some_iff] at h
  obtain ⟨x, e1, e2⟩ := h
  exact ⟨x, e1, e2.symm⟩
end HR
set_option Elab.async false
set_option linter.all false
set_option maxRecDepth 20000
set_option exponentiation.threshold 5000
namespace HR
open PySem L2
/-! ### law k71, the law -/
theorem law71 (P : Program) (wd : World) (ns : List Int) (hl : ns.length ≤ 63) : ∃ h', Sh.law_k71 P wd [.scr (ns.map D.int)] [] = .ok (.bl true) h' := by
  suffices w : (Sh.law_k71 P wd [.scr (ns.map D.int)] []).W fun d _ => d = .bl true by
    obtain ⟨a, h', e, rfl⟩ := w.out
    exact ⟨h', e⟩
  have ho := fun {h : OH} {i : Nat} (hs : Spr4 h i) {PD : D → OH → Prop} (fin : ∀ h', PD (.bl true) h') => holds71 P wd hs fin
  unfold Sh.law_k71; rw [W_fn]; unfold Sh.law_k71_b
  generalize Sh.l_holds_1 P wd = HO at ho ⊢
  simp
  rw [cutD_takeF D.int ns 4 (by decide)]
  refine ⟨by simp; omega, ?_⟩
  obtain ⟨m, hm⟩ : ∃ m : Int, m = (if 1 < (if (ns.length : Int) < 4 then (ns.length : Int) else 4) then (if (ns.length : Int) < 4 then (ns.length : Int) else 4) else 1) := ⟨_, rfl⟩
  rw [← hm]
  have m0 : 0 ≤ m := by rw [hm]; split <;> split <;> omega
  have ec : (ns.take (4 : Int).toNat).map D.int ++ [.int 0] = (ns.take (4 : Int).toNat ++ [0]).map D.int := by simp
  rw [ec, cutD_takeF D.int _ m m0]
  generalize (ns.take (4 : Int).toNat ++ [0]).take m.toNat = cs
  try simp [wipeD]
  refine W_lcGo (fun k acc h' => acc = []) _ _ _ rfl (fun k d hd acc h' hI => ?_) (fun acc h' hI => ?_)
  · subst hI
    obtain ⟨x, hx, rfl⟩ := enumD_at71 hd
    rw [List.getElem?_map, Option.map_eq_some_iff] at hx
    obtain ⟨c, _, rfl⟩ := hx
    refine ⟨_, rfl, ?_⟩
    try simp
    refine stream71 c k h' fun o so => ?_
    try simp
    refine ho so fun h2 => ?_
    simp
  · subst hI
    simp
end HR
set_option Elab.async false
set_option linter.all false
set_option maxRecDepth 100000
set_option maxHeartbeats 4000000
/-! the text of law_k71_whole_cycles_far: facts of its head, the derivations -/
namespace HR
open PySem L2
open PyProof.Rows (envOfC)
namespace Tk71
def top (i : Nat) : Stmt := PySem.Challenge.pw_hushranks_k71_whole_cycles_far.main.body.getD i (.Pass ⟨0, 0, 0, 0⟩)
def d_is_integer : He.DefD := ⟨("is_integer", none), "is_integer", "is_integer", defArgs (top 13), defBody (top 13), defScope (top 13), [.non], []⟩
def d_is_sequence : He.DefD := ⟨("is_sequence", none), "is_sequence", "is_sequence", defArgs (top 14), defBody (top 14), defScope (top 14), [], []⟩
def d_is_name : He.DefD := ⟨("is_name", none), "is_name", "is_name", defArgs (top 15), defBody (top 15), defScope (top 15), [], []⟩
def d_is_talk : He.DefD := ⟨("is_talk", none), "is_talk", "is_talk", defArgs (top 16), defBody (top 16), defScope (top 16), [], []⟩
def d_are_talks : He.DefD := ⟨("are_talks", none), "are_talks", "are_talks", defArgs (top 17), defBody (top 17), defScope (top 17), [], []⟩
def d_is_talker : He.DefD := ⟨("is_talker", none), "is_talker", "is_talker", defArgs (top 18), defBody (top 18), defScope (top 18), [], []⟩
def d_is_hall : He.DefD := ⟨("is_hall", none), "is_hall", "is_hall", defArgs (top 19), defBody (top 19), defScope (top 19), [], []⟩
def d_running_sums : He.DefD := ⟨("running_sums", none), "running_sums", "running_sums", defArgs (top 20), defBody (top 20), defScope (top 20), [], []⟩
def d_Schedule_init : He.DefD := ⟨("Schedule", some "__init__"), "__init__", "Schedule.__init__", defArgs (inClass (top 21) 0), defBody (inClass (top 21) 0), defScope (inClass (top 21) 0), [], []⟩
def d_Schedule_nth_talk : He.DefD := ⟨("Schedule", some "nth_talk"), "nth_talk", "Schedule.nth_talk", defArgs (inClass (top 21) 1), defBody (inClass (top 21) 1), defScope (inClass (top 21) 1), [], []⟩
def d_Schedule_sum_of_first : He.DefD := ⟨("Schedule", some "sum_of_first"), "sum_of_first", "Schedule.sum_of_first", defArgs (inClass (top 21) 2), defBody (inClass (top 21) 2), defScope (inClass (top 21) 2), [], []⟩
def d_Schedule_nth_ready : He.DefD := ⟨("Schedule", some "nth_ready"), "nth_ready", "Schedule.nth_ready", defArgs (inClass (top 21) 3), defBody (inClass (top 21) 3), defScope (inClass (top 21) 3), [], []⟩
def d_Schedule_count_ready : He.DefD := ⟨("Schedule", some "count_ready"), "count_ready", "Schedule.count_ready", defArgs (inClass (top 21) 4), defBody (inClass (top 21) 4), defScope (inClass (top 21) 4), [], []⟩
def d_Schedule_length_ready : He.DefD := ⟨("Schedule", some "length_ready"), "length_ready", "Schedule.length_ready", defArgs (inClass (top 21) 5), defBody (inClass (top 21) 5), defScope (inClass (top 21) 5), [], []⟩
def d_Member_init : He.DefD := ⟨("Member", some "__init__"), "__init__", "Member.__init__", defArgs (inClass (top 22) 0), defBody (inClass (top 22) 0), defScope (inClass (top 22) 0), [], []⟩
def d_checked_hall : He.DefD := ⟨("checked_hall", none), "checked_hall", "checked_hall", defArgs (top 23), defBody (top 23), defScope (top 23), [], []⟩
def d_member_of : He.DefD := ⟨("member_of", none), "member_of", "member_of", defArgs (top 24), defBody (top 24), defScope (top 24), [], []⟩
def d_check_number : He.DefD := ⟨("check_number", none), "check_number", "check_number", defArgs (top 25), defBody (top 25), defScope (top 25), [], []⟩
def d_check_tick : He.DefD := ⟨("check_tick", none), "check_tick", "check_tick", defArgs (top 27), defBody (top 27), defScope (top 27), [], []⟩
def d_rank_length : He.DefD := ⟨("rank_length", none), "rank_length", "rank_length", defArgs (top 28), defBody (top 28), defScope (top 28), [], []⟩
def d_left_index : He.DefD := ⟨("left_index", none), "left_index", "left_index", defArgs (top 29), defBody (top 29), defScope (top 29), [], []⟩
def d_quiet_among : He.DefD := ⟨("quiet_among", none), "quiet_among", "quiet_among", defArgs (top 30), defBody (top 30), defScope (top 30), [], []⟩
def d_left_among : He.DefD := ⟨("left_among", none), "left_among", "left_among", defArgs (top 31), defBody (top 31), defScope (top 31), [], []⟩
def d_tick_of : He.DefD := ⟨("tick_of", none), "tick_of", "tick_of", defArgs (top 32), defBody (top 32), defScope (top 32), [], []⟩
def d_descent_by : He.DefD := ⟨("descent_by", none), "descent_by", "descent_by", defArgs (top 37), defBody (top 37), defScope (top 37), [], []⟩
def d_offset_in_run : He.DefD := ⟨("offset_in_run", none), "offset_in_run", "offset_in_run", defArgs (top 38), defBody (top 38), defScope (top 38), [], []⟩
def d_run_of : He.DefD := ⟨("run_of", none), "run_of", "run_of", defArgs (top 39), defBody (top 39), defScope (top 39), [], []⟩
def d_talk_by : He.DefD := ⟨("talk_by", none), "talk_by", "talk_by", defArgs (top 40), defBody (top 40), defScope (top 40), [], []⟩
def d_talk_at : He.DefD := ⟨("talk_at", none), "talk_at", "talk_at", defArgs (top 41), defBody (top 41), defScope (top 41), [], []⟩
def d_speaker_at : He.DefD := ⟨("speaker_at", none), "speaker_at", "speaker_at", defArgs (top 42), defBody (top 42), defScope (top 42), [], []⟩
def d_member_state : He.DefD := ⟨("member_state", none), "member_state", "member_state", defArgs (top 43), defBody (top 43), defScope (top 43), [], []⟩
def d_state_at_1 : He.DefD := ⟨("state_at", none), "state_at", "state_at", defArgs (top 44), defBody (top 44), defScope (top 44), [], []⟩
def d_descent_of_1 : He.DefD := ⟨("descent_of", none), "descent_of", "descent_of", defArgs (top 45), defBody (top 45), defScope (top 45), [], []⟩
def d_is_line : He.DefD := ⟨("is_line", none), "is_line", "is_line", defArgs (top 46), defBody (top 46), defScope (top 46), [], []⟩
def d_is_descent_1 : He.DefD := ⟨("is_descent", none), "is_descent", "is_descent", defArgs (top 47), defBody (top 47), defScope (top 47), [], []⟩
def d_progress_of : He.DefD := ⟨("progress_of", none), "progress_of", "progress_of", defArgs (top 49), defBody (top 49), defScope (top 49), [], []⟩
def d_progress_before : He.DefD := ⟨("progress_before", none), "progress_before", "progress_before", defArgs (top 50), defBody (top 50), defScope (top 50), [], []⟩
def d_ticks_spoken : He.DefD := ⟨("ticks_spoken", none), "ticks_spoken", "ticks_spoken", defArgs (top 51), defBody (top 51), defScope (top 51), [], []⟩
def d_talks_before : He.DefD := ⟨("talks_before", none), "talks_before", "talks_before", defArgs (top 52), defBody (top 52), defScope (top 52), [], []⟩
def d_silent_among : He.DefD := ⟨("silent_among", none), "silent_among", "silent_among", defArgs (top 53), defBody (top 53), defScope (top 53), [], []⟩
def d_silent_before : He.DefD := ⟨("silent_before", none), "silent_before", "silent_before", defArgs (top 54), defBody (top 54), defScope (top 54), [], []⟩
def d_span_by : He.DefD := ⟨("span_by", none), "span_by", "span_by", defArgs (top 56), defBody (top 56), defScope (top 56), [], []⟩
def d_located : He.DefD := ⟨("located", none), "located", "located", defArgs (top 57), defBody (top 57), defScope (top 57), [], []⟩
def d_span_of : He.DefD := ⟨("span_of", none), "span_of", "span_of", defArgs (top 58), defBody (top 58), defScope (top 58), [], []⟩
def d_common_divisor : He.DefD := ⟨("common_divisor", none), "common_divisor", "common_divisor", defArgs (top 60), defBody (top 60), defScope (top 60), [], []⟩
def d_common_multiple : He.DefD := ⟨("common_multiple", none), "common_multiple", "common_multiple", defArgs (top 61), defBody (top 61), defScope (top 61), [], []⟩
def d_RankCycle_init : He.DefD := ⟨("RankCycle", some "__init__"), "__init__", "RankCycle.__init__", defArgs (inClass (top 62) 0), defBody (inClass (top 62) 0), defScope (inClass (top 62) 0), [], []⟩
def d_RankCycle_spoken_by : He.DefD := ⟨("RankCycle", some "spoken_by"), "spoken_by", "RankCycle.spoken_by", defArgs (inClass (top 62) 1), defBody (inClass (top 62) 1), defScope (inClass (top 62) 1), [], []⟩
def d_start_of : He.DefD := ⟨("start_of", none), "start_of", "start_of", defArgs (top 63), defBody (top 63), defScope (top 63), [], []⟩
def d_cycle_of : He.DefD := ⟨("cycle_of", none), "cycle_of", "cycle_of", defArgs (top 64), defBody (top 64), defScope (top 64), [], []⟩
def d_shares_of_1 : He.DefD := ⟨("shares_of", none), "shares_of", "shares_of", defArgs (top 65), defBody (top 65), defScope (top 65), [], []⟩
def d_l_stream : He.DefD := ⟨("_law_stream", none), "_law_stream", "_law_stream", defArgs (top 67), defBody (top 67), defScope (top 67), [], []⟩
def d_l_draw_4 : He.DefD := ⟨("_law_draw", none), "_law_draw", "_law_draw", defArgs (top 68), defBody (top 68), defScope (top 68), [], []⟩
def d_l_talk_1 : He.DefD := ⟨("_law_talk", none), "_law_talk", "_law_talk", defArgs (top 69), defBody (top 69), defScope (top 69), [], []⟩
def d_l_hall_5 : He.DefD := ⟨("_law_hall", none), "_law_hall", "_law_hall", defArgs (top 70), defBody (top 70), defScope (top 70), [], []⟩
def d_l_gcd : He.DefD := ⟨("_law_gcd", none), "_law_gcd", "_law_gcd", defArgs (top 71), defBody (top 71), defScope (top 71), [], []⟩
def d_l_same_state : He.DefD := ⟨("_law_same_state", none), "_law_same_state", "_law_same_state", defArgs (top 72), defBody (top 72), defScope (top 72), [], []⟩
def d_l_share : He.DefD := ⟨("_law_share", none), "_law_share", "_law_share", defArgs (top 73), defBody (top 73), defScope (top 73), [], []⟩
def d_l_shares_hold : He.DefD := ⟨("_law_shares_hold", none), "_law_shares_hold", "_law_shares_hold", defArgs (top 74), defBody (top 74), defScope (top 74), [], []⟩
def d_l_talks_hold : He.DefD := ⟨("_law_talks_hold", none), "_law_talks_hold", "_law_talks_hold", defArgs (top 75), defBody (top 75), defScope (top 75), [], []⟩
def d_l_holds_1 : He.DefD := ⟨("_law_holds", none), "_law_holds", "_law_holds", defArgs (top 76), defBody (top 76), defScope (top 76), [], []⟩
def d_law_k71 : He.DefD := ⟨("law", none), "law", "law", defArgs (top 77), defBody (top 77), defScope (top 77), [], []⟩
def fn : List He.DefD := [d_is_integer, d_is_sequence, d_is_name, d_is_talk, d_are_talks, d_is_talker, d_is_hall, d_running_sums, d_Schedule_init, d_Schedule_nth_talk, d_Schedule_sum_of_first, d_Schedule_nth_ready, d_Schedule_count_ready, d_Schedule_length_ready, d_Member_init, d_checked_hall, d_member_of, d_check_number, d_check_tick, d_rank_length, d_left_index, d_quiet_among, d_left_among, d_tick_of, d_descent_by, d_offset_in_run, d_run_of, d_talk_by, d_talk_at, d_speaker_at, d_member_state, d_state_at_1, d_descent_of_1, d_is_line, d_is_descent_1, d_progress_of, d_progress_before, d_ticks_spoken, d_talks_before, d_silent_among, d_silent_before, d_span_by, d_located, d_span_of, d_common_divisor, d_common_multiple, d_RankCycle_init, d_RankCycle_spoken_by, d_start_of, d_cycle_of, d_shares_of_1, d_l_stream, d_l_draw_4, d_l_talk_1, d_l_hall_5, d_l_gcd, d_l_same_state, d_l_share, d_l_shares_hold, d_l_talks_hold, d_l_holds_1, d_law_k71]
def fa0 : List He.Fa := [.glo "HushError", .exc "HushError", .glo "InvalidHall", .exc "InvalidHall", .glo "UnknownTalker", .exc "UnknownTalker", .glo "InvalidNumber", .exc "InvalidNumber", .glo "InvalidTick", .exc "InvalidTick", .str "LETTERS" "abcdefghijklmnopqrstuvwxyz", .int "MAX_NAME" (8), .int "MAX_TIME" (1000000000000000000000000000000), .int "MAX_RANK" (10), .int "MAX_TALKS" (8), .int "MAX_TALKERS" (10), .glo "is_integer", .glo "is_sequence", .glo "is_name", .glo "is_talk", .glo "are_talks", .glo "is_talker", .glo "is_hall", .glo "running_sums", .glo "Schedule", .cls "Schedule", .mkr "Schedule", .noat "Schedule" "prefix", .noat "Schedule" "cycle", .noat "Schedule" "prefix_silences"]
def fa1 : List He.Fa := [.noat "Schedule" "prefix_lengths", .noat "Schedule" "cycle_silences", .noat "Schedule" "cycle_lengths", .meth "Schedule" "nth_talk", .meth "Schedule" "sum_of_first", .meth "Schedule" "nth_ready", .meth "Schedule" "count_ready", .meth "Schedule" "length_ready", .glo "Member", .cls "Member", .mkr "Member", .noat "Member" "name", .noat "Member" "rank", .noat "Member" "schedule", .glo "checked_hall", .glo "member_of", .glo "check_number", .glo "check_tick", .glo "rank_length", .glo "left_index", .glo "quiet_among", .glo "left_among", .glo "tick_of", .str "SILENT" "silent", .str "READY" "ready", .str "SPEAKING" "speaking", .glo "descent_by", .glo "offset_in_run", .glo "run_of", .glo "talk_by"]
def fa2 : List He.Fa := [.glo "talk_at", .glo "speaker_at", .glo "member_state", .glo "state_at", .glo "descent_of", .glo "is_line", .glo "is_descent", .glo "progress_of", .glo "progress_before", .glo "ticks_spoken", .glo "talks_before", .glo "silent_among", .glo "silent_before", .glo "span_by", .glo "located", .glo "span_of", .glo "common_divisor", .glo "common_multiple", .glo "RankCycle", .cls "RankCycle", .mkr "RankCycle", .noat "RankCycle" "members", .noat "RankCycle" "quiet", .noat "RankCycle" "left", .meth "RankCycle" "spoken_by", .glo "start_of", .glo "cycle_of", .glo "shares_of", .glo "_law_stream", .glo "_law_draw"]
def fa3 : List He.Fa := [.glo "_law_talk", .glo "_law_hall", .glo "_law_gcd", .glo "_law_same_state", .glo "_law_share", .glo "_law_shares_hold", .glo "_law_talks_hold", .glo "_law_holds", .glo "law", .free "ValueError", .free "abs", .free "all", .free "bool", .free "divmod", .free "enumerate", .free "int", .free "isinstance", .free "len", .free "list", .free "max", .free "min", .free "range", .free "set", .free "str", .free "sum", .free "tuple"]
def fa : List He.Fa := fa0 ++ fa1 ++ fa2 ++ fa3
theorem hu_ {A : Around} {k : Nat} (hr : Room k A) : A.units + 64 < cLine := hr.units
section
variable {P : Program} {w : World} {K : PySem.W.Frag} {mg : Str → Option Value} {base h : Heap}
theorem sc_l_draw_4 : FnScope ["_law_stream_here", "_law_many", "_law_found", "_law_stirred"] ["_law_stream_here", "_law_many"] (defScope (top 68)) := ⟨rfl, rfl, rfl, by decide +kernel, rfl, by decide +kernel, by decide +kernel⟩
theorem okb_l_draw_4 (c : He.SaysD fa fn K) (X0 : K.In h) (G : h.Ns mainGlobals mg) {fd : FuncData} (F : FunD K d_l_draw_4.name d_l_draw_4.qual d_l_draw_4.params d_l_draw_4.body d_l_draw_4.scope (d_l_draw_4.dvs K) (d_l_draw_4.kws K) (He.ga K "_law_draw") fd) : FnOk P w K mg base CX0 1 (He.ga K "_law_draw") fd ["_law_stream_here", "_law_many"] (spN K 2 Sh.l_draw_4) := by
  have sc := sc_l_draw_4
  refine fn_ok F sc (by decide) (fun cdv A outer s H E hr => ?_)
  exact (ds_cons (ds_if (dt_ge (de_ix (de_var 0) de_int) (de_pow de_int de_int)) (ds_cons (ds_set 2 sc.nd (de_mod (de_ix (de_var 0) de_int) (de_var 1))) (ds_cons (ds_ix (de_var 0) de_int (de_div (de_ix (de_var 0) de_int) (de_var 1)) (pg_sub (de_var 0) de_int set_list)) (ds_one (ds_ret (de_var 2))))) ds_nil) (ds_cons (ds_ix (de_var 0) de_int (de_mod (de_mul (de_add (de_ix (de_var 0) de_int) de_int) de_int) de_int) (pg_sub (de_var 0) de_int set_list)) (ds_cons (ds_set 3 sc.nd (de_mod (de_mul (de_ix (de_var 0) de_int) (de_ix (de_var 0) de_int)) de_int)) (ds_one (ds_ret (de_mod (de_div (de_mod (de_mul (de_var 3) de_int) de_int) de_int) (de_var 1)))))))
theorem ok_l_draw_4 (c : He.SaysD fa fn K) (X0 : K.In h) (G : h.Ns mainGlobals mg) : Def P w K mg base CX0 1 (He.ga K "_law_draw") ["_law_stream_here", "_law_many"] [] Sh.l_draw_4 := by
  obtain ⟨fd, F⟩ := c.def_ 52 (d := d_l_draw_4) rfl
  exact ⟨⟨fd, [], okb_l_draw_4 c X0 G F, F.bindsN fun _ _ _ _ _ _ us hl => match us, hl with | [_, _], _ => rfl, .nil⟩, F.kp⟩
theorem sc_l_talk_1 : FnScope ["_law_stream_here", "_law_scale"] ["_law_stream_here", "_law_scale"] (defScope (top 69)) := ⟨rfl, rfl, rfl, by decide +kernel, rfl, by decide +kernel, by decide +kernel⟩
theorem okb_l_talk_1 (c : He.SaysD fa fn K) (X0 : K.In h) (G : h.Ns mainGlobals mg) {fd : FuncData} (F : FunD K d_l_talk_1.name d_l_talk_1.qual d_l_talk_1.params d_l_talk_1.body d_l_talk_1.scope (d_l_talk_1.dvs K) (d_l_talk_1.kws K) (He.ga K "_law_talk") fd) : FnOk P w K mg base CX0 2 (He.ga K "_law_talk") fd ["_law_stream_here", "_law_scale"] (spN K 2 Sh.l_talk_1) := by
  have H_l_draw_4 := ok_l_draw_4 (P := P) (w := w) (base := base) c X0 G
  have sc := sc_l_talk_1
  refine fn_ok F sc (by decide) (fun cdv A outer s H E hr => ?_)
  exact (ds_one (ds_ret (de_tup (da_cons (de_add de_int (de_callF [] (H_l_draw_4.up (by decide)) hr (He.glo_ok X0 G (c.fact 89 (f := .glo "_law_draw") (by rfl))) (fun _ _ => .nil) (fun _ => passAt0) (da_cons (de_var 0) (da_cons (de_var 1) da_nil)) (sCons_len (sCons_len sNil_len)))) (da_cons (de_add de_int (de_callF [] (H_l_draw_4.up (by decide)) hr (He.glo_ok X0 G (c.fact 89 (f := .glo "_law_draw") (by rfl))) (fun _ _ => .nil) (fun _ => passAt0) (da_cons (de_var 0) (da_cons (de_var 1) da_nil)) (sCons_len (sCons_len sNil_len)))) da_nil)))))
theorem ok_l_talk_1 (c : He.SaysD fa fn K) (X0 : K.In h) (G : h.Ns mainGlobals mg) : Def P w K mg base CX0 2 (He.ga K "_law_talk") ["_law_stream_here", "_law_scale"] [] Sh.l_talk_1 := by
  obtain ⟨fd, F⟩ := c.def_ 53 (d := d_l_talk_1) rfl
  exact ⟨⟨fd, [], okb_l_talk_1 c X0 G F, F.bindsN fun _ _ _ _ _ _ us hl => match us, hl with | [_, _], _ => rfl, .nil⟩, F.kp⟩
theorem sc_l_hall_5 : FnScope ["_law_stream_here", "_law_most", "_law_scales", "_law_found", "_law_scale", "_law_k", "_law_rank", "_law_prefix", "_law_step", "_law_cycle"] ["_law_stream_here", "_law_most", "_law_scales"] (defScope (top 70)) := ⟨rfl, rfl, rfl, by decide +kernel, rfl, by decide +kernel, by decide +kernel⟩
theorem okb_l_hall_5 (c : He.SaysD fa fn K) (X0 : K.In h) (G : h.Ns mainGlobals mg) {fd : FuncData} (F : FunD K d_l_hall_5.name d_l_hall_5.qual d_l_hall_5.params d_l_hall_5.body d_l_hall_5.scope (d_l_hall_5.dvs K) (d_l_hall_5.kws K) (He.ga K "_law_hall") fd) : FnOk P w K mg base CX0 3 (He.ga K "_law_hall") fd ["_law_stream_here", "_law_most", "_law_scales"] (spN K 3 Sh.l_hall_5) := by
  have H_l_draw_4 := ok_l_draw_4 (P := P) (w := w) (base := base) c X0 G
  have H_l_talk_1 := ok_l_talk_1 (P := P) (w := w) (base := base) c X0 G
  have sc := sc_l_hall_5
  refine fn_ok F sc (by decide) (fun cdv A outer s H E hr => ?_)
  exact (ds_cons (ds_set 3 sc.nd (de_lstO da_nil)) (ds_cons (ds_set 4 sc.nd (de_ix (de_var 2) (de_callF [] (H_l_draw_4.up (by decide)) hr (He.glo_ok X0 G (c.fact 89 (f := .glo "_law_draw") (by rfl))) (fun _ _ => .nil) (fun _ => passAt0) (da_cons (de_var 0) (da_cons (de_len (by rfl) (He.free_ok X0 G (c.fact 107 (f := .free "len") (by rfl))) (de_var 2)) da_nil)) (sCons_len (sCons_len sNil_len))))) (ds_cons (ds_for (vs := [5]) (passes_of rfl) rfl (di_rng1 (by rfl) (He.free_ok X0 G (c.fact 111 (f := .free "range") (by rfl))) (de_add de_int (de_callF [] (H_l_draw_4.up (by decide)) hr (He.glo_ok X0 G (c.fact 89 (f := .glo "_law_draw") (by rfl))) (fun _ _ => .nil) (fun _ => passAt0) (da_cons (de_var 0) (da_cons (de_var 1) da_nil)) (sCons_len (sCons_len sNil_len))))) (dg_name 5 sc.nd) (ds_cons (ds_set 6 sc.nd (de_add de_int (de_callF [] (H_l_draw_4.up (by decide)) hr (He.glo_ok X0 G (c.fact 89 (f := .glo "_law_draw") (by rfl))) (fun _ _ => .nil) (fun _ => passAt0) (da_cons (de_var 0) (da_cons (de_ix (de_lst (da_cons de_int (da_cons de_int (da_cons de_int da_nil)))) (de_callF [] (H_l_draw_4.up (by decide)) hr (He.glo_ok X0 G (c.fact 89 (f := .glo "_law_draw") (by rfl))) (fun _ _ => .nil) (fun _ => passAt0) (da_cons (de_var 0) (da_cons de_int da_nil)) (sCons_len (sCons_len sNil_len)))) da_nil)) (sCons_len (sCons_len sNil_len))))) (ds_cons (ds_setLc (X := _) 7 false [("_law_step", 8)] rfl sc.nd (di_rng1 (by rfl) (He.free_ok X0 G (c.fact 111 (f := .free "range") (by rfl))) (de_ix (de_lst (da_cons de_int (da_cons de_int (da_cons (de_callF [] (H_l_draw_4.up (by decide)) hr (He.glo_ok X0 G (c.fact 89 (f := .glo "_law_draw") (by rfl))) (fun _ _ => .nil) (fun _ => passAt0) (da_cons (de_var 0) (da_cons de_int da_nil)) (sCons_len (sCons_len sNil_len))) da_nil)))) (de_callF [] (H_l_draw_4.up (by decide)) hr (He.glo_ok X0 G (c.fact 89 (f := .glo "_law_draw") (by rfl))) (fun _ _ => .nil) (fun _ => passAt0) (da_cons (de_var 0) (da_cons de_int da_nil)) (sCons_len (sCons_len sNil_len))))) (blkOk_by (by kernel_rfl)) (fun _ _ _ _ _ => (dg_name 8 sc.nd)) (fun _ _ _ _ _ => dts_nil) (fun _ _ _ _ _ => (de_callF [] (H_l_talk_1.up (by decide)) hr (He.glo_ok X0 G (c.fact 90 (f := .glo "_law_talk") (by rfl))) (fun _ _ => .nil) (fun _ => passAt0) (da_cons (de_var 0) (da_cons (de_var 4) da_nil)) (sCons_len (sCons_len sNil_len)))) (sw_true rfl rfl rfl (by decide +kernel))) (ds_cons (ds_setLc (X := _) 9 false [("_law_step", 8)] rfl sc.nd (di_rng1 (by rfl) (He.free_ok X0 G (c.fact 111 (f := .free "range") (by rfl))) (de_add de_int (de_callF [] (H_l_draw_4.up (by decide)) hr (He.glo_ok X0 G (c.fact 89 (f := .glo "_law_draw") (by rfl))) (fun _ _ => .nil) (fun _ => passAt0) (da_cons (de_var 0) (da_cons de_int da_nil)) (sCons_len (sCons_len sNil_len))))) (blkOk_by (by kernel_rfl)) (fun _ _ _ _ _ => (dg_name 8 sc.nd)) (fun _ _ _ _ _ => dts_nil) (fun _ _ _ _ _ => (de_callF [] (H_l_talk_1.up (by decide)) hr (He.glo_ok X0 G (c.fact 90 (f := .glo "_law_talk") (by rfl))) (fun _ _ => .nil) (fun _ => passAt0) (da_cons (de_var 0) (da_cons (de_var 4) da_nil)) (sCons_len (sCons_len sNil_len)))) (sw_true rfl rfl rfl (by decide +kernel))) (ds_one (ds_expr (de_append (de_var 3) (de_tup (da_cons (de_ix de_str (de_var 5)) (da_cons (de_var 6) (da_cons (de_var 7) (da_cons (de_var 9) da_nil)))))))))))) (ds_one (ds_ret (de_frz (de_var 3)))))))
theorem ok_l_hall_5 (c : He.SaysD fa fn K) (X0 : K.In h) (G : h.Ns mainGlobals mg) : Def P w K mg base CX0 3 (He.ga K "_law_hall") ["_law_stream_here", "_law_most", "_law_scales"] [] Sh.l_hall_5 := by
  obtain ⟨fd, F⟩ := c.def_ 54 (d := d_l_hall_5) rfl
  exact ⟨⟨fd, [], okb_l_hall_5 c X0 G F, F.bindsN fun _ _ _ _ _ _ us hl => match us, hl with | [_, _, _], _ => rfl, .nil⟩, F.kp⟩
theorem sc_is_sequence : FnScope ["value"] ["value"] (defScope (top 14)) := ⟨rfl, rfl, rfl, by decide +kernel, rfl, by decide +kernel, by decide +kernel⟩
theorem okb_is_sequence (c : He.SaysD fa fn K) (X0 : K.In h) (G : h.Ns mainGlobals mg) {fd : FuncData} (F : FunD K d_is_sequence.name d_is_sequence.qual d_is_sequence.params d_is_sequence.body d_is_sequence.scope (d_is_sequence.dvs K) (d_is_sequence.kws K) (He.ga K "is_sequence") fd) : FnOk P w K mg base CX0 1 (He.ga K "is_sequence") fd ["value"] (spN K 1 Sh.is_sequence) := by
  have sc := sc_is_sequence
  refine fn_ok F sc (by decide) (fun cdv A outer s H E hr => ?_)
  exact (ds_one (ds_ret (de_isi2 (T1 := "list") (T2 := "tuple") (by simp) (by simp) (by rfl) (He.free_ok X0 G (c.fact 106 (f := .free "isinstance") (by rfl))) (by rfl) (He.free_ok X0 G (c.fact 108 (f := .free "list") (by rfl))) (by decide +kernel) (by rfl) (He.free_ok X0 G (c.fact 115 (f := .free "tuple") (by rfl))) (by decide +kernel) (de_var 0))))
theorem ok_is_sequence (c : He.SaysD fa fn K) (X0 : K.In h) (G : h.Ns mainGlobals mg) : Def P w K mg base CX0 1 (He.ga K "is_sequence") ["value"] [] Sh.is_sequence := by
  obtain ⟨fd, F⟩ := c.def_ 1 (d := d_is_sequence) rfl
  exact ⟨⟨fd, [], okb_is_sequence c X0 G F, F.bindsN fun _ _ _ _ _ _ us hl => match us, hl with | [_], _ => rfl, .nil⟩, F.kp⟩
theorem sc_is_integer : FnScope ["value", "low", "high"] ["value", "low", "high"] (defScope (top 13)) := ⟨rfl, rfl, rfl, by decide +kernel, rfl, by decide +kernel, by decide +kernel⟩
theorem okb_is_integer (c : He.SaysD fa fn K) (X0 : K.In h) (G : h.Ns mainGlobals mg) {fd : FuncData} (F : FunD K d_is_integer.name d_is_integer.qual d_is_integer.params d_is_integer.body d_is_integer.scope (d_is_integer.dvs K) (d_is_integer.kws K) (He.ga K "is_integer") fd) : FnOk P w K mg base CX0 1 (He.ga K "is_integer") fd ["value", "low", "high"] (spN K 3 Sh.is_integer) := by
  have sc := sc_is_integer
  refine fn_ok F sc (by decide) (fun cdv A outer s H E hr => ?_)
  exact (ds_cons (ds_if (DW.dt (dw_or (dt_not (dt_val (de_isi (T := "int") (by simp) (by rfl) (He.free_ok X0 G (c.fact 106 (f := .free "isinstance") (by rfl))) (by rfl) (He.free_ok X0 G (c.fact 105 (f := .free "int") (by rfl))) (by decide +kernel) (de_var 0)))) (dw_or1 (dt_val (de_isi (T := "bool") (by simp) (by rfl) (He.free_ok X0 G (c.fact 106 (f := .free "isinstance") (by rfl))) (by rfl) (He.free_ok X0 G (c.fact 102 (f := .free "bool") (by rfl))) (by decide +kernel) (de_var 0)))))) (ds_one (ds_ret de_bl)) ds_nil) (ds_one (ds_ret (de_and (de_ge (de_var 0) (de_var 1)) (de_one (de_or (de_is (de_var 2) de_non) (de_one (de_le (de_var 0) (de_var 2)))))))))
theorem ok_is_integer (c : He.SaysD fa fn K) (X0 : K.In h) (G : h.Ns mainGlobals mg) : Def P w K mg base CX0 1 (He.ga K "is_integer") ["value", "low", "high"] [.non] Sh.is_integer := by
  obtain ⟨fd, F⟩ := c.def_ 0 (d := d_is_integer) rfl
  obtain ⟨dus, hd, hb⟩ := F.binds1 (ps := ["value", "low", "high"]) 2 0 (by simp [He.DefD.dvs, d_is_integer]) (by rfl) (fun T kV doc pm an cdv ct us its l1 l2 => match us, its, l1, l2 with | [_, _], [_], _, _ => ⟨_, rfl, rfl⟩)
  exact ⟨⟨fd, dus, okb_is_integer c X0 G F, hb, hd⟩, F.kp⟩
theorem ok_is_integer_all (c : He.SaysD fa fn K) (X0 : K.In h) (G : h.Ns mainGlobals mg) : Def P w K mg base CX0 1 (He.ga K "is_integer") ["value", "low", "high"] [] Sh.is_integer := by
  obtain ⟨fd, F⟩ := c.def_ 0 (d := d_is_integer) rfl
  obtain ⟨dus, hd, hb⟩ := F.binds1 (ps := ["value", "low", "high"]) 3 1 (by simp [He.DefD.dvs, d_is_integer]) (by rfl) (fun T kV doc pm an cdv ct us its l1 l2 => match us, its, l1, l2 with | [_, _, _], [_], _, _ => ⟨_, rfl, rfl⟩)
  exact ⟨⟨fd, dus, okb_is_integer c X0 G F, hb, hd⟩, F.kp⟩
theorem sc_is_talk : FnScope ["value", "part"] ["value"] (defScope (top 16)) := ⟨rfl, rfl, rfl, by decide +kernel, rfl, by decide +kernel, by decide +kernel⟩
theorem okb_is_talk (c : He.SaysD fa fn K) (X0 : K.In h) (G : h.Ns mainGlobals mg) {fd : FuncData} (F : FunD K d_is_talk.name d_is_talk.qual d_is_talk.params d_is_talk.body d_is_talk.scope (d_is_talk.dvs K) (d_is_talk.kws K) (He.ga K "is_talk") fd) : FnOk P w K mg base CX0 2 (He.ga K "is_talk") fd ["value"] (spN K 1 Sh.is_talk) := by
  have H_is_integer := ok_is_integer (P := P) (w := w) (base := base) c X0 G
  have H_is_integer_all := ok_is_integer_all (P := P) (w := w) (base := base) c X0 G
  have H_is_sequence := ok_is_sequence (P := P) (w := w) (base := base) c X0 G
  have sc := sc_is_talk
  refine fn_ok F sc (by decide) (fun cdv A outer s H E hr => ?_)
  exact (ds_one (ds_ret (de_and (de_callF [] ((H_is_sequence.up (by decide)).pure) hr (He.glo_ok X0 G (c.fact 17 (f := .glo "is_sequence") (by rfl))) (fun _ _ => .nil) (fun _ => passAt0) (da_cons (de_var 0) da_nil) (sCons_len sNil_len)) (de_and (de_eq (hu_ hr) (de_len (by rfl) (He.free_ok X0 G (c.fact 107 (f := .free "len") (by rfl))) (de_var 0)) de_int) (de_one (de_all rfl (by rfl) (He.free_ok X0 G (c.fact 101 (f := .free "all") (by rfl))) (de_lc false [("part", 1)] rfl sc.nd (di_any (de_var 0)) (blkOk_by (by kernel_rfl)) (fun _ _ _ _ _ => (dg_name 1 sc.nd)) (fun _ _ _ _ _ => dts_nil) (fun _ _ _ _ _ => (de_callF [] ((H_is_integer_all.up (by decide)).pure) hr (He.glo_ok X0 G (c.fact 16 (f := .glo "is_integer") (by rfl))) (fun _ _ => .nil) (fun _ => passAt0) (da_cons (de_var 1) (da_cons de_int (da_cons (de_globI (by rfl) (He.int_ok X0 G (c.fact 12 (f := .int "MAX_TIME" (1000000000000000000000000000000)) (by rfl)))) da_nil))) (sCons_len (sCons_len (sCons_len sNil_len))))))))))))
theorem ok_is_talk (c : He.SaysD fa fn K) (X0 : K.In h) (G : h.Ns mainGlobals mg) : Def P w K mg base CX0 2 (He.ga K "is_talk") ["value"] [] Sh.is_talk := by
  obtain ⟨fd, F⟩ := c.def_ 3 (d := d_is_talk) rfl
  exact ⟨⟨fd, [], okb_is_talk c X0 G F, F.bindsN fun _ _ _ _ _ _ us hl => match us, hl with | [_], _ => rfl, .nil⟩, F.kp⟩
theorem sc_are_talks : FnScope ["value", "least", "one"] ["value", "least"] (defScope (top 17)) := ⟨rfl, rfl, rfl, by decide +kernel, rfl, by decide +kernel, by decide +kernel⟩
theorem okb_are_talks (c : He.SaysD fa fn K) (X0 : K.In h) (G : h.Ns mainGlobals mg) {fd : FuncData} (F : FunD K d_are_talks.name d_are_talks.qual d_are_talks.params d_are_talks.body d_are_talks.scope (d_are_talks.dvs K) (d_are_talks.kws K) (He.ga K "are_talks") fd) : FnOk P w K mg base CX0 3 (He.ga K "are_talks") fd ["value", "least"] (spN K 2 Sh.are_talks) := by
  have H_is_talk := ok_is_talk (P := P) (w := w) (base := base) c X0 G
  have H_is_sequence := ok_is_sequence (P := P) (w := w) (base := base) c X0 G
  have sc := sc_are_talks
  refine fn_ok F sc (by decide) (fun cdv A outer s H E hr => ?_)
  exact (ds_one (ds_ret (de_and (de_callF [] ((H_is_sequence.up (by decide)).pure) hr (He.glo_ok X0 G (c.fact 17 (f := .glo "is_sequence") (by rfl))) (fun _ _ => .nil) (fun _ => passAt0) (da_cons (de_var 0) da_nil) (sCons_len sNil_len)) (de_and (de_lele (de_var 1) (de_len (by rfl) (He.free_ok X0 G (c.fact 107 (f := .free "len") (by rfl))) (de_var 0)) (de_globI (by rfl) (He.int_ok X0 G (c.fact 14 (f := .int "MAX_TALKS" (8)) (by rfl))))) (de_one (de_all rfl (by rfl) (He.free_ok X0 G (c.fact 101 (f := .free "all") (by rfl))) (de_lc false [("one", 2)] rfl sc.nd (di_any (de_var 0)) (blkOk_by (by kernel_rfl)) (fun _ _ _ _ _ => (dg_name 2 sc.nd)) (fun _ _ _ _ _ => dts_nil) (fun _ _ _ _ _ => (de_callF [] ((H_is_talk.up (by decide)).pure) hr (He.glo_ok X0 G (c.fact 19 (f := .glo "is_talk") (by rfl))) (fun _ _ => .nil) (fun _ => passAt0) (da_cons (de_var 2) da_nil) (sCons_len sNil_len))))))))))
theorem ok_are_talks (c : He.SaysD fa fn K) (X0 : K.In h) (G : h.Ns mainGlobals mg) : Def P w K mg base CX0 3 (He.ga K "are_talks") ["value", "least"] [] Sh.are_talks := by
  obtain ⟨fd, F⟩ := c.def_ 4 (d := d_are_talks) rfl
  exact ⟨⟨fd, [], okb_are_talks c X0 G F, F.bindsN fun _ _ _ _ _ _ us hl => match us, hl with | [_, _], _ => rfl, .nil⟩, F.kp⟩
theorem sc_is_name : FnScope ["value", "sign"] ["value"] (defScope (top 15)) := ⟨rfl, rfl, rfl, by decide +kernel, rfl, by decide +kernel, by decide +kernel⟩
theorem okb_is_name (c : He.SaysD fa fn K) (X0 : K.In h) (G : h.Ns mainGlobals mg) {fd : FuncData} (F : FunD K d_is_name.name d_is_name.qual d_is_name.params d_is_name.body d_is_name.scope (d_is_name.dvs K) (d_is_name.kws K) (He.ga K "is_name") fd) : FnOk P w K mg base CX0 1 (He.ga K "is_name") fd ["value"] (spN K 1 Sh.is_name) := by
  have sc := sc_is_name
  refine fn_ok F sc (by decide) (fun cdv A outer s H E hr => ?_)
  exact (ds_one (ds_ret (de_and (de_isi (T := "str") (by simp) (by rfl) (He.free_ok X0 G (c.fact 106 (f := .free "isinstance") (by rfl))) (by rfl) (He.free_ok X0 G (c.fact 113 (f := .free "str") (by rfl))) (by decide +kernel) (de_var 0)) (de_and (de_lele de_int (de_len (by rfl) (He.free_ok X0 G (c.fact 107 (f := .free "len") (by rfl))) (de_var 0)) (de_globI (by rfl) (He.int_ok X0 G (c.fact 11 (f := .int "MAX_NAME" (8)) (by rfl))))) (de_one (de_all rfl (by rfl) (He.free_ok X0 G (c.fact 101 (f := .free "all") (by rfl))) (de_lc false [("sign", 1)] rfl sc.nd (di_any (de_var 0)) (blkOk_by (by kernel_rfl)) (fun _ _ _ _ _ => (dg_name 1 sc.nd)) (fun _ _ _ _ _ => dts_nil) (fun _ _ _ _ _ => (de_inS (de_var 1) (de_globS (by rfl) (He.str_ok X0 G (c.fact 10 (f := .str "LETTERS" "abcdefghijklmnopqrstuvwxyz") (by rfl)))))))))))))
theorem ok_is_name (c : He.SaysD fa fn K) (X0 : K.In h) (G : h.Ns mainGlobals mg) : Def P w K mg base CX0 1 (He.ga K "is_name") ["value"] [] Sh.is_name := by
  obtain ⟨fd, F⟩ := c.def_ 2 (d := d_is_name) rfl
  exact ⟨⟨fd, [], okb_is_name c X0 G F, F.bindsN fun _ _ _ _ _ _ us hl => match us, hl with | [_], _ => rfl, .nil⟩, F.kp⟩
theorem sc_is_talker : FnScope ["value"] ["value"] (defScope (top 18)) := ⟨rfl, rfl, rfl, by decide +kernel, rfl, by decide +kernel, by decide +kernel⟩
theorem okb_is_talker (c : He.SaysD fa fn K) (X0 : K.In h) (G : h.Ns mainGlobals mg) {fd : FuncData} (F : FunD K d_is_talker.name d_is_talker.qual d_is_talker.params d_is_talker.body d_is_talker.scope (d_is_talker.dvs K) (d_is_talker.kws K) (He.ga K "is_talker") fd) : FnOk P w K mg base CX0 4 (He.ga K "is_talker") fd ["value"] (spN K 1 Sh.is_talker) := by
  have H_is_name := ok_is_name (P := P) (w := w) (base := base) c X0 G
  have H_is_sequence := ok_is_sequence (P := P) (w := w) (base := base) c X0 G
  have H_are_talks := ok_are_talks (P := P) (w := w) (base := base) c X0 G
  have H_is_integer := ok_is_integer (P := P) (w := w) (base := base) c X0 G
  have H_is_integer_all := ok_is_integer_all (P := P) (w := w) (base := base) c X0 G
  have sc := sc_is_talker
  refine fn_ok F sc (by decide) (fun cdv A outer s H E hr => ?_)
  exact (ds_cons (ds_if (DW.dt (dw_or (dt_not (dt_val (de_callF [] ((H_is_sequence.up (by decide)).pure) hr (He.glo_ok X0 G (c.fact 17 (f := .glo "is_sequence") (by rfl))) (fun _ _ => .nil) (fun _ => passAt0) (da_cons (de_var 0) da_nil) (sCons_len sNil_len)))) (dw_or (dt_ne (hu_ hr) (de_len (by rfl) (He.free_ok X0 G (c.fact 107 (f := .free "len") (by rfl))) (de_var 0)) de_int) (dw_or1 (dt_not (dt_val (de_callF [] ((H_is_name.up (by decide)).pure) hr (He.glo_ok X0 G (c.fact 18 (f := .glo "is_name") (by rfl))) (fun _ _ => .nil) (fun _ => passAt0) (da_cons (de_ix (de_var 0) de_int) da_nil) (sCons_len sNil_len)))))))) (ds_one (ds_ret de_bl)) ds_nil) (ds_one (ds_ret (de_and (de_callF [] ((H_is_integer_all.up (by decide)).pure) hr (He.glo_ok X0 G (c.fact 16 (f := .glo "is_integer") (by rfl))) (fun _ _ => .nil) (fun _ => passAt0) (da_cons (de_ix (de_var 0) de_int) (da_cons de_int (da_cons (de_globI (by rfl) (He.int_ok X0 G (c.fact 13 (f := .int "MAX_RANK" (10)) (by rfl)))) da_nil))) (sCons_len (sCons_len (sCons_len sNil_len)))) (de_and (de_callF [] ((H_are_talks.up (by decide)).pure) hr (He.glo_ok X0 G (c.fact 20 (f := .glo "are_talks") (by rfl))) (fun _ _ => .nil) (fun _ => passAt0) (da_cons (de_ix (de_var 0) de_int) (da_cons de_int da_nil)) (sCons_len (sCons_len sNil_len))) (de_one (de_callF [] ((H_are_talks.up (by decide)).pure) hr (He.glo_ok X0 G (c.fact 20 (f := .glo "are_talks") (by rfl))) (fun _ _ => .nil) (fun _ => passAt0) (da_cons (de_ix (de_var 0) de_int) (da_cons de_int da_nil)) (sCons_len (sCons_len sNil_len)))))))))
theorem ok_is_talker (c : He.SaysD fa fn K) (X0 : K.In h) (G : h.Ns mainGlobals mg) : Def P w K mg base CX0 4 (He.ga K "is_talker") ["value"] [] Sh.is_talker := by
  obtain ⟨fd, F⟩ := c.def_ 5 (d := d_is_talker) rfl
  exact ⟨⟨fd, [], okb_is_talker c X0 G F, F.bindsN fun _ _ _ _ _ _ us hl => match us, hl with | [_], _ => rfl, .nil⟩, F.kp⟩
theorem sc_is_hall : FnScope ["value", "one"] ["value"] (defScope (top 19)) := ⟨rfl, rfl, rfl, by decide +kernel, rfl, by decide +kernel, by decide +kernel⟩
theorem okb_is_hall (c : He.SaysD fa fn K) (X0 : K.In h) (G : h.Ns mainGlobals mg) {fd : FuncData} (F : FunD K d_is_hall.name d_is_hall.qual d_is_hall.params d_is_hall.body d_is_hall.scope (d_is_hall.dvs K) (d_is_hall.kws K) (He.ga K "is_hall") fd) : FnOk P w K mg base CX0 5 (He.ga K "is_hall") fd ["value"] (spN K 1 Sh.is_hall) := by
  have H_is_talker := ok_is_talker (P := P) (w := w) (base := base) c X0 G
  have H_is_sequence := ok_is_sequence (P := P) (w := w) (base := base) c X0 G
  have sc := sc_is_hall
  refine fn_ok F sc (by decide) (fun cdv A outer s H E hr => ?_)
  exact (ds_cons (ds_if (DW.dt (dw_or (dt_not (dt_val (de_callF [] ((H_is_sequence.up (by decide)).pure) hr (He.glo_ok X0 G (c.fact 17 (f := .glo "is_sequence") (by rfl))) (fun _ _ => .nil) (fun _ => passAt0) (da_cons (de_var 0) da_nil) (sCons_len sNil_len)))) (dw_or (dt_gt (de_len (by rfl) (He.free_ok X0 G (c.fact 107 (f := .free "len") (by rfl))) (de_var 0)) (de_globI (by rfl) (He.int_ok X0 G (c.fact 15 (f := .int "MAX_TALKERS" (10)) (by rfl))))) (dw_or1 (dt_not (dt_val (de_all rfl (by rfl) (He.free_ok X0 G (c.fact 101 (f := .free "all") (by rfl))) (de_lc false [("one", 1)] rfl sc.nd (di_any (de_var 0)) (blkOk_by (by kernel_rfl)) (fun _ _ _ _ _ => (dg_name 1 sc.nd)) (fun _ _ _ _ _ => dts_nil) (fun _ _ _ _ _ => (de_callF [] ((H_is_talker.up (by decide)).pure) hr (He.glo_ok X0 G (c.fact 21 (f := .glo "is_talker") (by rfl))) (fun _ _ => .nil) (fun _ => passAt0) (da_cons (de_var 1) da_nil) (sCons_len sNil_len))))))))))) (ds_one (ds_ret de_bl)) ds_nil) (ds_one (ds_ret (de_eq (hu_ hr) (de_lenset rfl (by rfl) (He.free_ok X0 G (c.fact 107 (f := .free "len") (by rfl))) (by rfl) (He.free_ok X0 G (c.fact 112 (f := .free "set") (by rfl))) (de_lc false [("one", 1)] rfl sc.nd (di_any (de_var 0)) (blkOk_by (by kernel_rfl)) (fun _ _ _ _ _ => (dg_name 1 sc.nd)) (fun _ _ _ _ _ => dts_nil) (fun _ _ _ _ _ => (de_ix (de_var 1) de_int)))) (de_len (by rfl) (He.free_ok X0 G (c.fact 107 (f := .free "len") (by rfl))) (de_var 0))))))
theorem ok_is_hall (c : He.SaysD fa fn K) (X0 : K.In h) (G : h.Ns mainGlobals mg) : Def P w K mg base CX0 5 (He.ga K "is_hall") ["value"] [] Sh.is_hall := by
  obtain ⟨fd, F⟩ := c.def_ 6 (d := d_is_hall) rfl
  exact ⟨⟨fd, [], okb_is_hall c X0 G F, F.bindsN fun _ _ _ _ _ _ us hl => match us, hl with | [_], _ => rfl, .nil⟩, F.kp⟩
theorem sc_running_sums : FnScope ["numbers", "found", "number"] ["numbers"] (defScope (top 20)) := ⟨rfl, rfl, rfl, by decide +kernel, rfl, by decide +kernel, by decide +kernel⟩
theorem okb_running_sums (c : He.SaysD fa fn K) (X0 : K.In h) (G : h.Ns mainGlobals mg) {fd : FuncData} (F : FunD K d_running_sums.name d_running_sums.qual d_running_sums.params d_running_sums.body d_running_sums.scope (d_running_sums.dvs K) (d_running_sums.kws K) (He.ga K "running_sums") fd) : FnOk P w K mg base CX0 1 (He.ga K "running_sums") fd ["numbers"] (spN K 1 Sh.running_sums) := by
  have sc := sc_running_sums
  refine fn_ok F sc (by decide) (fun cdv A outer s H E hr => ?_)
  exact (ds_cons (ds_set 1 sc.nd (de_lstO (da_cons de_int da_nil))) (ds_cons (ds_for (vs := [2]) (passes_of rfl) rfl (di_any (de_var 0)) (dg_name 2 sc.nd) (ds_one (ds_expr (de_append (de_var 1) (de_add (de_ix (de_var 1) (de_neg de_int)) (de_var 2)))))) (ds_one (ds_ret (de_frz (de_var 1))))))
theorem ok_running_sums (c : He.SaysD fa fn K) (X0 : K.In h) (G : h.Ns mainGlobals mg) : Def P w K mg base CX0 1 (He.ga K "running_sums") ["numbers"] [] Sh.running_sums := by
  obtain ⟨fd, F⟩ := c.def_ 7 (d := d_running_sums) rfl
  exact ⟨⟨fd, [], okb_running_sums c X0 G F, F.bindsN fun _ _ _ _ _ _ us hl => match us, hl with | [_], _ => rfl, .nil⟩, F.kp⟩
theorem sc_Schedule_init : FnScope ["self", "prefix", "cycle", "one"] ["self", "prefix", "cycle"] (defScope (inClass (top 21) 0)) := ⟨rfl, rfl, rfl, by decide +kernel, rfl, by decide +kernel, by decide +kernel⟩
theorem okb_Schedule_init (c : He.SaysD fa fn K) (X0 : K.In h) (G : h.Ns mainGlobals mg) {fd : FuncData} (F : FunD K d_Schedule_init.name d_Schedule_init.qual d_Schedule_init.params d_Schedule_init.body d_Schedule_init.scope (d_Schedule_init.dvs K) (d_Schedule_init.kws K) (He.ma K (He.ga K "Schedule") "__init__") fd) : FnOk P w K mg base CX0 2 (He.ma K (He.ga K "Schedule") "__init__") fd ["self", "prefix", "cycle"] (spN K 3 Sh.Schedule_init) := by
  have H_running_sums := ok_running_sums (P := P) (w := w) (base := base) c X0 G
  have sc := sc_Schedule_init
  refine fn_ok F sc (by decide) (fun cdv A outer s H E hr => ?_)
  exact (ds_cons (ds_fld (C := "Schedule") (f := "prefix") (He.noat_ok (c.fact 27 (f := .noat "Schedule" "prefix") (by rfl))) (de_var 0) (de_lc false [("one", 3)] rfl sc.nd (di_any (de_var 1)) (blkOk_by (by kernel_rfl)) (fun _ _ _ _ _ => (dg_name 3 sc.nd)) (fun _ _ _ _ _ => dts_nil) (fun _ _ _ _ _ => (de_tuple (by rfl) (He.free_ok X0 G (c.fact 115 (f := .free "tuple") (by rfl))) (de_var 3))))) (ds_cons (ds_fld (C := "Schedule") (f := "cycle") (He.noat_ok (c.fact 28 (f := .noat "Schedule" "cycle") (by rfl))) (de_var 0) (de_lc false [("one", 3)] rfl sc.nd (di_any (de_var 2)) (blkOk_by (by kernel_rfl)) (fun _ _ _ _ _ => (dg_name 3 sc.nd)) (fun _ _ _ _ _ => dts_nil) (fun _ _ _ _ _ => (de_tuple (by rfl) (He.free_ok X0 G (c.fact 115 (f := .free "tuple") (by rfl))) (de_var 3))))) (ds_cons (ds_fld (C := "Schedule") (f := "prefix_silences") (He.noat_ok (c.fact 29 (f := .noat "Schedule" "prefix_silences") (by rfl))) (de_var 0) (de_callF [] ((H_running_sums.up (by decide)).pure) hr (He.glo_ok X0 G (c.fact 23 (f := .glo "running_sums") (by rfl))) (fun _ _ => .nil) (fun _ => passAt0) (da_cons (de_lc false [("one", 3)] rfl sc.nd (di_any (de_fld (f := "prefix") (de_var 0))) (blkOk_by (by kernel_rfl)) (fun _ _ _ _ _ => (dg_name 3 sc.nd)) (fun _ _ _ _ _ => dts_nil) (fun _ _ _ _ _ => (de_ix (de_var 3) de_int))) da_nil) (sCons_len sNil_len))) (ds_cons (ds_fld (C := "Schedule") (f := "prefix_lengths") (He.noat_ok (c.fact 30 (f := .noat "Schedule" "prefix_lengths") (by rfl))) (de_var 0) (de_callF [] ((H_running_sums.up (by decide)).pure) hr (He.glo_ok X0 G (c.fact 23 (f := .glo "running_sums") (by rfl))) (fun _ _ => .nil) (fun _ => passAt0) (da_cons (de_lc false [("one", 3)] rfl sc.nd (di_any (de_fld (f := "prefix") (de_var 0))) (blkOk_by (by kernel_rfl)) (fun _ _ _ _ _ => (dg_name 3 sc.nd)) (fun _ _ _ _ _ => dts_nil) (fun _ _ _ _ _ => (de_ix (de_var 3) de_int))) da_nil) (sCons_len sNil_len))) (ds_cons (ds_fld (C := "Schedule") (f := "cycle_silences") (He.noat_ok (c.fact 31 (f := .noat "Schedule" "cycle_silences") (by rfl))) (de_var 0) (de_callF [] ((H_running_sums.up (by decide)).pure) hr (He.glo_ok X0 G (c.fact 23 (f := .glo "running_sums") (by rfl))) (fun _ _ => .nil) (fun _ => passAt0) (da_cons (de_lc false [("one", 3)] rfl sc.nd (di_any (de_fld (f := "cycle") (de_var 0))) (blkOk_by (by kernel_rfl)) (fun _ _ _ _ _ => (dg_name 3 sc.nd)) (fun _ _ _ _ _ => dts_nil) (fun _ _ _ _ _ => (de_ix (de_var 3) de_int))) da_nil) (sCons_len sNil_len))) (ds_one (ds_fld (C := "Schedule") (f := "cycle_lengths") (He.noat_ok (c.fact 32 (f := .noat "Schedule" "cycle_lengths") (by rfl))) (de_var 0) (de_callF [] ((H_running_sums.up (by decide)).pure) hr (He.glo_ok X0 G (c.fact 23 (f := .glo "running_sums") (by rfl))) (fun _ _ => .nil) (fun _ => passAt0) (da_cons (de_lc false [("one", 3)] rfl sc.nd (di_any (de_fld (f := "cycle") (de_var 0))) (blkOk_by (by kernel_rfl)) (fun _ _ _ _ _ => (dg_name 3 sc.nd)) (fun _ _ _ _ _ => dts_nil) (fun _ _ _ _ _ => (de_ix (de_var 3) de_int))) da_nil) (sCons_len sNil_len)))))))))
theorem ok_Schedule_init (c : He.SaysD fa fn K) (X0 : K.In h) (G : h.Ns mainGlobals mg) : Def P w K mg base CX0 2 (He.ma K (He.ga K "Schedule") "__init__") ["self", "prefix", "cycle"] [] Sh.Schedule_init := by
  obtain ⟨fd, F⟩ := c.def_ 8 (d := d_Schedule_init) rfl
  exact ⟨⟨fd, [], okb_Schedule_init c X0 G F, F.bindsN fun _ _ _ _ _ _ us hl => match us, hl with | [_, _, _], _ => rfl, .nil⟩, F.kp⟩
theorem sc_Member_init : FnScope ["self", "talker"] ["self", "talker"] (defScope (inClass (top 22) 0)) := ⟨rfl, rfl, rfl, by decide +kernel, rfl, by decide +kernel, by decide +kernel⟩
theorem okb_Member_init (c : He.SaysD fa fn K) (X0 : K.In h) (G : h.Ns mainGlobals mg) {fd : FuncData} (F : FunD K d_Member_init.name d_Member_init.qual d_Member_init.params d_Member_init.body d_Member_init.scope (d_Member_init.dvs K) (d_Member_init.kws K) (He.ma K (He.ga K "Member") "__init__") fd) : FnOk P w K mg base CX0 4 (He.ma K (He.ga K "Member") "__init__") fd ["self", "talker"] (spN K 2 Sh.Member_init) := by
  have H_Schedule_init := ok_Schedule_init (P := P) (w := w) (base := base) c X0 G
  have sc := sc_Member_init
  refine fn_ok F sc (by decide) (fun cdv A outer s H E hr => ?_)
  exact (ds_cons (ds_fld (C := "Member") (f := "name") (He.noat_ok (c.fact 41 (f := .noat "Member" "name") (by rfl))) (de_var 0) (de_ix (de_var 1) de_int)) (ds_cons (ds_fld (C := "Member") (f := "rank") (He.noat_ok (c.fact 42 (f := .noat "Member" "rank") (by rfl))) (de_var 0) (de_ix (de_var 1) de_int)) (ds_one (ds_fld (C := "Member") (f := "schedule") (He.noat_ok (c.fact 43 (f := .noat "Member" "schedule") (by rfl))) (de_var 0) (de_makeF (C := "Schedule") (He.mkr_ok (c.fact 26 (f := .mkr "Schedule") (by rfl))) (He.cls_ok (c.fact 25 (f := .cls "Schedule") (by rfl))) H_Schedule_init (hr.mono (by decide)) (He.glo_ok X0 G (c.fact 24 (f := .glo "Schedule") (by rfl))) (da_cons (de_ix (de_var 1) de_int) (da_cons (de_ix (de_var 1) de_int) da_nil)) (sCons_len (sCons_len sNil_len)))))))
theorem ok_Member_init (c : He.SaysD fa fn K) (X0 : K.In h) (G : h.Ns mainGlobals mg) : Def P w K mg base CX0 4 (He.ma K (He.ga K "Member") "__init__") ["self", "talker"] [] Sh.Member_init := by
  obtain ⟨fd, F⟩ := c.def_ 14 (d := d_Member_init) rfl
  exact ⟨⟨fd, [], okb_Member_init c X0 G F, F.bindsN fun _ _ _ _ _ _ us hl => match us, hl with | [_, _], _ => rfl, .nil⟩, F.kp⟩
theorem sc_checked_hall : FnScope ["hall", "talker"] ["hall"] (defScope (top 23)) := ⟨rfl, rfl, rfl, by decide +kernel, rfl, by decide +kernel, by decide +kernel⟩
theorem okb_checked_hall (c : He.SaysD fa fn K) (X0 : K.In h) (G : h.Ns mainGlobals mg) {fd : FuncData} (F : FunD K d_checked_hall.name d_checked_hall.qual d_checked_hall.params d_checked_hall.body d_checked_hall.scope (d_checked_hall.dvs K) (d_checked_hall.kws K) (He.ga K "checked_hall") fd) : FnOk P w K mg base (L2.CX P w) 6 (He.ga K "checked_hall") fd ["hall"] (spN K 1 Sh.checked_hall) := by
  have H_is_hall := ok_is_hall (P := P) (w := w) (base := base) c X0 G
  have H_Member_init := ok_Member_init (P := P) (w := w) (base := base) c X0 G
  have sc := sc_checked_hall
  refine fn_ok F sc (by decide) (fun cdv A outer s H E hr => ?_)
  exact (ds_cons (ds_if (dt_not (dt_val (de_callF [] ((H_is_hall.up (by decide)).pure) hr (He.glo_ok X0 G (c.fact 22 (f := .glo "is_hall") (by rfl))) (fun _ _ => .nil) (fun _ => passAt0) (da_cons (de_var 0) da_nil) (sCons_len sNil_len)))) (ds_one (ds_raise (C := "InvalidHall") (takes_of rfl rfl rfl rfl) rfl (He.exc_ok (c.fact 3 (f := .exc "InvalidHall") (by rfl))).1 (He.exc_ok (c.fact 3 (f := .exc "InvalidHall") (by rfl))).2.1 (He.exc_ok (c.fact 3 (f := .exc "InvalidHall") (by rfl))).2.2.1 (He.exc_ok (c.fact 3 (f := .exc "InvalidHall") (by rfl))).2.2.2 (He.glo_ok X0 G (c.fact 2 (f := .glo "InvalidHall") (by rfl))) (by rfl))) ds_nil) (ds_one (ds_ret (de_lc false [("talker", 1)] rfl sc.nd (di_any (de_var 0)) (blkOk_by (by kernel_rfl)) (fun _ _ _ _ _ => (dg_name 1 sc.nd)) (fun _ _ _ _ _ => dts_nil) (fun _ _ _ _ _ => (de_makeF (C := "Member") (He.mkr_ok (c.fact 40 (f := .mkr "Member") (by rfl))) (He.cls_ok (c.fact 39 (f := .cls "Member") (by rfl))) H_Member_init (hr.mono (by decide)) (He.glo_ok X0 G (c.fact 38 (f := .glo "Member") (by rfl))) (da_cons (de_var 1) da_nil) (sCons_len sNil_len)))))))
theorem ok_checked_hall (c : He.SaysD fa fn K) (X0 : K.In h) (G : h.Ns mainGlobals mg) : Def P w K mg base (L2.CX P w) 6 (He.ga K "checked_hall") ["hall"] [] Sh.checked_hall := by
  obtain ⟨fd, F⟩ := c.def_ 15 (d := d_checked_hall) rfl
  exact ⟨⟨fd, [], okb_checked_hall c X0 G F, F.bindsN fun _ _ _ _ _ _ us hl => match us, hl with | [_], _ => rfl, .nil⟩, F.kp⟩
theorem sc_common_divisor : FnScope ["one", "other"] ["one", "other"] (defScope (top 60)) := ⟨rfl, rfl, rfl, by decide +kernel, rfl, by decide +kernel, by decide +kernel⟩
theorem okb_common_divisor (c : He.SaysD fa fn K) (X0 : K.In h) (G : h.Ns mainGlobals mg) {fd : FuncData} (F : FunD K d_common_divisor.name d_common_divisor.qual d_common_divisor.params d_common_divisor.body d_common_divisor.scope (d_common_divisor.dvs K) (d_common_divisor.kws K) (He.ga K "common_divisor") fd) : FnOk P w K mg base CX0 1 (He.ga K "common_divisor") fd ["one", "other"] (spN K 2 Sh.common_divisor) := by
  have sc := sc_common_divisor
  refine fn_ok F sc (by decide) (fun cdv A outer s H E hr => ?_)
  exact (ds_cons (ds_whileA (passes_of rfl) (dt_gt (de_var 1) de_int) (ds_one (ds_par (i := 0) (j := 1) rfl sc.nd (da_cons (de_var 1) (da_cons (de_mod (de_var 0) (de_var 1)) da_nil))))) (ds_one (ds_ret (de_var 0))))
theorem ok_common_divisor (c : He.SaysD fa fn K) (X0 : K.In h) (G : h.Ns mainGlobals mg) : Def P w K mg base CX0 1 (He.ga K "common_divisor") ["one", "other"] [] Sh.common_divisor := by
  obtain ⟨fd, F⟩ := c.def_ 44 (d := d_common_divisor) rfl
  exact ⟨⟨fd, [], okb_common_divisor c X0 G F, F.bindsN fun _ _ _ _ _ _ us hl => match us, hl with | [_, _], _ => rfl, .nil⟩, F.kp⟩
theorem sc_common_multiple : FnScope ["one", "other"] ["one", "other"] (defScope (top 61)) := ⟨rfl, rfl, rfl, by decide +kernel, rfl, by decide +kernel, by decide +kernel⟩
theorem okb_common_multiple (c : He.SaysD fa fn K) (X0 : K.In h) (G : h.Ns mainGlobals mg) {fd : FuncData} (F : FunD K d_common_multiple.name d_common_multiple.qual d_common_multiple.params d_common_multiple.body d_common_multiple.scope (d_common_multiple.dvs K) (d_common_multiple.kws K) (He.ga K "common_multiple") fd) : FnOk P w K mg base CX0 2 (He.ga K "common_multiple") fd ["one", "other"] (spN K 2 Sh.common_multiple) := by
  have H_common_divisor := ok_common_divisor (P := P) (w := w) (base := base) c X0 G
  have sc := sc_common_multiple
  refine fn_ok F sc (by decide) (fun cdv A outer s H E hr => ?_)
  exact (ds_one (ds_ret (de_mul (de_div (de_var 0) (de_callF [] ((H_common_divisor.up (by decide)).pure) hr (He.glo_ok X0 G (c.fact 76 (f := .glo "common_divisor") (by rfl))) (fun _ _ => .nil) (fun _ => passAt0) (da_cons (de_var 0) (da_cons (de_var 1) da_nil)) (sCons_len (sCons_len sNil_len)))) (de_var 1))))
theorem ok_common_multiple (c : He.SaysD fa fn K) (X0 : K.In h) (G : h.Ns mainGlobals mg) : Def P w K mg base CX0 2 (He.ga K "common_multiple") ["one", "other"] [] Sh.common_multiple := by
  obtain ⟨fd, F⟩ := c.def_ 45 (d := d_common_multiple) rfl
  exact ⟨⟨fd, [], okb_common_multiple c X0 G F, F.bindsN fun _ _ _ _ _ _ us hl => match us, hl with | [_, _], _ => rfl, .nil⟩, F.kp⟩
theorem sc_RankCycle_spoken_by : FnScope ["self", "member"] ["self", "member"] (defScope (inClass (top 62) 1)) := ⟨rfl, rfl, rfl, by decide +kernel, rfl, by decide +kernel, by decide +kernel⟩
theorem okb_RankCycle_spoken_by (c : He.SaysD fa fn K) (X0 : K.In h) (G : h.Ns mainGlobals mg) {fd : FuncData} (F : FunD K d_RankCycle_spoken_by.name d_RankCycle_spoken_by.qual d_RankCycle_spoken_by.params d_RankCycle_spoken_by.body d_RankCycle_spoken_by.scope (d_RankCycle_spoken_by.dvs K) (d_RankCycle_spoken_by.kws K) (He.ma K (He.ga K "RankCycle") "spoken_by") fd) : FnOk P w K mg base CX0 1 (He.ma K (He.ga K "RankCycle") "spoken_by") fd ["self", "member"] (spN K 2 Sh.RankCycle_spoken_by) := by
  have sc := sc_RankCycle_spoken_by
  refine fn_ok F sc (by decide) (fun cdv A outer s H E hr => ?_)
  exact (ds_one (ds_ret (de_mul (de_div (de_fld (f := "quiet") (de_var 0)) (de_ix (de_fld (f := "cycle_silences") (de_fld (f := "schedule") (de_var 1))) (de_neg de_int))) (de_ix (de_fld (f := "cycle_lengths") (de_fld (f := "schedule") (de_var 1))) (de_neg de_int)))))
theorem ok_RankCycle_spoken_by (c : He.SaysD fa fn K) (X0 : K.In h) (G : h.Ns mainGlobals mg) : Def P w K mg base CX0 1 (He.ma K (He.ga K "RankCycle") "spoken_by") ["self", "member"] [] Sh.RankCycle_spoken_by := by
  obtain ⟨fd, F⟩ := c.def_ 47 (d := d_RankCycle_spoken_by) rfl
  exact ⟨⟨fd, [], okb_RankCycle_spoken_by c X0 G F, F.bindsN fun _ _ _ _ _ _ us hl => match us, hl with | [_, _], _ => rfl, .nil⟩, F.kp⟩
theorem sc_RankCycle_init : FnScope ["self", "members", "rank", "member"] ["self", "members", "rank"] (defScope (inClass (top 62) 0)) := ⟨rfl, rfl, rfl, by decide +kernel, rfl, by decide +kernel, by decide +kernel⟩
theorem okb_RankCycle_init (c : He.SaysD fa fn K) (X0 : K.In h) (G : h.Ns mainGlobals mg) {fd : FuncData} (F : FunD K d_RankCycle_init.name d_RankCycle_init.qual d_RankCycle_init.params d_RankCycle_init.body d_RankCycle_init.scope (d_RankCycle_init.dvs K) (d_RankCycle_init.kws K) (He.ma K (He.ga K "RankCycle") "__init__") fd) : FnOk P w K mg base CX0 3 (He.ma K (He.ga K "RankCycle") "__init__") fd ["self", "members", "rank"] (spN K 3 Sh.RankCycle_init) := by
  have H_common_multiple := ok_common_multiple (P := P) (w := w) (base := base) c X0 G
  have H_RankCycle_spoken_by := ok_RankCycle_spoken_by (P := P) (w := w) (base := base) c X0 G
  have sc := sc_RankCycle_init
  refine fn_ok F sc (by decide) (fun cdv A outer s H E hr => ?_)
  exact (ds_cons (ds_fld (C := "RankCycle") (f := "members") (He.noat_ok (c.fact 81 (f := .noat "RankCycle" "members") (by rfl))) (de_var 0) (de_lc false [("member", 3)] rfl sc.nd (di_any (de_var 1)) (blkOk_by (by kernel_rfl)) (fun _ _ _ _ _ => (dg_name 3 sc.nd)) (fun _ _ _ _ _ => (dts_one (dt_eq (hu_ hr) (de_fld (f := "rank") (de_var 3)) (de_var 2)))) (fun _ _ _ _ _ => (de_var 3)))) (ds_cons (ds_fld (C := "RankCycle") (f := "quiet") (He.noat_ok (c.fact 82 (f := .noat "RankCycle" "quiet") (by rfl))) (de_var 0) de_int) (ds_cons (ds_for (vs := [3]) (passes_of rfl) rfl (di_any (de_fld (f := "members") (de_var 0))) (dg_name 3 sc.nd) (ds_one (ds_fld (C := "RankCycle") (f := "quiet") (He.noat_ok (c.fact 82 (f := .noat "RankCycle" "quiet") (by rfl))) (de_var 0) (de_callF [] ((H_common_multiple.up (by decide)).pure) hr (He.glo_ok X0 G (c.fact 77 (f := .glo "common_multiple") (by rfl))) (fun _ _ => .nil) (fun _ => passAt0) (da_cons (de_fld (f := "quiet") (de_var 0)) (da_cons (de_ix (de_fld (f := "cycle_silences") (de_fld (f := "schedule") (de_var 3))) (de_neg de_int)) da_nil)) (sCons_len (sCons_len sNil_len)))))) (ds_one (ds_fld (C := "RankCycle") (f := "left") (He.noat_ok (c.fact 83 (f := .noat "RankCycle" "left") (by rfl))) (de_var 0) (de_add (de_fld (f := "quiet") (de_var 0)) (de_sum rfl (by rfl) (He.free_ok X0 G (c.fact 114 (f := .free "sum") (by rfl))) (de_lc false [("member", 3)] rfl sc.nd (di_any (de_fld (f := "members") (de_var 0))) (blkOk_by (by kernel_rfl)) (fun _ _ _ _ _ => (dg_name 3 sc.nd)) (fun _ _ _ _ _ => dts_nil) (fun _ _ _ _ _ => (de_methF (C := "RankCycle") (mt := "spoken_by") _ (He.cls_ok (c.fact 79 (f := .cls "RankCycle") (by rfl))) (He.meth_ok (c.fact 84 (f := .meth "RankCycle" "spoken_by") (by rfl))) (H_RankCycle_spoken_by.up (by decide)) hr (de_var 0) (da_cons (de_var 3) da_nil) (sCons_len sNil_len)))))))))))
theorem ok_RankCycle_init (c : He.SaysD fa fn K) (X0 : K.In h) (G : h.Ns mainGlobals mg) : Def P w K mg base CX0 3 (He.ma K (He.ga K "RankCycle") "__init__") ["self", "members", "rank"] [] Sh.RankCycle_init := by
  obtain ⟨fd, F⟩ := c.def_ 46 (d := d_RankCycle_init) rfl
  exact ⟨⟨fd, [], okb_RankCycle_init c X0 G F, F.bindsN fun _ _ _ _ _ _ us hl => match us, hl with | [_, _, _], _ => rfl, .nil⟩, F.kp⟩
theorem sc_Schedule_sum_of_first : FnScope ["self", "many", "prefix_sums", "cycle_sums", "rounds", "rest"] ["self", "many", "prefix_sums", "cycle_sums"] (defScope (inClass (top 21) 2)) := ⟨rfl, rfl, rfl, by decide +kernel, rfl, by decide +kernel, by decide +kernel⟩
theorem okb_Schedule_sum_of_first (c : He.SaysD fa fn K) (X0 : K.In h) (G : h.Ns mainGlobals mg) {fd : FuncData} (F : FunD K d_Schedule_sum_of_first.name d_Schedule_sum_of_first.qual d_Schedule_sum_of_first.params d_Schedule_sum_of_first.body d_Schedule_sum_of_first.scope (d_Schedule_sum_of_first.dvs K) (d_Schedule_sum_of_first.kws K) (He.ma K (He.ga K "Schedule") "sum_of_first") fd) : FnOk P w K mg base CX0 1 (He.ma K (He.ga K "Schedule") "sum_of_first") fd ["self", "many", "prefix_sums", "cycle_sums"] (spN K 4 Sh.Schedule_sum_of_first) := by
  have sc := sc_Schedule_sum_of_first
  refine fn_ok F sc (by decide) (fun cdv A outer s H E hr => ?_)
  exact (ds_cons (ds_if (dt_le (de_var 1) (de_len (by rfl) (He.free_ok X0 G (c.fact 107 (f := .free "len") (by rfl))) (de_fld (f := "prefix") (de_var 0)))) (ds_one (ds_ret (de_ix (de_var 2) (de_var 1)))) ds_nil) (ds_cons (ds_asg (vs := [4, 5]) (de_divmod (by rfl) (He.free_ok X0 G (c.fact 103 (f := .free "divmod") (by rfl))) (de_sub (de_var 1) (de_len (by rfl) (He.free_ok X0 G (c.fact 107 (f := .free "len") (by rfl))) (de_fld (f := "prefix") (de_var 0)))) (de_len (by rfl) (He.free_ok X0 G (c.fact 107 (f := .free "len") (by rfl))) (de_fld (f := "cycle") (de_var 0)))) (dg_tup (n := 2) rfl (dg_cons (dg_name 4 sc.nd) (dg_cons (dg_name 5 sc.nd) dg_nil)) rfl (pg_tup rfl (dg_cons (dg_name 4 sc.nd) (dg_cons (dg_name 5 sc.nd) dg_nil))) (pg_lst rfl (dg_cons (dg_name 4 sc.nd) (dg_cons (dg_name 5 sc.nd) dg_nil))))) (ds_one (ds_ret (de_add (de_add (de_ix (de_var 2) (de_neg de_int)) (de_mul (de_var 4) (de_ix (de_var 3) (de_neg de_int)))) (de_ix (de_var 3) (de_var 5)))))))
theorem ok_Schedule_sum_of_first (c : He.SaysD fa fn K) (X0 : K.In h) (G : h.Ns mainGlobals mg) : Def P w K mg base CX0 1 (He.ma K (He.ga K "Schedule") "sum_of_first") ["self", "many", "prefix_sums", "cycle_sums"] [] Sh.Schedule_sum_of_first := by
  obtain ⟨fd, F⟩ := c.def_ 10 (d := d_Schedule_sum_of_first) rfl
  exact ⟨⟨fd, [], okb_Schedule_sum_of_first c X0 G F, F.bindsN fun _ _ _ _ _ _ us hl => match us, hl with | [_, _, _, _], _ => rfl, .nil⟩, F.kp⟩
theorem sc_Schedule_nth_ready : FnScope ["self", "index"] ["self", "index"] (defScope (inClass (top 21) 3)) := ⟨rfl, rfl, rfl, by decide +kernel, rfl, by decide +kernel, by decide +kernel⟩
theorem okb_Schedule_nth_ready (c : He.SaysD fa fn K) (X0 : K.In h) (G : h.Ns mainGlobals mg) {fd : FuncData} (F : FunD K d_Schedule_nth_ready.name d_Schedule_nth_ready.qual d_Schedule_nth_ready.params d_Schedule_nth_ready.body d_Schedule_nth_ready.scope (d_Schedule_nth_ready.dvs K) (d_Schedule_nth_ready.kws K) (He.ma K (He.ga K "Schedule") "nth_ready") fd) : FnOk P w K mg base CX0 2 (He.ma K (He.ga K "Schedule") "nth_ready") fd ["self", "index"] (spN K 2 Sh.Schedule_nth_ready) := by
  have H_Schedule_sum_of_first := ok_Schedule_sum_of_first (P := P) (w := w) (base := base) c X0 G
  have sc := sc_Schedule_nth_ready
  refine fn_ok F sc (by decide) (fun cdv A outer s H E hr => ?_)
  exact (ds_one (ds_ret (de_methF (C := "Schedule") (mt := "sum_of_first") _ (He.cls_ok (c.fact 25 (f := .cls "Schedule") (by rfl))) (He.meth_ok (c.fact 34 (f := .meth "Schedule" "sum_of_first") (by rfl))) ((H_Schedule_sum_of_first.up (by decide)).pure) hr (de_var 0) (da_cons (de_add (de_var 1) de_int) (da_cons (de_fld (f := "prefix_silences") (de_var 0)) (da_cons (de_fld (f := "cycle_silences") (de_var 0)) da_nil))) (sCons_len (sCons_len (sCons_len sNil_len))))))
theorem ok_Schedule_nth_ready (c : He.SaysD fa fn K) (X0 : K.In h) (G : h.Ns mainGlobals mg) : Def P w K mg base CX0 2 (He.ma K (He.ga K "Schedule") "nth_ready") ["self", "index"] [] Sh.Schedule_nth_ready := by
  obtain ⟨fd, F⟩ := c.def_ 11 (d := d_Schedule_nth_ready) rfl
  exact ⟨⟨fd, [], okb_Schedule_nth_ready c X0 G F, F.bindsN fun _ _ _ _ _ _ us hl => match us, hl with | [_, _], _ => rfl, .nil⟩, F.kp⟩
theorem sc_Schedule_count_ready : FnScope ["self", "quiet", "total", "rounds", "rest", "found"] ["self", "quiet"] (defScope (inClass (top 21) 4)) := ⟨rfl, rfl, rfl, by decide +kernel, rfl, by decide +kernel, by decide +kernel⟩
theorem okb_Schedule_count_ready (c : He.SaysD fa fn K) (X0 : K.In h) (G : h.Ns mainGlobals mg) {fd : FuncData} (F : FunD K d_Schedule_count_ready.name d_Schedule_count_ready.qual d_Schedule_count_ready.params d_Schedule_count_ready.body d_Schedule_count_ready.scope (d_Schedule_count_ready.dvs K) (d_Schedule_count_ready.kws K) (He.ma K (He.ga K "Schedule") "count_ready") fd) : FnOk P w K mg base CX0 1 (He.ma K (He.ga K "Schedule") "count_ready") fd ["self", "quiet"] (spN K 2 Sh.Schedule_count_ready) := by
  have sc := sc_Schedule_count_ready
  refine fn_ok F sc (by decide) (fun cdv A outer s H E hr => ?_)
  exact (ds_cons (ds_if (dt_lt (de_var 1) (de_ix (de_fld (f := "prefix_silences") (de_var 0)) (de_neg de_int))) (ds_one (ds_ret (de_len (by rfl) (He.free_ok X0 G (c.fact 107 (f := .free "len") (by rfl))) (de_lc false [("total", 2)] rfl sc.nd (di_any (de_cut false (de_fld (f := "prefix_silences") (de_var 0)) (do_some de_int) do_none)) (blkOk_by (by kernel_rfl)) (fun _ _ _ _ _ => (dg_name 2 sc.nd)) (fun _ _ _ _ _ => (dts_one (dt_le (de_var 2) (de_var 1)))) (fun _ _ _ _ _ => (de_var 2)))))) ds_nil) (ds_cons (ds_asg (vs := [3, 4]) (de_divmod (by rfl) (He.free_ok X0 G (c.fact 103 (f := .free "divmod") (by rfl))) (de_sub (de_var 1) (de_ix (de_fld (f := "prefix_silences") (de_var 0)) (de_neg de_int))) (de_ix (de_fld (f := "cycle_silences") (de_var 0)) (de_neg de_int))) (dg_tup (n := 2) rfl (dg_cons (dg_name 3 sc.nd) (dg_cons (dg_name 4 sc.nd) dg_nil)) rfl (pg_tup rfl (dg_cons (dg_name 3 sc.nd) (dg_cons (dg_name 4 sc.nd) dg_nil))) (pg_lst rfl (dg_cons (dg_name 3 sc.nd) (dg_cons (dg_name 4 sc.nd) dg_nil))))) (ds_cons (ds_set 5 sc.nd (de_add (de_len (by rfl) (He.free_ok X0 G (c.fact 107 (f := .free "len") (by rfl))) (de_fld (f := "prefix") (de_var 0))) (de_mul (de_var 3) (de_len (by rfl) (He.free_ok X0 G (c.fact 107 (f := .free "len") (by rfl))) (de_fld (f := "cycle") (de_var 0)))))) (ds_one (ds_ret (de_add (de_var 5) (de_len (by rfl) (He.free_ok X0 G (c.fact 107 (f := .free "len") (by rfl))) (de_lc false [("total", 2)] rfl sc.nd (di_any (de_cut false (de_fld (f := "cycle_silences") (de_var 0)) (do_some de_int) do_none)) (blkOk_by (by kernel_rfl)) (fun _ _ _ _ _ => (dg_name 2 sc.nd)) (fun _ _ _ _ _ => (dts_one (dt_le (de_var 2) (de_var 4)))) (fun _ _ _ _ _ => (de_var 2))))))))))
theorem ok_Schedule_count_ready (c : He.SaysD fa fn K) (X0 : K.In h) (G : h.Ns mainGlobals mg) : Def P w K mg base CX0 1 (He.ma K (He.ga K "Schedule") "count_ready") ["self", "quiet"] [] Sh.Schedule_count_ready := by
  obtain ⟨fd, F⟩ := c.def_ 12 (d := d_Schedule_count_ready) rfl
  exact ⟨⟨fd, [], okb_Schedule_count_ready c X0 G F, F.bindsN fun _ _ _ _ _ _ us hl => match us, hl with | [_, _], _ => rfl, .nil⟩, F.kp⟩
theorem sc_Schedule_nth_talk : FnScope ["self", "index"] ["self", "index"] (defScope (inClass (top 21) 1)) := ⟨rfl, rfl, rfl, by decide +kernel, rfl, by decide +kernel, by decide +kernel⟩
theorem okb_Schedule_nth_talk (c : He.SaysD fa fn K) (X0 : K.In h) (G : h.Ns mainGlobals mg) {fd : FuncData} (F : FunD K d_Schedule_nth_talk.name d_Schedule_nth_talk.qual d_Schedule_nth_talk.params d_Schedule_nth_talk.body d_Schedule_nth_talk.scope (d_Schedule_nth_talk.dvs K) (d_Schedule_nth_talk.kws K) (He.ma K (He.ga K "Schedule") "nth_talk") fd) : FnOk P w K mg base CX0 1 (He.ma K (He.ga K "Schedule") "nth_talk") fd ["self", "index"] (spN K 2 Sh.Schedule_nth_talk) := by
  have sc := sc_Schedule_nth_talk
  refine fn_ok F sc (by decide) (fun cdv A outer s H E hr => ?_)
  exact (ds_cons (ds_if (dt_lt (de_var 1) (de_len (by rfl) (He.free_ok X0 G (c.fact 107 (f := .free "len") (by rfl))) (de_fld (f := "prefix") (de_var 0)))) (ds_one (ds_ret (de_ix (de_fld (f := "prefix") (de_var 0)) (de_var 1)))) ds_nil) (ds_one (ds_ret (de_ix (de_fld (f := "cycle") (de_var 0)) (de_mod (de_sub (de_var 1) (de_len (by rfl) (He.free_ok X0 G (c.fact 107 (f := .free "len") (by rfl))) (de_fld (f := "prefix") (de_var 0)))) (de_len (by rfl) (He.free_ok X0 G (c.fact 107 (f := .free "len") (by rfl))) (de_fld (f := "cycle") (de_var 0))))))))
theorem ok_Schedule_nth_talk (c : He.SaysD fa fn K) (X0 : K.In h) (G : h.Ns mainGlobals mg) : Def P w K mg base CX0 1 (He.ma K (He.ga K "Schedule") "nth_talk") ["self", "index"] [] Sh.Schedule_nth_talk := by
  obtain ⟨fd, F⟩ := c.def_ 9 (d := d_Schedule_nth_talk) rfl
  exact ⟨⟨fd, [], okb_Schedule_nth_talk c X0 G F, F.bindsN fun _ _ _ _ _ _ us hl => match us, hl with | [_, _], _ => rfl, .nil⟩, F.kp⟩
theorem sc_run_of : FnScope ["members", "rank", "quiet", "found", "member", "many"] ["members", "rank", "quiet"] (defScope (top 39)) := ⟨rfl, rfl, rfl, by decide +kernel, rfl, by decide +kernel, by decide +kernel⟩
theorem okb_run_of (c : He.SaysD fa fn K) (X0 : K.In h) (G : h.Ns mainGlobals mg) {fd : FuncData} (F : FunD K d_run_of.name d_run_of.qual d_run_of.params d_run_of.body d_run_of.scope (d_run_of.dvs K) (d_run_of.kws K) (He.ga K "run_of") fd) : FnOk P w K mg base CX0 3 (He.ga K "run_of") fd ["members", "rank", "quiet"] (spN K 3 Sh.run_of) := by
  have H_Schedule_count_ready := ok_Schedule_count_ready (P := P) (w := w) (base := base) c X0 G
  have H_Schedule_nth_ready := ok_Schedule_nth_ready (P := P) (w := w) (base := base) c X0 G
  have H_Schedule_nth_talk := ok_Schedule_nth_talk (P := P) (w := w) (base := base) c X0 G
  have sc := sc_run_of
  refine fn_ok F sc (by decide) (fun cdv A outer s H E hr => ?_)
  exact (ds_cons (ds_set 3 sc.nd (de_lstO da_nil)) (ds_cons (ds_for (vs := [4]) (passes_of rfl) rfl (di_any (de_var 0)) (dg_name 4 sc.nd) (ds_cons (ds_set 5 sc.nd (de_methF (C := "Schedule") (mt := "count_ready") _ (He.cls_ok (c.fact 25 (f := .cls "Schedule") (by rfl))) (He.meth_ok (c.fact 36 (f := .meth "Schedule" "count_ready") (by rfl))) ((H_Schedule_count_ready.up (by decide)).pure) hr (de_fld (f := "schedule") (de_var 4)) (da_cons (de_var 2) da_nil) (sCons_len sNil_len))) (ds_one (ds_if (DW.dt (dw_and (dt_eq (hu_ hr) (de_fld (f := "rank") (de_var 4)) (de_var 1)) (dw_and (dt_gt (de_var 5) de_int) (dw_and1 (dt_eq (hu_ hr) (de_methF (C := "Schedule") (mt := "nth_ready") _ (He.cls_ok (c.fact 25 (f := .cls "Schedule") (by rfl))) (He.meth_ok (c.fact 35 (f := .meth "Schedule" "nth_ready") (by rfl))) ((H_Schedule_nth_ready.up (by decide)).pure) hr (de_fld (f := "schedule") (de_var 4)) (da_cons (de_sub (de_var 5) de_int) da_nil) (sCons_len sNil_len)) (de_var 2)))))) (ds_one (ds_expr (de_append (de_var 3) (de_tup (da_cons (de_var 4) (da_cons (de_sub (de_var 5) de_int) (da_cons (de_ix (de_methF (C := "Schedule") (mt := "nth_talk") _ (He.cls_ok (c.fact 25 (f := .cls "Schedule") (by rfl))) (He.meth_ok (c.fact 33 (f := .meth "Schedule" "nth_talk") (by rfl))) ((H_Schedule_nth_talk.up (by decide)).pure) hr (de_fld (f := "schedule") (de_var 4)) (da_cons (de_sub (de_var 5) de_int) da_nil) (sCons_len sNil_len)) de_int) da_nil))))))) ds_nil)))) (ds_one (ds_ret (de_frz (de_var 3))))))
theorem ok_run_of (c : He.SaysD fa fn K) (X0 : K.In h) (G : h.Ns mainGlobals mg) : Def P w K mg base CX0 3 (He.ga K "run_of") ["members", "rank", "quiet"] [] Sh.run_of := by
  obtain ⟨fd, F⟩ := c.def_ 26 (d := d_run_of) rfl
  exact ⟨⟨fd, [], okb_run_of c X0 G F, F.bindsN fun _ _ _ _ _ _ us hl => match us, hl with | [_, _, _], _ => rfl, .nil⟩, F.kp⟩
theorem sc_Schedule_length_ready : FnScope ["self", "quiet"] ["self", "quiet"] (defScope (inClass (top 21) 5)) := ⟨rfl, rfl, rfl, by decide +kernel, rfl, by decide +kernel, by decide +kernel⟩
theorem okb_Schedule_length_ready (c : He.SaysD fa fn K) (X0 : K.In h) (G : h.Ns mainGlobals mg) {fd : FuncData} (F : FunD K d_Schedule_length_ready.name d_Schedule_length_ready.qual d_Schedule_length_ready.params d_Schedule_length_ready.body d_Schedule_length_ready.scope (d_Schedule_length_ready.dvs K) (d_Schedule_length_ready.kws K) (He.ma K (He.ga K "Schedule") "length_ready") fd) : FnOk P w K mg base CX0 2 (He.ma K (He.ga K "Schedule") "length_ready") fd ["self", "quiet"] (spN K 2 Sh.Schedule_length_ready) := by
  have H_Schedule_sum_of_first := ok_Schedule_sum_of_first (P := P) (w := w) (base := base) c X0 G
  have H_Schedule_count_ready := ok_Schedule_count_ready (P := P) (w := w) (base := base) c X0 G
  have sc := sc_Schedule_length_ready
  refine fn_ok F sc (by decide) (fun cdv A outer s H E hr => ?_)
  exact (ds_one (ds_ret (de_methF (C := "Schedule") (mt := "sum_of_first") _ (He.cls_ok (c.fact 25 (f := .cls "Schedule") (by rfl))) (He.meth_ok (c.fact 34 (f := .meth "Schedule" "sum_of_first") (by rfl))) ((H_Schedule_sum_of_first.up (by decide)).pure) hr (de_var 0) (da_cons (de_methF (C := "Schedule") (mt := "count_ready") _ (He.cls_ok (c.fact 25 (f := .cls "Schedule") (by rfl))) (He.meth_ok (c.fact 36 (f := .meth "Schedule" "count_ready") (by rfl))) ((H_Schedule_count_ready.up (by decide)).pure) hr (de_var 0) (da_cons (de_var 1) da_nil) (sCons_len sNil_len)) (da_cons (de_fld (f := "prefix_lengths") (de_var 0)) (da_cons (de_fld (f := "cycle_lengths") (de_var 0)) da_nil))) (sCons_len (sCons_len (sCons_len sNil_len))))))
theorem ok_Schedule_length_ready (c : He.SaysD fa fn K) (X0 : K.In h) (G : h.Ns mainGlobals mg) : Def P w K mg base CX0 2 (He.ma K (He.ga K "Schedule") "length_ready") ["self", "quiet"] [] Sh.Schedule_length_ready := by
  obtain ⟨fd, F⟩ := c.def_ 13 (d := d_Schedule_length_ready) rfl
  exact ⟨⟨fd, [], okb_Schedule_length_ready c X0 G F, F.bindsN fun _ _ _ _ _ _ us hl => match us, hl with | [_, _], _ => rfl, .nil⟩, F.kp⟩
theorem sc_rank_length : FnScope ["members", "rank", "quiet", "member"] ["members", "rank", "quiet"] (defScope (top 28)) := ⟨rfl, rfl, rfl, by decide +kernel, rfl, by decide +kernel, by decide +kernel⟩
theorem okb_rank_length (c : He.SaysD fa fn K) (X0 : K.In h) (G : h.Ns mainGlobals mg) {fd : FuncData} (F : FunD K d_rank_length.name d_rank_length.qual d_rank_length.params d_rank_length.body d_rank_length.scope (d_rank_length.dvs K) (d_rank_length.kws K) (He.ga K "rank_length") fd) : FnOk P w K mg base CX0 3 (He.ga K "rank_length") fd ["members", "rank", "quiet"] (spN K 3 Sh.rank_length) := by
  have H_Schedule_length_ready := ok_Schedule_length_ready (P := P) (w := w) (base := base) c X0 G
  have sc := sc_rank_length
  refine fn_ok F sc (by decide) (fun cdv A outer s H E hr => ?_)
  exact (ds_one (ds_ret (de_sum rfl (by rfl) (He.free_ok X0 G (c.fact 114 (f := .free "sum") (by rfl))) (de_lc false [("member", 3)] rfl sc.nd (di_any (de_var 0)) (blkOk_by (by kernel_rfl)) (fun _ _ _ _ _ => (dg_name 3 sc.nd)) (fun _ _ _ _ _ => (dts_one (dt_eq (hu_ hr) (de_fld (f := "rank") (de_var 3)) (de_var 1)))) (fun _ _ _ _ _ => (de_methF (C := "Schedule") (mt := "length_ready") _ (He.cls_ok (c.fact 25 (f := .cls "Schedule") (by rfl))) (He.meth_ok (c.fact 37 (f := .meth "Schedule" "length_ready") (by rfl))) ((H_Schedule_length_ready.up (by decide)).pure) hr (de_fld (f := "schedule") (de_var 3)) (da_cons (de_var 2) da_nil) (sCons_len sNil_len)))))))
theorem ok_rank_length (c : He.SaysD fa fn K) (X0 : K.In h) (G : h.Ns mainGlobals mg) : Def P w K mg base CX0 3 (He.ga K "rank_length") ["members", "rank", "quiet"] [] Sh.rank_length := by
  obtain ⟨fd, F⟩ := c.def_ 19 (d := d_rank_length) rfl
  exact ⟨⟨fd, [], okb_rank_length c X0 G F, F.bindsN fun _ _ _ _ _ _ us hl => match us, hl with | [_, _, _], _ => rfl, .nil⟩, F.kp⟩
theorem sc_left_index : FnScope ["members", "rank", "quiet"] ["members", "rank", "quiet"] (defScope (top 29)) := ⟨rfl, rfl, rfl, by decide +kernel, rfl, by decide +kernel, by decide +kernel⟩
theorem okb_left_index (c : He.SaysD fa fn K) (X0 : K.In h) (G : h.Ns mainGlobals mg) {fd : FuncData} (F : FunD K d_left_index.name d_left_index.qual d_left_index.params d_left_index.body d_left_index.scope (d_left_index.dvs K) (d_left_index.kws K) (He.ga K "left_index") fd) : FnOk P w K mg base CX0 4 (He.ga K "left_index") fd ["members", "rank", "quiet"] (spN K 3 Sh.left_index) := by
  have H_rank_length := ok_rank_length (P := P) (w := w) (base := base) c X0 G
  have sc := sc_left_index
  refine fn_ok F sc (by decide) (fun cdv A outer s H E hr => ?_)
  exact (ds_one (ds_ret (de_add (de_var 2) (de_callF [] ((H_rank_length.up (by decide)).pure) hr (He.glo_ok X0 G (c.fact 48 (f := .glo "rank_length") (by rfl))) (fun _ _ => .nil) (fun _ => passAt0) (da_cons (de_var 0) (da_cons (de_var 1) (da_cons (de_var 2) da_nil))) (sCons_len (sCons_len (sCons_len sNil_len)))))))
theorem ok_left_index (c : He.SaysD fa fn K) (X0 : K.In h) (G : h.Ns mainGlobals mg) : Def P w K mg base CX0 4 (He.ga K "left_index") ["members", "rank", "quiet"] [] Sh.left_index := by
  obtain ⟨fd, F⟩ := c.def_ 20 (d := d_left_index) rfl
  exact ⟨⟨fd, [], okb_left_index c X0 G F, F.bindsN fun _ _ _ _ _ _ us hl => match us, hl with | [_, _, _], _ => rfl, .nil⟩, F.kp⟩
theorem sc_tick_of : FnScope ["members", "rank", "index", "found", "higher"] ["members", "rank", "index"] (defScope (top 32)) := ⟨rfl, rfl, rfl, by decide +kernel, rfl, by decide +kernel, by decide +kernel⟩
theorem okb_tick_of (c : He.SaysD fa fn K) (X0 : K.In h) (G : h.Ns mainGlobals mg) {fd : FuncData} (F : FunD K d_tick_of.name d_tick_of.qual d_tick_of.params d_tick_of.body d_tick_of.scope (d_tick_of.dvs K) (d_tick_of.kws K) (He.ga K "tick_of") fd) : FnOk P w K mg base CX0 5 (He.ga K "tick_of") fd ["members", "rank", "index"] (spN K 3 Sh.tick_of) := by
  have H_left_index := ok_left_index (P := P) (w := w) (base := base) c X0 G
  have sc := sc_tick_of
  refine fn_ok F sc (by decide) (fun cdv A outer s H E hr => ?_)
  exact (ds_cons (ds_set 3 sc.nd (de_var 2)) (ds_cons (ds_for (vs := [4]) (passes_of rfl) rfl (di_rngN (by rfl) (He.free_ok X0 G (c.fact 111 (f := .free "range") (by rfl))) (de_sub (de_var 1) de_int) de_int (de_neg de_int)) (dg_name 4 sc.nd) (ds_one (ds_set 3 sc.nd (de_callF [] ((H_left_index.up (by decide)).pure) hr (He.glo_ok X0 G (c.fact 49 (f := .glo "left_index") (by rfl))) (fun _ _ => .nil) (fun _ => passAt0) (da_cons (de_var 0) (da_cons (de_var 4) (da_cons (de_var 3) da_nil))) (sCons_len (sCons_len (sCons_len sNil_len))))))) (ds_one (ds_ret (de_var 3)))))
theorem ok_tick_of (c : He.SaysD fa fn K) (X0 : K.In h) (G : h.Ns mainGlobals mg) : Def P w K mg base CX0 5 (He.ga K "tick_of") ["members", "rank", "index"] [] Sh.tick_of := by
  obtain ⟨fd, F⟩ := c.def_ 23 (d := d_tick_of) rfl
  exact ⟨⟨fd, [], okb_tick_of c X0 G F, F.bindsN fun _ _ _ _ _ _ us hl => match us, hl with | [_, _, _], _ => rfl, .nil⟩, F.kp⟩
theorem sc_span_by : FnScope ["members", "member", "index", "ready", "first", "other", "number", "length", "last"] ["members", "member", "index"] (defScope (top 56)) := ⟨rfl, rfl, rfl, by decide +kernel, rfl, by decide +kernel, by decide +kernel⟩
theorem okb_span_by (c : He.SaysD fa fn K) (X0 : K.In h) (G : h.Ns mainGlobals mg) {fd : FuncData} (F : FunD K d_span_by.name d_span_by.qual d_span_by.params d_span_by.body d_span_by.scope (d_span_by.dvs K) (d_span_by.kws K) (He.ga K "span_by") fd) : FnOk P w K mg base CX0 6 (He.ga K "span_by") fd ["members", "member", "index"] (spN K 3 Sh.span_by) := by
  have H_Schedule_nth_ready := ok_Schedule_nth_ready (P := P) (w := w) (base := base) c X0 G
  have H_left_index := ok_left_index (P := P) (w := w) (base := base) c X0 G
  have H_run_of := ok_run_of (P := P) (w := w) (base := base) c X0 G
  have H_Schedule_nth_talk := ok_Schedule_nth_talk (P := P) (w := w) (base := base) c X0 G
  have H_tick_of := ok_tick_of (P := P) (w := w) (base := base) c X0 G
  have sc := sc_span_by
  refine fn_ok F sc (by decide) (fun cdv A outer s H E hr => ?_)
  exact (ds_cons (ds_set 3 sc.nd (de_methF (C := "Schedule") (mt := "nth_ready") _ (He.cls_ok (c.fact 25 (f := .cls "Schedule") (by rfl))) (He.meth_ok (c.fact 35 (f := .meth "Schedule" "nth_ready") (by rfl))) ((H_Schedule_nth_ready.up (by decide)).pure) hr (de_fld (f := "schedule") (de_var 1)) (da_cons (de_var 2) da_nil) (sCons_len sNil_len))) (ds_cons (ds_set 4 sc.nd (de_add (de_callF [] ((H_left_index.up (by decide)).pure) hr (He.glo_ok X0 G (c.fact 49 (f := .glo "left_index") (by rfl))) (fun _ _ => .nil) (fun _ => passAt0) (da_cons (de_var 0) (da_cons (de_fld (f := "rank") (de_var 1)) (da_cons (de_sub (de_var 3) de_int) da_nil))) (sCons_len (sCons_len (sCons_len sNil_len)))) de_int)) (ds_cons (ds_for (vs := [5, 6, 7]) (passes_of rfl) rfl (di_any (de_callF [] ((H_run_of.up (by decide)).pure) hr (He.glo_ok X0 G (c.fact 58 (f := .glo "run_of") (by rfl))) (fun _ _ => .nil) (fun _ => passAt0) (da_cons (de_var 0) (da_cons (de_fld (f := "rank") (de_var 1)) (da_cons (de_var 3) da_nil))) (sCons_len (sCons_len (sCons_len sNil_len))))) (dg_tup (n := 3) rfl (dg_cons (dg_name 5 sc.nd) (dg_cons (dg_name 6 sc.nd) (dg_cons (dg_name 7 sc.nd) dg_nil))) rfl (pg_tup rfl (dg_cons (dg_name 5 sc.nd) (dg_cons (dg_name 6 sc.nd) (dg_cons (dg_name 7 sc.nd) dg_nil)))) (pg_lst rfl (dg_cons (dg_name 5 sc.nd) (dg_cons (dg_name 6 sc.nd) (dg_cons (dg_name 7 sc.nd) dg_nil))))) (ds_cons (ds_if (dt_eq (hu_ hr) (de_fld (f := "name") (de_var 5)) (de_fld (f := "name") (de_var 1))) (ds_one ds_break) ds_nil) (ds_one (ds_augI 4 sc.nd ip_add (de_var 7))))) (ds_cons (ds_set 8 sc.nd (de_sub (de_add (de_var 4) (de_ix (de_methF (C := "Schedule") (mt := "nth_talk") _ (He.cls_ok (c.fact 25 (f := .cls "Schedule") (by rfl))) (He.meth_ok (c.fact 33 (f := .meth "Schedule" "nth_talk") (by rfl))) ((H_Schedule_nth_talk.up (by decide)).pure) hr (de_fld (f := "schedule") (de_var 1)) (da_cons (de_var 2) da_nil) (sCons_len sNil_len)) de_int)) de_int)) (ds_one (ds_ret (de_tup (da_cons (de_callF [] ((H_tick_of.up (by decide)).pure) hr (He.glo_ok X0 G (c.fact 52 (f := .glo "tick_of") (by rfl))) (fun _ _ => .nil) (fun _ => passAt0) (da_cons (de_var 0) (da_cons (de_fld (f := "rank") (de_var 1)) (da_cons (de_var 4) da_nil))) (sCons_len (sCons_len (sCons_len sNil_len)))) (da_cons (de_callF [] ((H_tick_of.up (by decide)).pure) hr (He.glo_ok X0 G (c.fact 52 (f := .glo "tick_of") (by rfl))) (fun _ _ => .nil) (fun _ => passAt0) (da_cons (de_var 0) (da_cons (de_fld (f := "rank") (de_var 1)) (da_cons (de_var 8) da_nil))) (sCons_len (sCons_len (sCons_len sNil_len)))) da_nil)))))))))
theorem ok_span_by (c : He.SaysD fa fn K) (X0 : K.In h) (G : h.Ns mainGlobals mg) : Def P w K mg base CX0 6 (He.ga K "span_by") ["members", "member", "index"] [] Sh.span_by := by
  obtain ⟨fd, F⟩ := c.def_ 41 (d := d_span_by) rfl
  exact ⟨⟨fd, [], okb_span_by c X0 G F, F.bindsN fun _ _ _ _ _ _ us hl => match us, hl with | [_, _, _], _ => rfl, .nil⟩, F.kp⟩
theorem sc_start_of : FnScope ["members", "found", "member", "many"] ["members"] (defScope (top 63)) := ⟨rfl, rfl, rfl, by decide +kernel, rfl, by decide +kernel, by decide +kernel⟩
theorem okb_start_of (c : He.SaysD fa fn K) (X0 : K.In h) (G : h.Ns mainGlobals mg) {fd : FuncData} (F : FunD K d_start_of.name d_start_of.qual d_start_of.params d_start_of.body d_start_of.scope (d_start_of.dvs K) (d_start_of.kws K) (He.ga K "start_of") fd) : FnOk P w K mg base CX0 7 (He.ga K "start_of") fd ["members"] (spN K 1 Sh.start_of) := by
  have H_span_by := ok_span_by (P := P) (w := w) (base := base) c X0 G
  have sc := sc_start_of
  refine fn_ok F sc (by decide) (fun cdv A outer s H E hr => ?_)
  exact (ds_cons (ds_set 1 sc.nd de_int) (ds_cons (ds_for (vs := [2]) (passes_of rfl) rfl (di_any (de_var 0)) (dg_name 2 sc.nd) (ds_cons (ds_set 3 sc.nd (de_len (by rfl) (He.free_ok X0 G (c.fact 107 (f := .free "len") (by rfl))) (de_fld (f := "prefix") (de_fld (f := "schedule") (de_var 2))))) (ds_one (ds_if (dt_gt (de_var 3) de_int) (ds_one (ds_set 1 sc.nd (de_max2 rfl (by rfl) (He.free_ok X0 G (c.fact 109 (f := .free "max") (by rfl))) (de_var 1) (de_add (de_ix (de_callF [] ((H_span_by.up (by decide)).pure) hr (He.glo_ok X0 G (c.fact 73 (f := .glo "span_by") (by rfl))) (fun _ _ => .nil) (fun _ => passAt0) (da_cons (de_var 0) (da_cons (de_var 2) (da_cons (de_sub (de_var 3) de_int) da_nil))) (sCons_len (sCons_len (sCons_len sNil_len)))) de_int) de_int)))) ds_nil)))) (ds_one (ds_ret (de_var 1)))))
theorem ok_start_of (c : He.SaysD fa fn K) (X0 : K.In h) (G : h.Ns mainGlobals mg) : Def P w K mg base CX0 7 (He.ga K "start_of") ["members"] [] Sh.start_of := by
  obtain ⟨fd, F⟩ := c.def_ 48 (d := d_start_of) rfl
  exact ⟨⟨fd, [], okb_start_of c X0 G F, F.bindsN fun _ _ _ _ _ _ us hl => match us, hl with | [_], _ => rfl, .nil⟩, F.kp⟩
theorem sc_cycle_of : FnScope ["hall", "members", "length", "left", "rank", "cycle", "rounds"] ["hall"] (defScope (top 64)) := ⟨rfl, rfl, rfl, by decide +kernel, rfl, by decide +kernel, by decide +kernel⟩
theorem okb_cycle_of (c : He.SaysD fa fn K) (X0 : K.In h) (G : h.Ns mainGlobals mg) {fd : FuncData} (F : FunD K d_cycle_of.name d_cycle_of.qual d_cycle_of.params d_cycle_of.body d_cycle_of.scope (d_cycle_of.dvs K) (d_cycle_of.kws K) (He.ga K "cycle_of") fd) : FnOk P w K mg base (L2.CX P w) 8 (He.ga K "cycle_of") fd ["hall"] (spN K 1 Sh.cycle_of) := by
  have H_checked_hall := ok_checked_hall (P := P) (w := w) (base := base) c X0 G
  have H_RankCycle_init := ok_RankCycle_init (P := P) (w := w) (base := base) c X0 G
  have H_common_divisor := ok_common_divisor (P := P) (w := w) (base := base) c X0 G
  have H_start_of := ok_start_of (P := P) (w := w) (base := base) c X0 G
  have sc := sc_cycle_of
  refine fn_ok F sc (by decide) (fun cdv A outer s H E hr => ?_)
  exact (ds_cons (ds_set 1 sc.nd (de_callF [] ((H_checked_hall.up (by decide)).pure) hr (He.glo_ok X0 G (c.fact 44 (f := .glo "checked_hall") (by rfl))) (fun _ _ => .nil) (fun s_ => passAt (takes_of rfl rfl rfl rfl) s_) (da_cons (de_var 0) da_nil) (sCons_len sNil_len))) (ds_cons (ds_asg (vs := [2, 3]) (de_tup (da_cons de_int (da_cons de_int da_nil))) (dg_tup (n := 2) rfl (dg_cons (dg_name 2 sc.nd) (dg_cons (dg_name 3 sc.nd) dg_nil)) rfl (pg_tup rfl (dg_cons (dg_name 2 sc.nd) (dg_cons (dg_name 3 sc.nd) dg_nil))) (pg_lst rfl (dg_cons (dg_name 2 sc.nd) (dg_cons (dg_name 3 sc.nd) dg_nil))))) (ds_cons (ds_for (vs := [4]) (passes_of rfl) rfl (di_rng2 (by rfl) (He.free_ok X0 G (c.fact 111 (f := .free "range") (by rfl))) de_int (de_add (de_globI (by rfl) (He.int_ok X0 G (c.fact 13 (f := .int "MAX_RANK" (10)) (by rfl)))) de_int)) (dg_name 4 sc.nd) (ds_cons (ds_set 5 sc.nd (de_makeF (C := "RankCycle") (He.mkr_ok (c.fact 80 (f := .mkr "RankCycle") (by rfl))) (He.cls_ok (c.fact 79 (f := .cls "RankCycle") (by rfl))) H_RankCycle_init (hr.mono (by decide)) (He.glo_ok X0 G (c.fact 78 (f := .glo "RankCycle") (by rfl))) (da_cons (de_var 1) (da_cons (de_var 4) da_nil)) (sCons_len (sCons_len sNil_len)))) (ds_cons (ds_set 6 sc.nd (de_div (de_fld (f := "left") (de_var 5)) (de_callF [] ((H_common_divisor.up (by decide)).pure) hr (He.glo_ok X0 G (c.fact 76 (f := .glo "common_divisor") (by rfl))) (fun _ _ => .nil) (fun _ => passAt0) (da_cons (de_var 3) (da_cons (de_fld (f := "left") (de_var 5)) da_nil)) (sCons_len (sCons_len sNil_len))))) (ds_cons (ds_augM 2 sc.nd (de_var 6)) (ds_one (ds_set 3 sc.nd (de_mul (de_div (de_mul (de_var 3) (de_var 6)) (de_fld (f := "left") (de_var 5))) (de_fld (f := "quiet") (de_var 5))))))))) (ds_one (ds_ret (de_tup (da_cons (de_callF [] ((H_start_of.up (by decide)).pure) hr (He.glo_ok X0 G (c.fact 85 (f := .glo "start_of") (by rfl))) (fun _ _ => .nil) (fun _ => passAt0) (da_cons (de_var 1) da_nil) (sCons_len sNil_len)) (da_cons (de_var 2) da_nil))))))))
theorem ok_cycle_of (c : He.SaysD fa fn K) (X0 : K.In h) (G : h.Ns mainGlobals mg) : Def P w K mg base (L2.CX P w) 8 (He.ga K "cycle_of") ["hall"] [] Sh.cycle_of := by
  obtain ⟨fd, F⟩ := c.def_ 49 (d := d_cycle_of) rfl
  exact ⟨⟨fd, [], okb_cycle_of c X0 G F, F.bindsN fun _ _ _ _ _ _ us hl => match us, hl with | [_], _ => rfl, .nil⟩, F.kp⟩
theorem sc_shares_of_1 : FnScope ["hall", "members", "top", "bottom", "found", "rank", "cycle", "member", "names", "shares", "name", "divisor"] ["hall"] (defScope (top 65)) := ⟨rfl, rfl, rfl, by decide +kernel, rfl, by decide +kernel, by decide +kernel⟩
theorem okb_shares_of_1 (c : He.SaysD fa fn K) (X0 : K.In h) (G : h.Ns mainGlobals mg) {fd : FuncData} (F : FunD K d_shares_of_1.name d_shares_of_1.qual d_shares_of_1.params d_shares_of_1.body d_shares_of_1.scope (d_shares_of_1.dvs K) (d_shares_of_1.kws K) (He.ga K "shares_of") fd) : FnOk P w K mg base (L2.CX P w) 7 (He.ga K "shares_of") fd ["hall"] (spN K 1 (Sh.shares_of_1 P w)) := by
  have H_checked_hall := ok_checked_hall (P := P) (w := w) (base := base) c X0 G
  have H_RankCycle_init := ok_RankCycle_init (P := P) (w := w) (base := base) c X0 G
  have H_RankCycle_spoken_by := ok_RankCycle_spoken_by (P := P) (w := w) (base := base) c X0 G
  have H_common_divisor := ok_common_divisor (P := P) (w := w) (base := base) c X0 G
  have sc := sc_shares_of_1
  refine fn_ok F sc (by decide) (fun cdv A outer s H E hr => ?_)
  exact (ds_cons (ds_set 1 sc.nd (de_callF [] ((H_checked_hall.up (by decide)).pure) hr (He.glo_ok X0 G (c.fact 44 (f := .glo "checked_hall") (by rfl))) (fun _ _ => .nil) (fun s_ => passAt (takes_of rfl rfl rfl rfl) s_) (da_cons (de_var 0) da_nil) (sCons_len sNil_len))) (ds_cons (ds_asg (vs := [2, 3]) (de_tup (da_cons de_int (da_cons de_int da_nil))) (dg_tup (n := 2) rfl (dg_cons (dg_name 2 sc.nd) (dg_cons (dg_name 3 sc.nd) dg_nil)) rfl (pg_tup rfl (dg_cons (dg_name 2 sc.nd) (dg_cons (dg_name 3 sc.nd) dg_nil))) (pg_lst rfl (dg_cons (dg_name 2 sc.nd) (dg_cons (dg_name 3 sc.nd) dg_nil))))) (ds_cons (ds_set 4 sc.nd de_dctO) (ds_cons (ds_for (vs := [5]) (passes_of rfl) rfl (di_rng2 (by rfl) (He.free_ok X0 G (c.fact 111 (f := .free "range") (by rfl))) de_int (de_add (de_globI (by rfl) (He.int_ok X0 G (c.fact 13 (f := .int "MAX_RANK" (10)) (by rfl)))) de_int)) (dg_name 5 sc.nd) (ds_cons (ds_set 6 sc.nd (de_makeF (C := "RankCycle") (He.mkr_ok (c.fact 80 (f := .mkr "RankCycle") (by rfl))) (He.cls_ok (c.fact 79 (f := .cls "RankCycle") (by rfl))) H_RankCycle_init (hr.mono (by decide)) (He.glo_ok X0 G (c.fact 78 (f := .glo "RankCycle") (by rfl))) (da_cons (de_var 1) (da_cons (de_var 5) da_nil)) (sCons_len (sCons_len sNil_len)))) (ds_cons (ds_for (vs := [7]) (passes_of rfl) rfl (di_any (de_fld (f := "members") (de_var 6))) (dg_name 7 sc.nd) (ds_one (ds_ixK (hu_ hr) (de_var 4) (de_fld (f := "name") (de_var 7)) (de_tup (da_cons (de_mul (de_var 2) (de_methF (C := "RankCycle") (mt := "spoken_by") _ (He.cls_ok (c.fact 79 (f := .cls "RankCycle") (by rfl))) (He.meth_ok (c.fact 84 (f := .meth "RankCycle" "spoken_by") (by rfl))) ((H_RankCycle_spoken_by.up (by decide)).pure) hr (de_var 6) (da_cons (de_var 7) da_nil) (sCons_len sNil_len))) (da_cons (de_mul (de_var 3) (de_fld (f := "left") (de_var 6))) da_nil)))))) (ds_one (ds_par (i := 2) (j := 3) rfl sc.nd (da_cons (de_mul (de_var 2) (de_fld (f := "quiet") (de_var 6))) (da_cons (de_mul (de_var 3) (de_fld (f := "left") (de_var 6))) da_nil))))))) (ds_cons (ds_set 8 sc.nd (de_add (de_lc false [("member", 7)] rfl sc.nd (di_any (de_var 1)) (blkOk_by (by kernel_rfl)) (fun _ _ _ _ _ => (dg_name 7 sc.nd)) (fun _ _ _ _ _ => dts_nil) (fun _ _ _ _ _ => (de_fld (f := "name") (de_var 7)))) (de_lst (da_cons de_non da_nil)))) (ds_cons (ds_putN (de_var 4) de_non (de_tup (da_cons (de_var 2) (da_cons (de_var 3) da_nil)))) (ds_cons (ds_set 9 sc.nd (de_lstO da_nil)) (ds_cons (ds_for (vs := [10]) (passes_of rfl) rfl (di_any (de_var 8)) (dg_name 10 sc.nd) (ds_cons (ds_set 11 sc.nd (de_callF [] ((H_common_divisor.up (by decide)).pure) hr (He.glo_ok X0 G (c.fact 76 (f := .glo "common_divisor") (by rfl))) (fun _ _ => .nil) (fun _ => passAt0) (da_cons (de_ix (de_getN (de_var 4) (de_var 10)) de_int) (da_cons (de_ix (de_getN (de_var 4) (de_var 10)) de_int) da_nil)) (sCons_len (sCons_len sNil_len)))) (ds_one (ds_expr (de_append (de_var 9) (de_tup (da_cons (de_var 10) (da_cons (de_div (de_ix (de_getN (de_var 4) (de_var 10)) de_int) (de_var 11)) (da_cons (de_div (de_ix (de_getN (de_var 4) (de_var 10)) de_int) (de_var 11)) da_nil))))))))) (ds_one (ds_ret (de_frz (de_var 9))))))))))))
theorem ok_shares_of_1 (c : He.SaysD fa fn K) (X0 : K.In h) (G : h.Ns mainGlobals mg) : Def P w K mg base (L2.CX P w) 7 (He.ga K "shares_of") ["hall"] [] (Sh.shares_of_1 P w) := by
  obtain ⟨fd, F⟩ := c.def_ 50 (d := d_shares_of_1) rfl
  exact ⟨⟨fd, [], okb_shares_of_1 c X0 G F, F.bindsN fun _ _ _ _ _ _ us hl => match us, hl with | [_], _ => rfl, .nil⟩, F.kp⟩
theorem sc_member_of : FnScope ["members", "name", "found", "member"] ["members", "name"] (defScope (top 24)) := ⟨rfl, rfl, rfl, by decide +kernel, rfl, by decide +kernel, by decide +kernel⟩
theorem okb_member_of (c : He.SaysD fa fn K) (X0 : K.In h) (G : h.Ns mainGlobals mg) {fd : FuncData} (F : FunD K d_member_of.name d_member_of.qual d_member_of.params d_member_of.body d_member_of.scope (d_member_of.dvs K) (d_member_of.kws K) (He.ga K "member_of") fd) : FnOk P w K mg base (L2.CX P w) 1 (He.ga K "member_of") fd ["members", "name"] (spN K 2 Sh.member_of) := by
  have sc := sc_member_of
  refine fn_ok F sc (by decide) (fun cdv A outer s H E hr => ?_)
  exact (ds_cons (ds_setLc (X := _) 2 false [("member", 3)] rfl sc.nd (di_any (de_var 0)) (blkOk_by (by kernel_rfl)) (fun _ _ _ _ _ => (dg_name 3 sc.nd)) (fun _ _ _ _ _ => (dts_one (DW.dt (dw_and (dt_val (de_isi (T := "str") (by simp) (by rfl) (He.free_ok X0 G (c.fact 106 (f := .free "isinstance") (by rfl))) (by rfl) (He.free_ok X0 G (c.fact 113 (f := .free "str") (by rfl))) (by decide +kernel) (de_var 1))) (dw_and1 (dt_eq (hu_ hr) (de_fld (f := "name") (de_var 3)) (de_var 1))))))) (fun _ _ _ _ _ => (de_var 3)) (sw_true rfl rfl rfl (by decide +kernel))) (ds_cons (ds_if (dt_eqN (hu_ hr) (de_var 2) (de_lst da_nil)) (ds_one (ds_raise (C := "UnknownTalker") (takes_of rfl rfl rfl rfl) rfl (He.exc_ok (c.fact 5 (f := .exc "UnknownTalker") (by rfl))).1 (He.exc_ok (c.fact 5 (f := .exc "UnknownTalker") (by rfl))).2.1 (He.exc_ok (c.fact 5 (f := .exc "UnknownTalker") (by rfl))).2.2.1 (He.exc_ok (c.fact 5 (f := .exc "UnknownTalker") (by rfl))).2.2.2 (He.glo_ok X0 G (c.fact 4 (f := .glo "UnknownTalker") (by rfl))) (by rfl))) ds_nil) (ds_one (ds_ret (de_ix (de_var 2) de_int)))))
theorem ok_member_of (c : He.SaysD fa fn K) (X0 : K.In h) (G : h.Ns mainGlobals mg) : Def P w K mg base (L2.CX P w) 1 (He.ga K "member_of") ["members", "name"] [] Sh.member_of := by
  obtain ⟨fd, F⟩ := c.def_ 16 (d := d_member_of) rfl
  exact ⟨⟨fd, [], okb_member_of c X0 G F, F.bindsN fun _ _ _ _ _ _ us hl => match us, hl with | [_, _], _ => rfl, .nil⟩, F.kp⟩
theorem sc_check_tick : FnScope ["value"] ["value"] (defScope (top 27)) := ⟨rfl, rfl, rfl, by decide +kernel, rfl, by decide +kernel, by decide +kernel⟩
theorem okb_check_tick (c : He.SaysD fa fn K) (X0 : K.In h) (G : h.Ns mainGlobals mg) {fd : FuncData} (F : FunD K d_check_tick.name d_check_tick.qual d_check_tick.params d_check_tick.body d_check_tick.scope (d_check_tick.dvs K) (d_check_tick.kws K) (He.ga K "check_tick") fd) : FnOk P w K mg base (L2.CX P w) 2 (He.ga K "check_tick") fd ["value"] (spN K 1 Sh.check_tick) := by
  have H_is_integer := ok_is_integer (P := P) (w := w) (base := base) c X0 G
  have H_is_integer_all := ok_is_integer_all (P := P) (w := w) (base := base) c X0 G
  have sc := sc_check_tick
  refine fn_ok F sc (by decide) (fun cdv A outer s H E hr => ?_)
  exact (ds_one (ds_if (dt_not (dt_val (de_callF [.non] ((H_is_integer.up (by decide)).pure) hr (He.glo_ok X0 G (c.fact 16 (f := .glo "is_integer") (by rfl))) (fun _ _ => .cons .non (.nil)) (fun _ => passAt0) (da_cons (de_var 0) (da_cons de_int da_nil)) (sCons_len (sCons_len sNil_len))))) (ds_one (ds_raise (C := "InvalidTick") (takes_of rfl rfl rfl rfl) rfl (He.exc_ok (c.fact 9 (f := .exc "InvalidTick") (by rfl))).1 (He.exc_ok (c.fact 9 (f := .exc "InvalidTick") (by rfl))).2.1 (He.exc_ok (c.fact 9 (f := .exc "InvalidTick") (by rfl))).2.2.1 (He.exc_ok (c.fact 9 (f := .exc "InvalidTick") (by rfl))).2.2.2 (He.glo_ok X0 G (c.fact 8 (f := .glo "InvalidTick") (by rfl))) (by rfl))) ds_nil))
theorem ok_check_tick (c : He.SaysD fa fn K) (X0 : K.In h) (G : h.Ns mainGlobals mg) : Def P w K mg base (L2.CX P w) 2 (He.ga K "check_tick") ["value"] [] Sh.check_tick := by
  obtain ⟨fd, F⟩ := c.def_ 18 (d := d_check_tick) rfl
  exact ⟨⟨fd, [], okb_check_tick c X0 G F, F.bindsN fun _ _ _ _ _ _ us hl => match us, hl with | [_], _ => rfl, .nil⟩, F.kp⟩
theorem sc_quiet_among : FnScope ["members", "rank", "left", "low", "high", "middle"] ["members", "rank", "left"] (defScope (top 30)) := ⟨rfl, rfl, rfl, by decide +kernel, rfl, by decide +kernel, by decide +kernel⟩
theorem okb_quiet_among (c : He.SaysD fa fn K) (X0 : K.In h) (G : h.Ns mainGlobals mg) {fd : FuncData} (F : FunD K d_quiet_among.name d_quiet_among.qual d_quiet_among.params d_quiet_among.body d_quiet_among.scope (d_quiet_among.dvs K) (d_quiet_among.kws K) (He.ga K "quiet_among") fd) : FnOk P w K mg base CX0 5 (He.ga K "quiet_among") fd ["members", "rank", "left"] (spN K 3 Sh.quiet_among) := by
  have H_left_index := ok_left_index (P := P) (w := w) (base := base) c X0 G
  have sc := sc_quiet_among
  refine fn_ok F sc (by decide) (fun cdv A outer s H E hr => ?_)
  exact (ds_cons (ds_par (i := 3) (j := 4) rfl sc.nd (da_cons de_int (da_cons (de_var 2) da_nil))) (ds_cons (ds_whileA (passes_of rfl) (dt_lt (de_var 3) (de_var 4)) (ds_cons (ds_set 5 sc.nd (de_div (de_add (de_var 3) (de_var 4)) de_int)) (ds_one (ds_if (dt_lt (de_callF [] ((H_left_index.up (by decide)).pure) hr (He.glo_ok X0 G (c.fact 49 (f := .glo "left_index") (by rfl))) (fun _ _ => .nil) (fun _ => passAt0) (da_cons (de_var 0) (da_cons (de_var 1) (da_cons (de_var 5) da_nil))) (sCons_len (sCons_len (sCons_len sNil_len)))) (de_var 2)) (ds_one (ds_set 3 sc.nd (de_add (de_var 5) de_int))) (ds_one (ds_set 4 sc.nd (de_var 5))))))) (ds_one (ds_ret (de_var 3)))))
theorem ok_quiet_among (c : He.SaysD fa fn K) (X0 : K.In h) (G : h.Ns mainGlobals mg) : Def P w K mg base CX0 5 (He.ga K "quiet_among") ["members", "rank", "left"] [] Sh.quiet_among := by
  obtain ⟨fd, F⟩ := c.def_ 21 (d := d_quiet_among) rfl
  exact ⟨⟨fd, [], okb_quiet_among c X0 G F, F.bindsN fun _ _ _ _ _ _ us hl => match us, hl with | [_, _, _], _ => rfl, .nil⟩, F.kp⟩
theorem sc_left_among : FnScope ["members", "rank", "tick", "left", "higher"] ["members", "rank", "tick"] (defScope (top 31)) := ⟨rfl, rfl, rfl, by decide +kernel, rfl, by decide +kernel, by decide +kernel⟩
theorem okb_left_among (c : He.SaysD fa fn K) (X0 : K.In h) (G : h.Ns mainGlobals mg) {fd : FuncData} (F : FunD K d_left_among.name d_left_among.qual d_left_among.params d_left_among.body d_left_among.scope (d_left_among.dvs K) (d_left_among.kws K) (He.ga K "left_among") fd) : FnOk P w K mg base CX0 6 (He.ga K "left_among") fd ["members", "rank", "tick"] (spN K 3 Sh.left_among) := by
  have H_quiet_among := ok_quiet_among (P := P) (w := w) (base := base) c X0 G
  have sc := sc_left_among
  refine fn_ok F sc (by decide) (fun cdv A outer s H E hr => ?_)
  exact (ds_cons (ds_set 3 sc.nd (de_var 2)) (ds_cons (ds_for (vs := [4]) (passes_of rfl) rfl (di_rng2 (by rfl) (He.free_ok X0 G (c.fact 111 (f := .free "range") (by rfl))) de_int (de_var 1)) (dg_name 4 sc.nd) (ds_one (ds_set 3 sc.nd (de_callF [] ((H_quiet_among.up (by decide)).pure) hr (He.glo_ok X0 G (c.fact 50 (f := .glo "quiet_among") (by rfl))) (fun _ _ => .nil) (fun _ => passAt0) (da_cons (de_var 0) (da_cons (de_var 4) (da_cons (de_var 3) da_nil))) (sCons_len (sCons_len (sCons_len sNil_len))))))) (ds_one (ds_ret (de_var 3)))))
theorem ok_left_among (c : He.SaysD fa fn K) (X0 : K.In h) (G : h.Ns mainGlobals mg) : Def P w K mg base CX0 6 (He.ga K "left_among") ["members", "rank", "tick"] [] Sh.left_among := by
  obtain ⟨fd, F⟩ := c.def_ 22 (d := d_left_among) rfl
  exact ⟨⟨fd, [], okb_left_among c X0 G F, F.bindsN fun _ _ _ _ _ _ us hl => match us, hl with | [_, _, _], _ => rfl, .nil⟩, F.kp⟩
theorem sc_offset_in_run : FnScope ["members", "rank", "left", "quiet"] ["members", "rank", "left", "quiet"] (defScope (top 38)) := ⟨rfl, rfl, rfl, by decide +kernel, rfl, by decide +kernel, by decide +kernel⟩
theorem okb_offset_in_run (c : He.SaysD fa fn K) (X0 : K.In h) (G : h.Ns mainGlobals mg) {fd : FuncData} (F : FunD K d_offset_in_run.name d_offset_in_run.qual d_offset_in_run.params d_offset_in_run.body d_offset_in_run.scope (d_offset_in_run.dvs K) (d_offset_in_run.kws K) (He.ga K "offset_in_run") fd) : FnOk P w K mg base CX0 4 (He.ga K "offset_in_run") fd ["members", "rank", "left", "quiet"] (spN K 4 Sh.offset_in_run) := by
  have H_rank_length := ok_rank_length (P := P) (w := w) (base := base) c X0 G
  have sc := sc_offset_in_run
  refine fn_ok F sc (by decide) (fun cdv A outer s H E hr => ?_)
  exact (ds_one (ds_ret (de_sub (de_sub (de_var 2) (de_var 3)) (de_callF [] ((H_rank_length.up (by decide)).pure) hr (He.glo_ok X0 G (c.fact 48 (f := .glo "rank_length") (by rfl))) (fun _ _ => .nil) (fun _ => passAt0) (da_cons (de_var 0) (da_cons (de_var 1) (da_cons (de_sub (de_var 3) de_int) da_nil))) (sCons_len (sCons_len (sCons_len sNil_len)))))))
theorem ok_offset_in_run (c : He.SaysD fa fn K) (X0 : K.In h) (G : h.Ns mainGlobals mg) : Def P w K mg base CX0 4 (He.ga K "offset_in_run") ["members", "rank", "left", "quiet"] [] Sh.offset_in_run := by
  obtain ⟨fd, F⟩ := c.def_ 25 (d := d_offset_in_run) rfl
  exact ⟨⟨fd, [], okb_offset_in_run c X0 G F, F.bindsN fun _ _ _ _ _ _ us hl => match us, hl with | [_, _, _, _], _ => rfl, .nil⟩, F.kp⟩
theorem sc_progress_of : FnScope ["members", "member", "tick", "left", "quiet", "ended", "begun", "spoken", "offset", "other", "index", "length"] ["members", "member", "tick"] (defScope (top 49)) := ⟨rfl, rfl, rfl, by decide +kernel, rfl, by decide +kernel, by decide +kernel⟩
theorem okb_progress_of (c : He.SaysD fa fn K) (X0 : K.In h) (G : h.Ns mainGlobals mg) {fd : FuncData} (F : FunD K d_progress_of.name d_progress_of.qual d_progress_of.params d_progress_of.body d_progress_of.scope (d_progress_of.dvs K) (d_progress_of.kws K) (He.ga K "progress_of") fd) : FnOk P w K mg base CX0 7 (He.ga K "progress_of") fd ["members", "member", "tick"] (spN K 3 Sh.progress_of) := by
  have H_left_among := ok_left_among (P := P) (w := w) (base := base) c X0 G
  have H_quiet_among := ok_quiet_among (P := P) (w := w) (base := base) c X0 G
  have H_Schedule_count_ready := ok_Schedule_count_ready (P := P) (w := w) (base := base) c X0 G
  have H_Schedule_length_ready := ok_Schedule_length_ready (P := P) (w := w) (base := base) c X0 G
  have H_offset_in_run := ok_offset_in_run (P := P) (w := w) (base := base) c X0 G
  have H_run_of := ok_run_of (P := P) (w := w) (base := base) c X0 G
  have sc := sc_progress_of
  refine fn_ok F sc (by decide) (fun cdv A outer s H E hr => ?_)
  exact (ds_cons (ds_set 3 sc.nd (de_callF [] ((H_left_among.up (by decide)).pure) hr (He.glo_ok X0 G (c.fact 51 (f := .glo "left_among") (by rfl))) (fun _ _ => .nil) (fun _ => passAt0) (da_cons (de_var 0) (da_cons (de_fld (f := "rank") (de_var 1)) (da_cons (de_var 2) da_nil))) (sCons_len (sCons_len (sCons_len sNil_len))))) (ds_cons (ds_set 4 sc.nd (de_callF [] ((H_quiet_among.up (by decide)).pure) hr (He.glo_ok X0 G (c.fact 50 (f := .glo "quiet_among") (by rfl))) (fun _ _ => .nil) (fun _ => passAt0) (da_cons (de_var 0) (da_cons (de_fld (f := "rank") (de_var 1)) (da_cons (de_var 3) da_nil))) (sCons_len (sCons_len (sCons_len sNil_len))))) (ds_cons (ds_set 5 sc.nd (de_methF (C := "Schedule") (mt := "count_ready") _ (He.cls_ok (c.fact 25 (f := .cls "Schedule") (by rfl))) (He.meth_ok (c.fact 36 (f := .meth "Schedule" "count_ready") (by rfl))) ((H_Schedule_count_ready.up (by decide)).pure) hr (de_fld (f := "schedule") (de_var 1)) (da_cons (de_sub (de_var 4) de_int) da_nil) (sCons_len sNil_len))) (ds_cons (ds_par (i := 6) (j := 7) rfl sc.nd (da_cons (de_var 5) (da_cons (de_methF (C := "Schedule") (mt := "length_ready") _ (He.cls_ok (c.fact 25 (f := .cls "Schedule") (by rfl))) (He.meth_ok (c.fact 37 (f := .meth "Schedule" "length_ready") (by rfl))) ((H_Schedule_length_ready.up (by decide)).pure) hr (de_fld (f := "schedule") (de_var 1)) (da_cons (de_sub (de_var 4) de_int) da_nil) (sCons_len sNil_len)) da_nil))) (ds_cons (ds_set 8 sc.nd (de_callF [] ((H_offset_in_run.up (by decide)).pure) hr (He.glo_ok X0 G (c.fact 57 (f := .glo "offset_in_run") (by rfl))) (fun _ _ => .nil) (fun _ => passAt0) (da_cons (de_var 0) (da_cons (de_fld (f := "rank") (de_var 1)) (da_cons (de_var 3) (da_cons (de_var 4) da_nil)))) (sCons_len (sCons_len (sCons_len (sCons_len sNil_len)))))) (ds_cons (ds_for (vs := [9, 10, 11]) (passes_of rfl) rfl (di_any (de_callF [] ((H_run_of.up (by decide)).pure) hr (He.glo_ok X0 G (c.fact 58 (f := .glo "run_of") (by rfl))) (fun _ _ => .nil) (fun _ => passAt0) (da_cons (de_var 0) (da_cons (de_fld (f := "rank") (de_var 1)) (da_cons (de_var 4) da_nil))) (sCons_len (sCons_len (sCons_len sNil_len))))) (dg_tup (n := 3) rfl (dg_cons (dg_name 9 sc.nd) (dg_cons (dg_name 10 sc.nd) (dg_cons (dg_name 11 sc.nd) dg_nil))) rfl (pg_tup rfl (dg_cons (dg_name 9 sc.nd) (dg_cons (dg_name 10 sc.nd) (dg_cons (dg_name 11 sc.nd) dg_nil)))) (pg_lst rfl (dg_cons (dg_name 9 sc.nd) (dg_cons (dg_name 10 sc.nd) (dg_cons (dg_name 11 sc.nd) dg_nil))))) (ds_cons (ds_if (dt_eq (hu_ hr) (de_fld (f := "name") (de_var 9)) (de_fld (f := "name") (de_var 1))) (ds_cons (ds_augI 6 sc.nd ip_add (de_toint (by rfl) (He.free_ok X0 G (c.fact 105 (f := .free "int") (by rfl))) (de_gt (de_var 8) de_int))) (ds_cons (ds_augI 5 sc.nd ip_add (de_toint (by rfl) (He.free_ok X0 G (c.fact 105 (f := .free "int") (by rfl))) (de_ge (de_var 8) (de_var 11)))) (ds_one (ds_augI 7 sc.nd ip_add (de_min2 rfl (by rfl) (He.free_ok X0 G (c.fact 110 (f := .free "min") (by rfl))) (de_max2 rfl (by rfl) (He.free_ok X0 G (c.fact 109 (f := .free "max") (by rfl))) (de_var 8) de_int) (de_var 11)))))) ds_nil) (ds_one (ds_augI 8 sc.nd ip_sub (de_var 11))))) (ds_one (ds_ret (de_tup (da_cons (de_var 6) (da_cons (de_var 5) (da_cons (de_var 7) da_nil))))))))))))
theorem ok_progress_of (c : He.SaysD fa fn K) (X0 : K.In h) (G : h.Ns mainGlobals mg) : Def P w K mg base CX0 7 (He.ga K "progress_of") ["members", "member", "tick"] [] Sh.progress_of := by
  obtain ⟨fd, F⟩ := c.def_ 35 (d := d_progress_of) rfl
  exact ⟨⟨fd, [], okb_progress_of c X0 G F, F.bindsN fun _ _ _ _ _ _ us hl => match us, hl with | [_, _, _], _ => rfl, .nil⟩, F.kp⟩
theorem sc_progress_before : FnScope ["hall", "name", "tick", "members", "member"] ["hall", "name", "tick"] (defScope (top 50)) := ⟨rfl, rfl, rfl, by decide +kernel, rfl, by decide +kernel, by decide +kernel⟩
theorem okb_progress_before (c : He.SaysD fa fn K) (X0 : K.In h) (G : h.Ns mainGlobals mg) {fd : FuncData} (F : FunD K d_progress_before.name d_progress_before.qual d_progress_before.params d_progress_before.body d_progress_before.scope (d_progress_before.dvs K) (d_progress_before.kws K) (He.ga K "progress_before") fd) : FnOk P w K mg base (L2.CX P w) 8 (He.ga K "progress_before") fd ["hall", "name", "tick"] (spN K 3 Sh.progress_before) := by
  have H_checked_hall := ok_checked_hall (P := P) (w := w) (base := base) c X0 G
  have H_member_of := ok_member_of (P := P) (w := w) (base := base) c X0 G
  have H_check_tick := ok_check_tick (P := P) (w := w) (base := base) c X0 G
  have H_progress_of := ok_progress_of (P := P) (w := w) (base := base) c X0 G
  have sc := sc_progress_before
  refine fn_ok F sc (by decide) (fun cdv A outer s H E hr => ?_)
  exact (ds_cons (ds_set 3 sc.nd (de_callF [] ((H_checked_hall.up (by decide)).pure) hr (He.glo_ok X0 G (c.fact 44 (f := .glo "checked_hall") (by rfl))) (fun _ _ => .nil) (fun s_ => passAt (takes_of rfl rfl rfl rfl) s_) (da_cons (de_var 0) da_nil) (sCons_len sNil_len))) (ds_cons (ds_set 4 sc.nd (de_callF [] ((H_member_of.up (by decide)).pure) hr (He.glo_ok X0 G (c.fact 45 (f := .glo "member_of") (by rfl))) (fun _ _ => .nil) (fun s_ => passAt (takes_of rfl rfl rfl rfl) s_) (da_cons (de_var 3) (da_cons (de_var 1) da_nil)) (sCons_len (sCons_len sNil_len)))) (ds_cons (ds_expr (de_callF [] ((H_check_tick.up (by decide)).pure) hr (He.glo_ok X0 G (c.fact 47 (f := .glo "check_tick") (by rfl))) (fun _ _ => .nil) (fun s_ => passAt (takes_of rfl rfl rfl rfl) s_) (da_cons (de_var 2) da_nil) (sCons_len sNil_len))) (ds_one (ds_ret (de_callF [] ((H_progress_of.up (by decide)).pure) hr (He.glo_ok X0 G (c.fact 67 (f := .glo "progress_of") (by rfl))) (fun _ _ => .nil) (fun _ => passAt0) (da_cons (de_var 3) (da_cons (de_var 4) (da_cons (de_var 2) da_nil))) (sCons_len (sCons_len (sCons_len sNil_len)))))))))
theorem ok_progress_before (c : He.SaysD fa fn K) (X0 : K.In h) (G : h.Ns mainGlobals mg) : Def P w K mg base (L2.CX P w) 8 (He.ga K "progress_before") ["hall", "name", "tick"] [] Sh.progress_before := by
  obtain ⟨fd, F⟩ := c.def_ 36 (d := d_progress_before) rfl
  exact ⟨⟨fd, [], okb_progress_before c X0 G F, F.bindsN fun _ _ _ _ _ _ us hl => match us, hl with | [_, _, _], _ => rfl, .nil⟩, F.kp⟩
theorem sc_ticks_spoken : FnScope ["hall", "name", "tick"] ["hall", "name", "tick"] (defScope (top 51)) := ⟨rfl, rfl, rfl, by decide +kernel, rfl, by decide +kernel, by decide +kernel⟩
theorem okb_ticks_spoken (c : He.SaysD fa fn K) (X0 : K.In h) (G : h.Ns mainGlobals mg) {fd : FuncData} (F : FunD K d_ticks_spoken.name d_ticks_spoken.qual d_ticks_spoken.params d_ticks_spoken.body d_ticks_spoken.scope (d_ticks_spoken.dvs K) (d_ticks_spoken.kws K) (He.ga K "ticks_spoken") fd) : FnOk P w K mg base (L2.CX P w) 9 (He.ga K "ticks_spoken") fd ["hall", "name", "tick"] (spN K 3 Sh.ticks_spoken) := by
  have H_progress_before := ok_progress_before (P := P) (w := w) (base := base) c X0 G
  have sc := sc_ticks_spoken
  refine fn_ok F sc (by decide) (fun cdv A outer s H E hr => ?_)
  exact (ds_one (ds_ret (de_ix (de_callF [] ((H_progress_before.up (by decide)).pure) hr (He.glo_ok X0 G (c.fact 68 (f := .glo "progress_before") (by rfl))) (fun _ _ => .nil) (fun s_ => passAt (takes_of rfl rfl rfl rfl) s_) (da_cons (de_var 0) (da_cons (de_var 1) (da_cons (de_var 2) da_nil))) (sCons_len (sCons_len (sCons_len sNil_len)))) de_int)))
theorem ok_ticks_spoken (c : He.SaysD fa fn K) (X0 : K.In h) (G : h.Ns mainGlobals mg) : Def P w K mg base (L2.CX P w) 9 (He.ga K "ticks_spoken") ["hall", "name", "tick"] [] Sh.ticks_spoken := by
  obtain ⟨fd, F⟩ := c.def_ 37 (d := d_ticks_spoken) rfl
  exact ⟨⟨fd, [], okb_ticks_spoken c X0 G F, F.bindsN fun _ _ _ _ _ _ us hl => match us, hl with | [_, _, _], _ => rfl, .nil⟩, F.kp⟩
theorem sc_l_gcd : FnScope ["_law_one", "_law_other"] ["_law_one", "_law_other"] (defScope (top 71)) := ⟨rfl, rfl, rfl, by decide +kernel, rfl, by decide +kernel, by decide +kernel⟩
theorem okb_l_gcd (c : He.SaysD fa fn K) (X0 : K.In h) (G : h.Ns mainGlobals mg) {fd : FuncData} (F : FunD K d_l_gcd.name d_l_gcd.qual d_l_gcd.params d_l_gcd.body d_l_gcd.scope (d_l_gcd.dvs K) (d_l_gcd.kws K) (He.ga K "_law_gcd") fd) : FnOk P w K mg base CX0 1 (He.ga K "_law_gcd") fd ["_law_one", "_law_other"] (spN K 2 Sh.l_gcd) := by
  have sc := sc_l_gcd
  refine fn_ok F sc (by decide) (fun cdv A outer s H E hr => ?_)
  exact (ds_cons (ds_whileA (passes_of rfl) (dt_gt (de_var 1) de_int) (ds_one (ds_par (i := 0) (j := 1) rfl sc.nd (da_cons (de_var 1) (da_cons (de_mod (de_var 0) (de_var 1)) da_nil))))) (ds_one (ds_ret (de_var 0))))
theorem ok_l_gcd (c : He.SaysD fa fn K) (X0 : K.In h) (G : h.Ns mainGlobals mg) : Def P w K mg base CX0 1 (He.ga K "_law_gcd") ["_law_one", "_law_other"] [] Sh.l_gcd := by
  obtain ⟨fd, F⟩ := c.def_ 55 (d := d_l_gcd) rfl
  exact ⟨⟨fd, [], okb_l_gcd c X0 G F, F.bindsN fun _ _ _ _ _ _ us hl => match us, hl with | [_, _], _ => rfl, .nil⟩, F.kp⟩
theorem sc_l_share : FnScope ["_law_amount", "_law_length", "_law_divisor"] ["_law_amount", "_law_length"] (defScope (top 73)) := ⟨rfl, rfl, rfl, by decide +kernel, rfl, by decide +kernel, by decide +kernel⟩
theorem okb_l_share (c : He.SaysD fa fn K) (X0 : K.In h) (G : h.Ns mainGlobals mg) {fd : FuncData} (F : FunD K d_l_share.name d_l_share.qual d_l_share.params d_l_share.body d_l_share.scope (d_l_share.dvs K) (d_l_share.kws K) (He.ga K "_law_share") fd) : FnOk P w K mg base CX0 2 (He.ga K "_law_share") fd ["_law_amount", "_law_length"] (spN K 2 Sh.l_share) := by
  have H_l_gcd := ok_l_gcd (P := P) (w := w) (base := base) c X0 G
  have sc := sc_l_share
  refine fn_ok F sc (by decide) (fun cdv A outer s H E hr => ?_)
  exact (ds_cons (ds_set 2 sc.nd (de_callF [] ((H_l_gcd.up (by decide)).pure) hr (He.glo_ok X0 G (c.fact 92 (f := .glo "_law_gcd") (by rfl))) (fun _ _ => .nil) (fun _ => passAt0) (da_cons (de_var 0) (da_cons (de_var 1) da_nil)) (sCons_len (sCons_len sNil_len)))) (ds_one (ds_ret (de_tup (da_cons (de_div (de_var 0) (de_var 2)) (da_cons (de_div (de_var 1) (de_var 2)) da_nil))))))
theorem ok_l_share (c : He.SaysD fa fn K) (X0 : K.In h) (G : h.Ns mainGlobals mg) : Def P w K mg base CX0 2 (He.ga K "_law_share") ["_law_amount", "_law_length"] [] Sh.l_share := by
  obtain ⟨fd, F⟩ := c.def_ 57 (d := d_l_share) rfl
  exact ⟨⟨fd, [], okb_l_share c X0 G F, F.bindsN fun _ _ _ _ _ _ us hl => match us, hl with | [_, _], _ => rfl, .nil⟩, F.kp⟩
theorem sc_silent_among : FnScope ["members", "tick"] ["members", "tick"] (defScope (top 53)) := ⟨rfl, rfl, rfl, by decide +kernel, rfl, by decide +kernel, by decide +kernel⟩
theorem okb_silent_among (c : He.SaysD fa fn K) (X0 : K.In h) (G : h.Ns mainGlobals mg) {fd : FuncData} (F : FunD K d_silent_among.name d_silent_among.qual d_silent_among.params d_silent_among.body d_silent_among.scope (d_silent_among.dvs K) (d_silent_among.kws K) (He.ga K "silent_among") fd) : FnOk P w K mg base CX0 7 (He.ga K "silent_among") fd ["members", "tick"] (spN K 2 Sh.silent_among) := by
  have H_left_among := ok_left_among (P := P) (w := w) (base := base) c X0 G
  have sc := sc_silent_among
  refine fn_ok F sc (by decide) (fun cdv A outer s H E hr => ?_)
  exact (ds_one (ds_ret (de_callF [] ((H_left_among.up (by decide)).pure) hr (He.glo_ok X0 G (c.fact 51 (f := .glo "left_among") (by rfl))) (fun _ _ => .nil) (fun _ => passAt0) (da_cons (de_var 0) (da_cons (de_add (de_globI (by rfl) (He.int_ok X0 G (c.fact 13 (f := .int "MAX_RANK" (10)) (by rfl)))) de_int) (da_cons (de_var 1) da_nil))) (sCons_len (sCons_len (sCons_len sNil_len))))))
theorem ok_silent_among (c : He.SaysD fa fn K) (X0 : K.In h) (G : h.Ns mainGlobals mg) : Def P w K mg base CX0 7 (He.ga K "silent_among") ["members", "tick"] [] Sh.silent_among := by
  obtain ⟨fd, F⟩ := c.def_ 39 (d := d_silent_among) rfl
  exact ⟨⟨fd, [], okb_silent_among c X0 G F, F.bindsN fun _ _ _ _ _ _ us hl => match us, hl with | [_, _], _ => rfl, .nil⟩, F.kp⟩
theorem sc_silent_before : FnScope ["hall", "tick", "members"] ["hall", "tick"] (defScope (top 54)) := ⟨rfl, rfl, rfl, by decide +kernel, rfl, by decide +kernel, by decide +kernel⟩
theorem okb_silent_before (c : He.SaysD fa fn K) (X0 : K.In h) (G : h.Ns mainGlobals mg) {fd : FuncData} (F : FunD K d_silent_before.name d_silent_before.qual d_silent_before.params d_silent_before.body d_silent_before.scope (d_silent_before.dvs K) (d_silent_before.kws K) (He.ga K "silent_before") fd) : FnOk P w K mg base (L2.CX P w) 8 (He.ga K "silent_before") fd ["hall", "tick"] (spN K 2 Sh.silent_before) := by
  have H_checked_hall := ok_checked_hall (P := P) (w := w) (base := base) c X0 G
  have H_check_tick := ok_check_tick (P := P) (w := w) (base := base) c X0 G
  have H_silent_among := ok_silent_among (P := P) (w := w) (base := base) c X0 G
  have sc := sc_silent_before
  refine fn_ok F sc (by decide) (fun cdv A outer s H E hr => ?_)
  exact (ds_cons (ds_set 2 sc.nd (de_callF [] ((H_checked_hall.up (by decide)).pure) hr (He.glo_ok X0 G (c.fact 44 (f := .glo "checked_hall") (by rfl))) (fun _ _ => .nil) (fun s_ => passAt (takes_of rfl rfl rfl rfl) s_) (da_cons (de_var 0) da_nil) (sCons_len sNil_len))) (ds_cons (ds_expr (de_callF [] ((H_check_tick.up (by decide)).pure) hr (He.glo_ok X0 G (c.fact 47 (f := .glo "check_tick") (by rfl))) (fun _ _ => .nil) (fun s_ => passAt (takes_of rfl rfl rfl rfl) s_) (da_cons (de_var 1) da_nil) (sCons_len sNil_len))) (ds_one (ds_ret (de_callF [] ((H_silent_among.up (by decide)).pure) hr (He.glo_ok X0 G (c.fact 71 (f := .glo "silent_among") (by rfl))) (fun _ _ => .nil) (fun _ => passAt0) (da_cons (de_var 2) (da_cons (de_var 1) da_nil)) (sCons_len (sCons_len sNil_len)))))))
theorem ok_silent_before (c : He.SaysD fa fn K) (X0 : K.In h) (G : h.Ns mainGlobals mg) : Def P w K mg base (L2.CX P w) 8 (He.ga K "silent_before") ["hall", "tick"] [] Sh.silent_before := by
  obtain ⟨fd, F⟩ := c.def_ 40 (d := d_silent_before) rfl
  exact ⟨⟨fd, [], okb_silent_before c X0 G F, F.bindsN fun _ _ _ _ _ _ us hl => match us, hl with | [_, _], _ => rfl, .nil⟩, F.kp⟩
theorem sc_l_shares_hold : FnScope ["_law_hall_here", "_law_start", "_law_length", "_law_shares", "_law_row", "_law_talker", "_law_end", "_law_amounts", "_law_amount"] ["_law_hall_here", "_law_start", "_law_length"] (defScope (top 74)) := ⟨rfl, rfl, rfl, by decide +kernel, rfl, by decide +kernel, by decide +kernel⟩
theorem okb_l_shares_hold (c : He.SaysD fa fn K) (X0 : K.In h) (G : h.Ns mainGlobals mg) {fd : FuncData} (F : FunD K d_l_shares_hold.name d_l_shares_hold.qual d_l_shares_hold.params d_l_shares_hold.body d_l_shares_hold.scope (d_l_shares_hold.dvs K) (d_l_shares_hold.kws K) (He.ga K "_law_shares_hold") fd) : FnOk P w K mg base CX0 10 (He.ga K "_law_shares_hold") fd ["_law_hall_here", "_law_start", "_law_length"] (spN K 3 (Sh.l_shares_hold P w)) := by
  have H_shares_of_1 := ok_shares_of_1 (P := P) (w := w) (base := base) c X0 G
  have H_ticks_spoken := ok_ticks_spoken (P := P) (w := w) (base := base) c X0 G
  have H_silent_before := ok_silent_before (P := P) (w := w) (base := base) c X0 G
  have H_l_share := ok_l_share (P := P) (w := w) (base := base) c X0 G
  have sc := sc_l_shares_hold
  refine fn_ok F sc (by decide) (fun cdv A outer s H E hr => ?_)
  exact (ds_cons (ds_set 3 sc.nd (de_callF [] (((H_shares_of_1.up (by decide)).pure).shut) hr (He.glo_ok X0 G (c.fact 87 (f := .glo "shares_of") (by rfl))) (fun _ _ => .nil) (fun _ => passAt0) (da_cons (de_var 0) da_nil) (sCons_len sNil_len))) (ds_cons (ds_if (dt_ne (hu_ hr) (de_lc false [("_law_row", 4)] rfl sc.nd (di_any (de_var 3)) (blkOk_by (by kernel_rfl)) (fun _ _ _ _ _ => (dg_name 4 sc.nd)) (fun _ _ _ _ _ => dts_nil) (fun _ _ _ _ _ => (de_ix (de_var 4) de_int))) (de_add (de_lc false [("_law_talker", 5)] rfl sc.nd (di_any (de_var 0)) (blkOk_by (by kernel_rfl)) (fun _ _ _ _ _ => (dg_name 5 sc.nd)) (fun _ _ _ _ _ => dts_nil) (fun _ _ _ _ _ => (de_ix (de_var 5) de_int))) (de_lst (da_cons de_non da_nil)))) (ds_one (ds_ret de_bl)) ds_nil) (ds_cons (ds_set 6 sc.nd (de_add (de_var 1) (de_var 2))) (ds_cons (ds_setLc (X := _) 7 false [("_law_talker", 5)] rfl sc.nd (di_any (de_var 0)) (blkOk_by (by kernel_rfl)) (fun _ _ _ _ _ => (dg_name 5 sc.nd)) (fun _ _ _ _ _ => dts_nil) (fun _ _ _ _ _ => (de_sub (de_callF [] (((H_ticks_spoken.up (by decide)).pure).shut) hr (He.glo_ok X0 G (c.fact 69 (f := .glo "ticks_spoken") (by rfl))) (fun _ _ => .nil) (fun _ => passAt0) (da_cons (de_var 0) (da_cons (de_ix (de_var 5) de_int) (da_cons (de_var 6) da_nil))) (sCons_len (sCons_len (sCons_len sNil_len)))) (de_callF [] (((H_ticks_spoken.up (by decide)).pure).shut) hr (He.glo_ok X0 G (c.fact 69 (f := .glo "ticks_spoken") (by rfl))) (fun _ _ => .nil) (fun _ => passAt0) (da_cons (de_var 0) (da_cons (de_ix (de_var 5) de_int) (da_cons (de_var 1) da_nil))) (sCons_len (sCons_len (sCons_len sNil_len)))))) (sw_true rfl rfl rfl (by decide +kernel))) (ds_cons (ds_set 7 sc.nd (de_add (de_var 7) (de_lst (da_cons (de_sub (de_callF [] (((H_silent_before.up (by decide)).pure).shut) hr (He.glo_ok X0 G (c.fact 72 (f := .glo "silent_before") (by rfl))) (fun _ _ => .nil) (fun _ => passAt0) (da_cons (de_var 0) (da_cons (de_var 6) da_nil)) (sCons_len (sCons_len sNil_len))) (de_callF [] (((H_silent_before.up (by decide)).pure).shut) hr (He.glo_ok X0 G (c.fact 72 (f := .glo "silent_before") (by rfl))) (fun _ _ => .nil) (fun _ => passAt0) (da_cons (de_var 0) (da_cons (de_var 1) da_nil)) (sCons_len (sCons_len sNil_len)))) da_nil)))) (ds_cons (ds_if (dt_ne (hu_ hr) (de_sum rfl (by rfl) (He.free_ok X0 G (c.fact 114 (f := .free "sum") (by rfl))) (de_var 7)) (de_var 2)) (ds_one (ds_ret de_bl)) ds_nil) (ds_one (ds_ret (de_eq (hu_ hr) (de_lc false [("_law_row", 4)] rfl sc.nd (di_any (de_var 3)) (blkOk_by (by kernel_rfl)) (fun _ _ _ _ _ => (dg_name 4 sc.nd)) (fun _ _ _ _ _ => dts_nil) (fun _ _ _ _ _ => (de_cut false (de_var 4) (do_some de_int) do_none))) (de_lc false [("_law_amount", 8)] rfl sc.nd (di_any (de_var 7)) (blkOk_by (by kernel_rfl)) (fun _ _ _ _ _ => (dg_name 8 sc.nd)) (fun _ _ _ _ _ => dts_nil) (fun _ _ _ _ _ => (de_callF [] ((H_l_share.up (by decide)).pure) hr (He.glo_ok X0 G (c.fact 94 (f := .glo "_law_share") (by rfl))) (fun _ _ => .nil) (fun _ => passAt0) (da_cons (de_var 8) (da_cons (de_var 2) da_nil)) (sCons_len (sCons_len sNil_len))))))))))))))
theorem ok_l_shares_hold (c : He.SaysD fa fn K) (X0 : K.In h) (G : h.Ns mainGlobals mg) : Def P w K mg base CX0 10 (He.ga K "_law_shares_hold") ["_law_hall_here", "_law_start", "_law_length"] [] (Sh.l_shares_hold P w) := by
  obtain ⟨fd, F⟩ := c.def_ 58 (d := d_l_shares_hold) rfl
  exact ⟨⟨fd, [], okb_l_shares_hold c X0 G F, F.bindsN fun _ _ _ _ _ _ us hl => match us, hl with | [_, _, _], _ => rfl, .nil⟩, F.kp⟩
theorem sc_talks_before : FnScope ["hall", "name", "tick"] ["hall", "name", "tick"] (defScope (top 52)) := ⟨rfl, rfl, rfl, by decide +kernel, rfl, by decide +kernel, by decide +kernel⟩
theorem okb_talks_before (c : He.SaysD fa fn K) (X0 : K.In h) (G : h.Ns mainGlobals mg) {fd : FuncData} (F : FunD K d_talks_before.name d_talks_before.qual d_talks_before.params d_talks_before.body d_talks_before.scope (d_talks_before.dvs K) (d_talks_before.kws K) (He.ga K "talks_before") fd) : FnOk P w K mg base (L2.CX P w) 9 (He.ga K "talks_before") fd ["hall", "name", "tick"] (spN K 3 Sh.talks_before) := by
  have H_progress_before := ok_progress_before (P := P) (w := w) (base := base) c X0 G
  have sc := sc_talks_before
  refine fn_ok F sc (by decide) (fun cdv A outer s H E hr => ?_)
  exact (ds_one (ds_ret (de_cut false (de_callF [] ((H_progress_before.up (by decide)).pure) hr (He.glo_ok X0 G (c.fact 68 (f := .glo "progress_before") (by rfl))) (fun _ _ => .nil) (fun s_ => passAt (takes_of rfl rfl rfl rfl) s_) (da_cons (de_var 0) (da_cons (de_var 1) (da_cons (de_var 2) da_nil))) (sCons_len (sCons_len (sCons_len sNil_len)))) do_none (do_some de_int))))
theorem ok_talks_before (c : He.SaysD fa fn K) (X0 : K.In h) (G : h.Ns mainGlobals mg) : Def P w K mg base (L2.CX P w) 9 (He.ga K "talks_before") ["hall", "name", "tick"] [] Sh.talks_before := by
  obtain ⟨fd, F⟩ := c.def_ 38 (d := d_talks_before) rfl
  exact ⟨⟨fd, [], okb_talks_before c X0 G F, F.bindsN fun _ _ _ _ _ _ us hl => match us, hl with | [_, _, _], _ => rfl, .nil⟩, F.kp⟩
theorem sc_check_number : FnScope ["value"] ["value"] (defScope (top 25)) := ⟨rfl, rfl, rfl, by decide +kernel, rfl, by decide +kernel, by decide +kernel⟩
theorem okb_check_number (c : He.SaysD fa fn K) (X0 : K.In h) (G : h.Ns mainGlobals mg) {fd : FuncData} (F : FunD K d_check_number.name d_check_number.qual d_check_number.params d_check_number.body d_check_number.scope (d_check_number.dvs K) (d_check_number.kws K) (He.ga K "check_number") fd) : FnOk P w K mg base (L2.CX P w) 2 (He.ga K "check_number") fd ["value"] (spN K 1 Sh.check_number) := by
  have H_is_integer := ok_is_integer (P := P) (w := w) (base := base) c X0 G
  have H_is_integer_all := ok_is_integer_all (P := P) (w := w) (base := base) c X0 G
  have sc := sc_check_number
  refine fn_ok F sc (by decide) (fun cdv A outer s H E hr => ?_)
  exact (ds_one (ds_if (dt_not (dt_val (de_callF [.non] ((H_is_integer.up (by decide)).pure) hr (He.glo_ok X0 G (c.fact 16 (f := .glo "is_integer") (by rfl))) (fun _ _ => .cons .non (.nil)) (fun _ => passAt0) (da_cons (de_var 0) (da_cons de_int da_nil)) (sCons_len (sCons_len sNil_len))))) (ds_one (ds_raise (C := "InvalidNumber") (takes_of rfl rfl rfl rfl) rfl (He.exc_ok (c.fact 7 (f := .exc "InvalidNumber") (by rfl))).1 (He.exc_ok (c.fact 7 (f := .exc "InvalidNumber") (by rfl))).2.1 (He.exc_ok (c.fact 7 (f := .exc "InvalidNumber") (by rfl))).2.2.1 (He.exc_ok (c.fact 7 (f := .exc "InvalidNumber") (by rfl))).2.2.2 (He.glo_ok X0 G (c.fact 6 (f := .glo "InvalidNumber") (by rfl))) (by rfl))) ds_nil))
theorem ok_check_number (c : He.SaysD fa fn K) (X0 : K.In h) (G : h.Ns mainGlobals mg) : Def P w K mg base (L2.CX P w) 2 (He.ga K "check_number") ["value"] [] Sh.check_number := by
  obtain ⟨fd, F⟩ := c.def_ 17 (d := d_check_number) rfl
  exact ⟨⟨fd, [], okb_check_number c X0 G F, F.bindsN fun _ _ _ _ _ _ us hl => match us, hl with | [_], _ => rfl, .nil⟩, F.kp⟩
theorem sc_located : FnScope ["hall", "name", "index", "members", "member"] ["hall", "name", "index"] (defScope (top 57)) := ⟨rfl, rfl, rfl, by decide +kernel, rfl, by decide +kernel, by decide +kernel⟩
theorem okb_located (c : He.SaysD fa fn K) (X0 : K.In h) (G : h.Ns mainGlobals mg) {fd : FuncData} (F : FunD K d_located.name d_located.qual d_located.params d_located.body d_located.scope (d_located.dvs K) (d_located.kws K) (He.ga K "located") fd) : FnOk P w K mg base (L2.CX P w) 7 (He.ga K "located") fd ["hall", "name", "index"] (spN K 3 Sh.located) := by
  have H_checked_hall := ok_checked_hall (P := P) (w := w) (base := base) c X0 G
  have H_member_of := ok_member_of (P := P) (w := w) (base := base) c X0 G
  have H_check_number := ok_check_number (P := P) (w := w) (base := base) c X0 G
  have H_span_by := ok_span_by (P := P) (w := w) (base := base) c X0 G
  have sc := sc_located
  refine fn_ok F sc (by decide) (fun cdv A outer s H E hr => ?_)
  exact (ds_cons (ds_set 3 sc.nd (de_callF [] ((H_checked_hall.up (by decide)).pure) hr (He.glo_ok X0 G (c.fact 44 (f := .glo "checked_hall") (by rfl))) (fun _ _ => .nil) (fun s_ => passAt (takes_of rfl rfl rfl rfl) s_) (da_cons (de_var 0) da_nil) (sCons_len sNil_len))) (ds_cons (ds_set 4 sc.nd (de_callF [] ((H_member_of.up (by decide)).pure) hr (He.glo_ok X0 G (c.fact 45 (f := .glo "member_of") (by rfl))) (fun _ _ => .nil) (fun s_ => passAt (takes_of rfl rfl rfl rfl) s_) (da_cons (de_var 3) (da_cons (de_var 1) da_nil)) (sCons_len (sCons_len sNil_len)))) (ds_cons (ds_expr (de_callF [] ((H_check_number.up (by decide)).pure) hr (He.glo_ok X0 G (c.fact 46 (f := .glo "check_number") (by rfl))) (fun _ _ => .nil) (fun s_ => passAt (takes_of rfl rfl rfl rfl) s_) (da_cons (de_var 2) da_nil) (sCons_len sNil_len))) (ds_one (ds_ret (de_tup (da_cons (de_var 3) (da_cons (de_var 4) (da_cons (de_callF [] ((H_span_by.up (by decide)).pure) hr (He.glo_ok X0 G (c.fact 73 (f := .glo "span_by") (by rfl))) (fun _ _ => .nil) (fun _ => passAt0) (da_cons (de_var 3) (da_cons (de_var 4) (da_cons (de_var 2) da_nil))) (sCons_len (sCons_len (sCons_len sNil_len)))) da_nil)))))))))
theorem ok_located (c : He.SaysD fa fn K) (X0 : K.In h) (G : h.Ns mainGlobals mg) : Def P w K mg base (L2.CX P w) 7 (He.ga K "located") ["hall", "name", "index"] [] Sh.located := by
  obtain ⟨fd, F⟩ := c.def_ 42 (d := d_located) rfl
  exact ⟨⟨fd, [], okb_located c X0 G F, F.bindsN fun _ _ _ _ _ _ us hl => match us, hl with | [_, _, _], _ => rfl, .nil⟩, F.kp⟩
theorem sc_span_of : FnScope ["hall", "name", "index"] ["hall", "name", "index"] (defScope (top 58)) := ⟨rfl, rfl, rfl, by decide +kernel, rfl, by decide +kernel, by decide +kernel⟩
theorem okb_span_of (c : He.SaysD fa fn K) (X0 : K.In h) (G : h.Ns mainGlobals mg) {fd : FuncData} (F : FunD K d_span_of.name d_span_of.qual d_span_of.params d_span_of.body d_span_of.scope (d_span_of.dvs K) (d_span_of.kws K) (He.ga K "span_of") fd) : FnOk P w K mg base (L2.CX P w) 8 (He.ga K "span_of") fd ["hall", "name", "index"] (spN K 3 Sh.span_of) := by
  have H_located := ok_located (P := P) (w := w) (base := base) c X0 G
  have sc := sc_span_of
  refine fn_ok F sc (by decide) (fun cdv A outer s H E hr => ?_)
  exact (ds_one (ds_ret (de_ix (de_callF [] ((H_located.up (by decide)).pure) hr (He.glo_ok X0 G (c.fact 74 (f := .glo "located") (by rfl))) (fun _ _ => .nil) (fun s_ => passAt (takes_of rfl rfl rfl rfl) s_) (da_cons (de_var 0) (da_cons (de_var 1) (da_cons (de_var 2) da_nil))) (sCons_len (sCons_len (sCons_len sNil_len)))) de_int)))
theorem ok_span_of (c : He.SaysD fa fn K) (X0 : K.In h) (G : h.Ns mainGlobals mg) : Def P w K mg base (L2.CX P w) 8 (He.ga K "span_of") ["hall", "name", "index"] [] Sh.span_of := by
  obtain ⟨fd, F⟩ := c.def_ 43 (d := d_span_of) rfl
  exact ⟨⟨fd, [], okb_span_of c X0 G F, F.bindsN fun _ _ _ _ _ _ us hl => match us, hl with | [_, _, _], _ => rfl, .nil⟩, F.kp⟩
theorem sc_l_talks_hold : FnScope ["_law_stream_here", "_law_hall_here", "_law_start", "_law_length", "_law_times", "_law_name", "_law_tick", "_law_begun", "_law_ended", "_law_one", "_law_other", "_law_grown", "_law_first", "_law_last"] ["_law_stream_here", "_law_hall_here", "_law_start", "_law_length", "_law_times"] (defScope (top 75)) := ⟨rfl, rfl, rfl, by decide +kernel, rfl, by decide +kernel, by decide +kernel⟩
theorem okb_l_talks_hold (c : He.SaysD fa fn K) (X0 : K.In h) (G : h.Ns mainGlobals mg) {fd : FuncData} (F : FunD K d_l_talks_hold.name d_l_talks_hold.qual d_l_talks_hold.params d_l_talks_hold.body d_l_talks_hold.scope (d_l_talks_hold.dvs K) (d_l_talks_hold.kws K) (He.ga K "_law_talks_hold") fd) : FnOk P w K mg base CX0 10 (He.ga K "_law_talks_hold") fd ["_law_stream_here", "_law_hall_here", "_law_start", "_law_length", "_law_times"] (spN K 5 Sh.l_talks_hold) := by
  have H_l_draw_4 := ok_l_draw_4 (P := P) (w := w) (base := base) c X0 G
  have H_talks_before := ok_talks_before (P := P) (w := w) (base := base) c X0 G
  have H_span_of := ok_span_of (P := P) (w := w) (base := base) c X0 G
  have sc := sc_l_talks_hold
  refine fn_ok F sc (by decide) (fun cdv A outer s H E hr => ?_)
  exact (ds_cons (ds_set 5 sc.nd (de_ix (de_ix (de_var 1) (de_callF [] (H_l_draw_4.up (by decide)) hr (He.glo_ok X0 G (c.fact 89 (f := .glo "_law_draw") (by rfl))) (fun _ _ => .nil) (fun _ => passAt0) (da_cons (de_var 0) (da_cons (de_len (by rfl) (He.free_ok X0 G (c.fact 107 (f := .free "len") (by rfl))) (de_var 1)) da_nil)) (sCons_len (sCons_len sNil_len)))) de_int)) (ds_cons (ds_set 6 sc.nd (de_add (de_var 2) (de_callF [] (H_l_draw_4.up (by decide)) hr (He.glo_ok X0 G (c.fact 89 (f := .glo "_law_draw") (by rfl))) (fun _ _ => .nil) (fun _ => passAt0) (da_cons (de_var 0) (da_cons (de_mul de_int (de_var 3)) da_nil)) (sCons_len (sCons_len sNil_len))))) (ds_cons (ds_asg (vs := [7, 8]) (de_callF [] (((H_talks_before.up (by decide)).pure).shut) hr (He.glo_ok X0 G (c.fact 70 (f := .glo "talks_before") (by rfl))) (fun _ _ => .nil) (fun _ => passAt0) (da_cons (de_var 1) (da_cons (de_var 5) (da_cons (de_var 6) da_nil))) (sCons_len (sCons_len (sCons_len sNil_len)))) (dg_tup (n := 2) rfl (dg_cons (dg_name 7 sc.nd) (dg_cons (dg_name 8 sc.nd) dg_nil)) rfl (pg_tup rfl (dg_cons (dg_name 7 sc.nd) (dg_cons (dg_name 8 sc.nd) dg_nil))) (pg_lst rfl (dg_cons (dg_name 7 sc.nd) (dg_cons (dg_name 8 sc.nd) dg_nil))))) (ds_cons (ds_asg (vs := [9, 10]) (de_callF [] (((H_talks_before.up (by decide)).pure).shut) hr (He.glo_ok X0 G (c.fact 70 (f := .glo "talks_before") (by rfl))) (fun _ _ => .nil) (fun _ => passAt0) (da_cons (de_var 1) (da_cons (de_var 5) (da_cons (de_add (de_var 6) (de_var 3)) da_nil))) (sCons_len (sCons_len (sCons_len sNil_len)))) (dg_tup (n := 2) rfl (dg_cons (dg_name 9 sc.nd) (dg_cons (dg_name 10 sc.nd) dg_nil)) rfl (pg_tup rfl (dg_cons (dg_name 9 sc.nd) (dg_cons (dg_name 10 sc.nd) dg_nil))) (pg_lst rfl (dg_cons (dg_name 9 sc.nd) (dg_cons (dg_name 10 sc.nd) dg_nil))))) (ds_cons (ds_set 11 sc.nd (de_mul (de_var 4) (de_sub (de_var 9) (de_var 7)))) (ds_cons (ds_if (dt_ne (hu_ hr) (de_callF [] (((H_talks_before.up (by decide)).pure).shut) hr (He.glo_ok X0 G (c.fact 70 (f := .glo "talks_before") (by rfl))) (fun _ _ => .nil) (fun _ => passAt0) (da_cons (de_var 1) (da_cons (de_var 5) (da_cons (de_add (de_var 6) (de_mul (de_var 4) (de_var 3))) da_nil))) (sCons_len (sCons_len (sCons_len sNil_len)))) (de_tup (da_cons (de_add (de_var 7) (de_var 11)) (da_cons (de_add (de_var 8) (de_mul (de_var 4) (de_sub (de_var 10) (de_var 8)))) da_nil)))) (ds_one (ds_ret de_bl)) ds_nil) (ds_cons (ds_asg (vs := [12, 13]) (de_callF [] (((H_span_of.up (by decide)).pure).shut) hr (He.glo_ok X0 G (c.fact 75 (f := .glo "span_of") (by rfl))) (fun _ _ => .nil) (fun _ => passAt0) (da_cons (de_var 1) (da_cons (de_var 5) (da_cons (de_var 7) da_nil))) (sCons_len (sCons_len (sCons_len sNil_len)))) (dg_tup (n := 2) rfl (dg_cons (dg_name 12 sc.nd) (dg_cons (dg_name 13 sc.nd) dg_nil)) rfl (pg_tup rfl (dg_cons (dg_name 12 sc.nd) (dg_cons (dg_name 13 sc.nd) dg_nil))) (pg_lst rfl (dg_cons (dg_name 12 sc.nd) (dg_cons (dg_name 13 sc.nd) dg_nil))))) (ds_cons (ds_if (dt_lt (de_var 12) (de_var 2)) (ds_one (ds_ret de_bl)) ds_nil) (ds_one (ds_ret (de_eq (hu_ hr) (de_callF [] (((H_span_of.up (by decide)).pure).shut) hr (He.glo_ok X0 G (c.fact 75 (f := .glo "span_of") (by rfl))) (fun _ _ => .nil) (fun _ => passAt0) (da_cons (de_var 1) (da_cons (de_var 5) (da_cons (de_add (de_var 7) (de_var 11)) da_nil))) (sCons_len (sCons_len (sCons_len sNil_len)))) (de_tup (da_cons (de_add (de_var 12) (de_mul (de_var 4) (de_var 3))) (da_cons (de_add (de_var 13) (de_mul (de_var 4) (de_var 3))) da_nil))))))))))))))
theorem ok_l_talks_hold (c : He.SaysD fa fn K) (X0 : K.In h) (G : h.Ns mainGlobals mg) : Def P w K mg base CX0 10 (He.ga K "_law_talks_hold") ["_law_stream_here", "_law_hall_here", "_law_start", "_law_length", "_law_times"] [] Sh.l_talks_hold := by
  obtain ⟨fd, F⟩ := c.def_ 59 (d := d_l_talks_hold) rfl
  exact ⟨⟨fd, [], okb_l_talks_hold c X0 G F, F.bindsN fun _ _ _ _ _ _ us hl => match us, hl with | [_, _, _, _, _], _ => rfl, .nil⟩, F.kp⟩
theorem sc_descent_by : FnScope ["members", "tick", "found", "left", "rank", "quiet"] ["members", "tick"] (defScope (top 37)) := ⟨rfl, rfl, rfl, by decide +kernel, rfl, by decide +kernel, by decide +kernel⟩
theorem okb_descent_by (c : He.SaysD fa fn K) (X0 : K.In h) (G : h.Ns mainGlobals mg) {fd : FuncData} (F : FunD K d_descent_by.name d_descent_by.qual d_descent_by.params d_descent_by.body d_descent_by.scope (d_descent_by.dvs K) (d_descent_by.kws K) (He.ga K "descent_by") fd) : FnOk P w K mg base CX0 6 (He.ga K "descent_by") fd ["members", "tick"] (spN K 2 Sh.descent_by) := by
  have H_quiet_among := ok_quiet_among (P := P) (w := w) (base := base) c X0 G
  have H_left_index := ok_left_index (P := P) (w := w) (base := base) c X0 G
  have sc := sc_descent_by
  refine fn_ok F sc (by decide) (fun cdv A outer s H E hr => ?_)
  exact (ds_cons (ds_set 2 sc.nd (de_lstO da_nil)) (ds_cons (ds_set 3 sc.nd (de_var 1)) (ds_cons (ds_for (vs := [4]) (passes_of rfl) rfl (di_rng2 (by rfl) (He.free_ok X0 G (c.fact 111 (f := .free "range") (by rfl))) de_int (de_add (de_globI (by rfl) (He.int_ok X0 G (c.fact 13 (f := .int "MAX_RANK" (10)) (by rfl)))) de_int)) (dg_name 4 sc.nd) (ds_cons (ds_set 5 sc.nd (de_callF [] ((H_quiet_among.up (by decide)).pure) hr (He.glo_ok X0 G (c.fact 50 (f := .glo "quiet_among") (by rfl))) (fun _ _ => .nil) (fun _ => passAt0) (da_cons (de_var 0) (da_cons (de_var 4) (da_cons (de_var 3) da_nil))) (sCons_len (sCons_len (sCons_len sNil_len))))) (ds_cons (ds_expr (de_append (de_var 2) (de_tup (da_cons (de_var 4) (da_cons (de_var 3) (da_cons (de_var 5) da_nil)))))) (ds_cons (ds_if (dt_ne (hu_ hr) (de_var 3) (de_callF [] ((H_left_index.up (by decide)).pure) hr (He.glo_ok X0 G (c.fact 49 (f := .glo "left_index") (by rfl))) (fun _ _ => .nil) (fun _ => passAt0) (da_cons (de_var 0) (da_cons (de_var 4) (da_cons (de_var 5) da_nil))) (sCons_len (sCons_len (sCons_len sNil_len))))) (ds_one ds_break) ds_nil) (ds_one (ds_set 3 sc.nd (de_var 5))))))) (ds_one (ds_ret (de_frz (de_var 2)))))))
theorem ok_descent_by (c : He.SaysD fa fn K) (X0 : K.In h) (G : h.Ns mainGlobals mg) : Def P w K mg base CX0 6 (He.ga K "descent_by") ["members", "tick"] [] Sh.descent_by := by
  obtain ⟨fd, F⟩ := c.def_ 24 (d := d_descent_by) rfl
  exact ⟨⟨fd, [], okb_descent_by c X0 G F, F.bindsN fun _ _ _ _ _ _ us hl => match us, hl with | [_, _], _ => rfl, .nil⟩, F.kp⟩
theorem sc_talk_by : FnScope ["members", "tick", "rank", "left", "quiet", "offset", "member", "index", "length"] ["members", "tick"] (defScope (top 40)) := ⟨rfl, rfl, rfl, by decide +kernel, rfl, by decide +kernel, by decide +kernel⟩
theorem okb_talk_by (c : He.SaysD fa fn K) (X0 : K.In h) (G : h.Ns mainGlobals mg) {fd : FuncData} (F : FunD K d_talk_by.name d_talk_by.qual d_talk_by.params d_talk_by.body d_talk_by.scope (d_talk_by.dvs K) (d_talk_by.kws K) (He.ga K "talk_by") fd) : FnOk P w K mg base CX0 7 (He.ga K "talk_by") fd ["members", "tick"] (spN K 2 Sh.talk_by) := by
  have H_descent_by := ok_descent_by (P := P) (w := w) (base := base) c X0 G
  have H_left_index := ok_left_index (P := P) (w := w) (base := base) c X0 G
  have H_offset_in_run := ok_offset_in_run (P := P) (w := w) (base := base) c X0 G
  have H_run_of := ok_run_of (P := P) (w := w) (base := base) c X0 G
  have sc := sc_talk_by
  refine fn_ok F sc (by decide) (fun cdv A outer s H E hr => ?_)
  exact (ds_cons (ds_asg (vs := [2, 3, 4]) (de_ix (de_callF [] ((H_descent_by.up (by decide)).pure) hr (He.glo_ok X0 G (c.fact 56 (f := .glo "descent_by") (by rfl))) (fun _ _ => .nil) (fun _ => passAt0) (da_cons (de_var 0) (da_cons (de_var 1) da_nil)) (sCons_len (sCons_len sNil_len))) (de_neg de_int)) (dg_tup (n := 3) rfl (dg_cons (dg_name 2 sc.nd) (dg_cons (dg_name 3 sc.nd) (dg_cons (dg_name 4 sc.nd) dg_nil))) rfl (pg_tup rfl (dg_cons (dg_name 2 sc.nd) (dg_cons (dg_name 3 sc.nd) (dg_cons (dg_name 4 sc.nd) dg_nil)))) (pg_lst rfl (dg_cons (dg_name 2 sc.nd) (dg_cons (dg_name 3 sc.nd) (dg_cons (dg_name 4 sc.nd) dg_nil)))))) (ds_cons (ds_if (dt_eq (hu_ hr) (de_var 3) (de_callF [] ((H_left_index.up (by decide)).pure) hr (He.glo_ok X0 G (c.fact 49 (f := .glo "left_index") (by rfl))) (fun _ _ => .nil) (fun _ => passAt0) (da_cons (de_var 0) (da_cons (de_var 2) (da_cons (de_var 4) da_nil))) (sCons_len (sCons_len (sCons_len sNil_len))))) (ds_one (ds_ret de_non)) ds_nil) (ds_cons (ds_set 5 sc.nd (de_callF [] ((H_offset_in_run.up (by decide)).pure) hr (He.glo_ok X0 G (c.fact 57 (f := .glo "offset_in_run") (by rfl))) (fun _ _ => .nil) (fun _ => passAt0) (da_cons (de_var 0) (da_cons (de_var 2) (da_cons (de_var 3) (da_cons (de_var 4) da_nil)))) (sCons_len (sCons_len (sCons_len (sCons_len sNil_len)))))) (ds_cons (ds_for (vs := [6, 7, 8]) (passes_of rfl) rfl (di_any (de_callF [] ((H_run_of.up (by decide)).pure) hr (He.glo_ok X0 G (c.fact 58 (f := .glo "run_of") (by rfl))) (fun _ _ => .nil) (fun _ => passAt0) (da_cons (de_var 0) (da_cons (de_var 2) (da_cons (de_var 4) da_nil))) (sCons_len (sCons_len (sCons_len sNil_len))))) (dg_tup (n := 3) rfl (dg_cons (dg_name 6 sc.nd) (dg_cons (dg_name 7 sc.nd) (dg_cons (dg_name 8 sc.nd) dg_nil))) rfl (pg_tup rfl (dg_cons (dg_name 6 sc.nd) (dg_cons (dg_name 7 sc.nd) (dg_cons (dg_name 8 sc.nd) dg_nil)))) (pg_lst rfl (dg_cons (dg_name 6 sc.nd) (dg_cons (dg_name 7 sc.nd) (dg_cons (dg_name 8 sc.nd) dg_nil))))) (ds_cons (ds_if (dt_lt (de_var 5) (de_var 8)) (ds_one (ds_ret (de_tup (da_cons (de_fld (f := "name") (de_var 6)) (da_cons (de_var 7) (da_cons (de_var 5) da_nil)))))) ds_nil) (ds_one (ds_augI 5 sc.nd ip_sub (de_var 8))))) (ds_one (ds_ret de_non))))))
theorem ok_talk_by (c : He.SaysD fa fn K) (X0 : K.In h) (G : h.Ns mainGlobals mg) : Def P w K mg base CX0 7 (He.ga K "talk_by") ["members", "tick"] [] Sh.talk_by := by
  obtain ⟨fd, F⟩ := c.def_ 27 (d := d_talk_by) rfl
  exact ⟨⟨fd, [], okb_talk_by c X0 G F, F.bindsN fun _ _ _ _ _ _ us hl => match us, hl with | [_, _], _ => rfl, .nil⟩, F.kp⟩
theorem sc_member_state : FnScope ["members", "member", "tick", "speaker", "left", "quiet", "offset", "other", "index", "length", "status", "many"] ["members", "member", "tick", "speaker"] (defScope (top 43)) := ⟨rfl, rfl, rfl, by decide +kernel, rfl, by decide +kernel, by decide +kernel⟩
theorem okb_member_state (c : He.SaysD fa fn K) (X0 : K.In h) (G : h.Ns mainGlobals mg) {fd : FuncData} (F : FunD K d_member_state.name d_member_state.qual d_member_state.params d_member_state.body d_member_state.scope (d_member_state.dvs K) (d_member_state.kws K) (He.ga K "member_state") fd) : FnOk P w K mg base CX0 7 (He.ga K "member_state") fd ["members", "member", "tick", "speaker"] (spN K 4 Sh.member_state) := by
  have H_left_among := ok_left_among (P := P) (w := w) (base := base) c X0 G
  have H_quiet_among := ok_quiet_among (P := P) (w := w) (base := base) c X0 G
  have H_offset_in_run := ok_offset_in_run (P := P) (w := w) (base := base) c X0 G
  have H_run_of := ok_run_of (P := P) (w := w) (base := base) c X0 G
  have H_Schedule_count_ready := ok_Schedule_count_ready (P := P) (w := w) (base := base) c X0 G
  have H_Schedule_nth_ready := ok_Schedule_nth_ready (P := P) (w := w) (base := base) c X0 G
  have sc := sc_member_state
  refine fn_ok F sc (by decide) (fun cdv A outer s H E hr => ?_)
  exact (ds_cons (ds_set 4 sc.nd (de_callF [] ((H_left_among.up (by decide)).pure) hr (He.glo_ok X0 G (c.fact 51 (f := .glo "left_among") (by rfl))) (fun _ _ => .nil) (fun _ => passAt0) (da_cons (de_var 0) (da_cons (de_fld (f := "rank") (de_var 1)) (da_cons (de_var 2) da_nil))) (sCons_len (sCons_len (sCons_len sNil_len))))) (ds_cons (ds_set 5 sc.nd (de_callF [] ((H_quiet_among.up (by decide)).pure) hr (He.glo_ok X0 G (c.fact 50 (f := .glo "quiet_among") (by rfl))) (fun _ _ => .nil) (fun _ => passAt0) (da_cons (de_var 0) (da_cons (de_fld (f := "rank") (de_var 1)) (da_cons (de_var 4) da_nil))) (sCons_len (sCons_len (sCons_len sNil_len))))) (ds_cons (ds_set 6 sc.nd (de_callF [] ((H_offset_in_run.up (by decide)).pure) hr (He.glo_ok X0 G (c.fact 57 (f := .glo "offset_in_run") (by rfl))) (fun _ _ => .nil) (fun _ => passAt0) (da_cons (de_var 0) (da_cons (de_fld (f := "rank") (de_var 1)) (da_cons (de_var 4) (da_cons (de_var 5) da_nil)))) (sCons_len (sCons_len (sCons_len (sCons_len sNil_len)))))) (ds_cons (ds_for (vs := [7, 8, 9]) (passes_of rfl) rfl (di_any (de_callF [] ((H_run_of.up (by decide)).pure) hr (He.glo_ok X0 G (c.fact 58 (f := .glo "run_of") (by rfl))) (fun _ _ => .nil) (fun _ => passAt0) (da_cons (de_var 0) (da_cons (de_fld (f := "rank") (de_var 1)) (da_cons (de_var 5) da_nil))) (sCons_len (sCons_len (sCons_len sNil_len))))) (dg_tup (n := 3) rfl (dg_cons (dg_name 7 sc.nd) (dg_cons (dg_name 8 sc.nd) (dg_cons (dg_name 9 sc.nd) dg_nil))) rfl (pg_tup rfl (dg_cons (dg_name 7 sc.nd) (dg_cons (dg_name 8 sc.nd) (dg_cons (dg_name 9 sc.nd) dg_nil)))) (pg_lst rfl (dg_cons (dg_name 7 sc.nd) (dg_cons (dg_name 8 sc.nd) (dg_cons (dg_name 9 sc.nd) dg_nil))))) (ds_cons (ds_if (DW.dt (dw_and (dt_eq (hu_ hr) (de_fld (f := "name") (de_var 7)) (de_fld (f := "name") (de_var 1))) (dw_and1 (dt_lt (de_var 6) (de_var 9))))) (ds_cons (ds_set 10 sc.nd (de_if (dt_eq (hu_ hr) (de_var 3) (de_fld (f := "name") (de_var 1))) (de_globS (by rfl) (He.str_ok X0 G (c.fact 55 (f := .str "SPEAKING" "speaking") (by rfl)))) (de_globS (by rfl) (He.str_ok X0 G (c.fact 54 (f := .str "READY" "ready") (by rfl)))))) (ds_one (ds_ret (de_tup (da_cons (de_var 10) (da_cons (de_var 8) (da_cons (de_sub (de_var 9) (de_max2 rfl (by rfl) (He.free_ok X0 G (c.fact 109 (f := .free "max") (by rfl))) (de_var 6) de_int)) da_nil))))))) ds_nil) (ds_one (ds_augI 6 sc.nd ip_sub (de_var 9))))) (ds_cons (ds_set 11 sc.nd (de_methF (C := "Schedule") (mt := "count_ready") _ (He.cls_ok (c.fact 25 (f := .cls "Schedule") (by rfl))) (He.meth_ok (c.fact 36 (f := .meth "Schedule" "count_ready") (by rfl))) ((H_Schedule_count_ready.up (by decide)).pure) hr (de_fld (f := "schedule") (de_var 1)) (da_cons (de_var 5) da_nil) (sCons_len sNil_len))) (ds_one (ds_ret (de_tup (da_cons (de_globS (by rfl) (He.str_ok X0 G (c.fact 53 (f := .str "SILENT" "silent") (by rfl)))) (da_cons (de_var 11) (da_cons (de_sub (de_methF (C := "Schedule") (mt := "nth_ready") _ (He.cls_ok (c.fact 25 (f := .cls "Schedule") (by rfl))) (He.meth_ok (c.fact 35 (f := .meth "Schedule" "nth_ready") (by rfl))) ((H_Schedule_nth_ready.up (by decide)).pure) hr (de_fld (f := "schedule") (de_var 1)) (da_cons (de_var 11) da_nil) (sCons_len sNil_len)) (de_var 5)) da_nil)))))))))))
theorem ok_member_state (c : He.SaysD fa fn K) (X0 : K.In h) (G : h.Ns mainGlobals mg) : Def P w K mg base CX0 7 (He.ga K "member_state") ["members", "member", "tick", "speaker"] [] Sh.member_state := by
  obtain ⟨fd, F⟩ := c.def_ 30 (d := d_member_state) rfl
  exact ⟨⟨fd, [], okb_member_state c X0 G F, F.bindsN fun _ _ _ _ _ _ us hl => match us, hl with | [_, _, _, _], _ => rfl, .nil⟩, F.kp⟩
theorem sc_state_at_1 : FnScope ["hall", "tick", "members", "found", "speaker", "member"] ["hall", "tick"] (defScope (top 44)) := ⟨rfl, rfl, rfl, by decide +kernel, rfl, by decide +kernel, by decide +kernel⟩
theorem okb_state_at_1 (c : He.SaysD fa fn K) (X0 : K.In h) (G : h.Ns mainGlobals mg) {fd : FuncData} (F : FunD K d_state_at_1.name d_state_at_1.qual d_state_at_1.params d_state_at_1.body d_state_at_1.scope (d_state_at_1.dvs K) (d_state_at_1.kws K) (He.ga K "state_at") fd) : FnOk P w K mg base (L2.CX P w) 8 (He.ga K "state_at") fd ["hall", "tick"] (spN K 2 Sh.state_at_1) := by
  have H_checked_hall := ok_checked_hall (P := P) (w := w) (base := base) c X0 G
  have H_check_tick := ok_check_tick (P := P) (w := w) (base := base) c X0 G
  have H_talk_by := ok_talk_by (P := P) (w := w) (base := base) c X0 G
  have H_member_state := ok_member_state (P := P) (w := w) (base := base) c X0 G
  have sc := sc_state_at_1
  refine fn_ok F sc (by decide) (fun cdv A outer s H E hr => ?_)
  exact (ds_cons (ds_set 2 sc.nd (de_callF [] ((H_checked_hall.up (by decide)).pure) hr (He.glo_ok X0 G (c.fact 44 (f := .glo "checked_hall") (by rfl))) (fun _ _ => .nil) (fun s_ => passAt (takes_of rfl rfl rfl rfl) s_) (da_cons (de_var 0) da_nil) (sCons_len sNil_len))) (ds_cons (ds_expr (de_callF [] ((H_check_tick.up (by decide)).pure) hr (He.glo_ok X0 G (c.fact 47 (f := .glo "check_tick") (by rfl))) (fun _ _ => .nil) (fun s_ => passAt (takes_of rfl rfl rfl rfl) s_) (da_cons (de_var 1) da_nil) (sCons_len sNil_len))) (ds_cons (ds_set 3 sc.nd (de_callF [] ((H_talk_by.up (by decide)).pure) hr (He.glo_ok X0 G (c.fact 59 (f := .glo "talk_by") (by rfl))) (fun _ _ => .nil) (fun _ => passAt0) (da_cons (de_var 2) (da_cons (de_var 1) da_nil)) (sCons_len (sCons_len sNil_len)))) (ds_cons (ds_set 4 sc.nd (de_if (dt_is (de_var 3) de_non) de_non (de_ix (de_var 3) de_int))) (ds_one (ds_ret (de_lc false [("member", 5)] rfl sc.nd (di_any (de_var 2)) (blkOk_by (by kernel_rfl)) (fun _ _ _ _ _ => (dg_name 5 sc.nd)) (fun _ _ _ _ _ => dts_nil) (fun _ _ _ _ _ => (de_callF [] ((H_member_state.up (by decide)).pure) hr (He.glo_ok X0 G (c.fact 62 (f := .glo "member_state") (by rfl))) (fun _ _ => .nil) (fun _ => passAt0) (da_cons (de_var 2) (da_cons (de_var 5) (da_cons (de_var 1) (da_cons (de_var 4) da_nil)))) (sCons_len (sCons_len (sCons_len (sCons_len sNil_len)))))))))))))
theorem ok_state_at_1 (c : He.SaysD fa fn K) (X0 : K.In h) (G : h.Ns mainGlobals mg) : Def P w K mg base (L2.CX P w) 8 (He.ga K "state_at") ["hall", "tick"] [] Sh.state_at_1 := by
  obtain ⟨fd, F⟩ := c.def_ 31 (d := d_state_at_1) rfl
  exact ⟨⟨fd, [], okb_state_at_1 c X0 G F, F.bindsN fun _ _ _ _ _ _ us hl => match us, hl with | [_, _], _ => rfl, .nil⟩, F.kp⟩
theorem sc_talk_at : FnScope ["hall", "tick", "members"] ["hall", "tick"] (defScope (top 41)) := ⟨rfl, rfl, rfl, by decide +kernel, rfl, by decide +kernel, by decide +kernel⟩
theorem okb_talk_at (c : He.SaysD fa fn K) (X0 : K.In h) (G : h.Ns mainGlobals mg) {fd : FuncData} (F : FunD K d_talk_at.name d_talk_at.qual d_talk_at.params d_talk_at.body d_talk_at.scope (d_talk_at.dvs K) (d_talk_at.kws K) (He.ga K "talk_at") fd) : FnOk P w K mg base (L2.CX P w) 8 (He.ga K "talk_at") fd ["hall", "tick"] (spN K 2 Sh.talk_at) := by
  have H_checked_hall := ok_checked_hall (P := P) (w := w) (base := base) c X0 G
  have H_check_tick := ok_check_tick (P := P) (w := w) (base := base) c X0 G
  have H_talk_by := ok_talk_by (P := P) (w := w) (base := base) c X0 G
  have sc := sc_talk_at
  refine fn_ok F sc (by decide) (fun cdv A outer s H E hr => ?_)
  exact (ds_cons (ds_set 2 sc.nd (de_callF [] ((H_checked_hall.up (by decide)).pure) hr (He.glo_ok X0 G (c.fact 44 (f := .glo "checked_hall") (by rfl))) (fun _ _ => .nil) (fun s_ => passAt (takes_of rfl rfl rfl rfl) s_) (da_cons (de_var 0) da_nil) (sCons_len sNil_len))) (ds_cons (ds_expr (de_callF [] ((H_check_tick.up (by decide)).pure) hr (He.glo_ok X0 G (c.fact 47 (f := .glo "check_tick") (by rfl))) (fun _ _ => .nil) (fun s_ => passAt (takes_of rfl rfl rfl rfl) s_) (da_cons (de_var 1) da_nil) (sCons_len sNil_len))) (ds_one (ds_ret (de_callF [] ((H_talk_by.up (by decide)).pure) hr (He.glo_ok X0 G (c.fact 59 (f := .glo "talk_by") (by rfl))) (fun _ _ => .nil) (fun _ => passAt0) (da_cons (de_var 2) (da_cons (de_var 1) da_nil)) (sCons_len (sCons_len sNil_len)))))))
theorem ok_talk_at (c : He.SaysD fa fn K) (X0 : K.In h) (G : h.Ns mainGlobals mg) : Def P w K mg base (L2.CX P w) 8 (He.ga K "talk_at") ["hall", "tick"] [] Sh.talk_at := by
  obtain ⟨fd, F⟩ := c.def_ 28 (d := d_talk_at) rfl
  exact ⟨⟨fd, [], okb_talk_at c X0 G F, F.bindsN fun _ _ _ _ _ _ us hl => match us, hl with | [_, _], _ => rfl, .nil⟩, F.kp⟩
theorem sc_speaker_at : FnScope ["hall", "tick", "found"] ["hall", "tick"] (defScope (top 42)) := ⟨rfl, rfl, rfl, by decide +kernel, rfl, by decide +kernel, by decide +kernel⟩
theorem okb_speaker_at (c : He.SaysD fa fn K) (X0 : K.In h) (G : h.Ns mainGlobals mg) {fd : FuncData} (F : FunD K d_speaker_at.name d_speaker_at.qual d_speaker_at.params d_speaker_at.body d_speaker_at.scope (d_speaker_at.dvs K) (d_speaker_at.kws K) (He.ga K "speaker_at") fd) : FnOk P w K mg base (L2.CX P w) 9 (He.ga K "speaker_at") fd ["hall", "tick"] (spN K 2 Sh.speaker_at) := by
  have H_talk_at := ok_talk_at (P := P) (w := w) (base := base) c X0 G
  have sc := sc_speaker_at
  refine fn_ok F sc (by decide) (fun cdv A outer s H E hr => ?_)
  exact (ds_cons (ds_set 2 sc.nd (de_callF [] ((H_talk_at.up (by decide)).pure) hr (He.glo_ok X0 G (c.fact 60 (f := .glo "talk_at") (by rfl))) (fun _ _ => .nil) (fun s_ => passAt (takes_of rfl rfl rfl rfl) s_) (da_cons (de_var 0) (da_cons (de_var 1) da_nil)) (sCons_len (sCons_len sNil_len)))) (ds_one (ds_ret (de_if (dt_is (de_var 2) de_non) de_non (de_ix (de_var 2) de_int)))))
theorem ok_speaker_at (c : He.SaysD fa fn K) (X0 : K.In h) (G : h.Ns mainGlobals mg) : Def P w K mg base (L2.CX P w) 9 (He.ga K "speaker_at") ["hall", "tick"] [] Sh.speaker_at := by
  obtain ⟨fd, F⟩ := c.def_ 29 (d := d_speaker_at) rfl
  exact ⟨⟨fd, [], okb_speaker_at c X0 G F, F.bindsN fun _ _ _ _ _ _ us hl => match us, hl with | [_, _], _ => rfl, .nil⟩, F.kp⟩
theorem sc_l_same_state : FnScope ["_law_hall_here", "_law_tick", "_law_later", "_law_states", "_law_row"] ["_law_hall_here", "_law_tick", "_law_later"] (defScope (top 72)) := ⟨rfl, rfl, rfl, by decide +kernel, rfl, by decide +kernel, by decide +kernel⟩
theorem okb_l_same_state (c : He.SaysD fa fn K) (X0 : K.In h) (G : h.Ns mainGlobals mg) {fd : FuncData} (F : FunD K d_l_same_state.name d_l_same_state.qual d_l_same_state.params d_l_same_state.body d_l_same_state.scope (d_l_same_state.dvs K) (d_l_same_state.kws K) (He.ga K "_law_same_state") fd) : FnOk P w K mg base CX0 10 (He.ga K "_law_same_state") fd ["_law_hall_here", "_law_tick", "_law_later"] (spN K 3 Sh.l_same_state) := by
  have H_state_at_1 := ok_state_at_1 (P := P) (w := w) (base := base) c X0 G
  have H_speaker_at := ok_speaker_at (P := P) (w := w) (base := base) c X0 G
  have sc := sc_l_same_state
  refine fn_ok F sc (by decide) (fun cdv A outer s H E hr => ?_)
  exact (ds_cons (ds_set 3 sc.nd (de_lst (da_cons (de_callF [] (((H_state_at_1.up (by decide)).pure).shut) hr (He.glo_ok X0 G (c.fact 63 (f := .glo "state_at") (by rfl))) (fun _ _ => .nil) (fun _ => passAt0) (da_cons (de_var 0) (da_cons (de_var 1) da_nil)) (sCons_len (sCons_len sNil_len))) (da_cons (de_callF [] (((H_state_at_1.up (by decide)).pure).shut) hr (He.glo_ok X0 G (c.fact 63 (f := .glo "state_at") (by rfl))) (fun _ _ => .nil) (fun _ => passAt0) (da_cons (de_var 0) (da_cons (de_var 2) da_nil)) (sCons_len (sCons_len sNil_len))) da_nil)))) (ds_cons (ds_if (dt_ne (hu_ hr) (de_lc false [("_law_row", 4)] rfl sc.nd (di_any (de_ix (de_var 3) de_int)) (blkOk_by (by kernel_rfl)) (fun _ _ _ _ _ => (dg_name 4 sc.nd)) (fun _ _ _ _ _ => dts_nil) (fun _ _ _ _ _ => (de_tup (da_cons (de_ix (de_var 4) de_int) (da_cons (de_ix (de_var 4) de_int) da_nil))))) (de_lc false [("_law_row", 4)] rfl sc.nd (di_any (de_ix (de_var 3) de_int)) (blkOk_by (by kernel_rfl)) (fun _ _ _ _ _ => (dg_name 4 sc.nd)) (fun _ _ _ _ _ => dts_nil) (fun _ _ _ _ _ => (de_tup (da_cons (de_ix (de_var 4) de_int) (da_cons (de_ix (de_var 4) de_int) da_nil)))))) (ds_one (ds_ret de_bl)) ds_nil) (ds_one (ds_ret (de_eq (hu_ hr) (de_callF [] (((H_speaker_at.up (by decide)).pure).shut) hr (He.glo_ok X0 G (c.fact 61 (f := .glo "speaker_at") (by rfl))) (fun _ _ => .nil) (fun _ => passAt0) (da_cons (de_var 0) (da_cons (de_var 1) da_nil)) (sCons_len (sCons_len sNil_len))) (de_callF [] (((H_speaker_at.up (by decide)).pure).shut) hr (He.glo_ok X0 G (c.fact 61 (f := .glo "speaker_at") (by rfl))) (fun _ _ => .nil) (fun _ => passAt0) (da_cons (de_var 0) (da_cons (de_var 2) da_nil)) (sCons_len (sCons_len sNil_len))))))))
theorem ok_l_same_state (c : He.SaysD fa fn K) (X0 : K.In h) (G : h.Ns mainGlobals mg) : Def P w K mg base CX0 10 (He.ga K "_law_same_state") ["_law_hall_here", "_law_tick", "_law_later"] [] Sh.l_same_state := by
  obtain ⟨fd, F⟩ := c.def_ 56 (d := d_l_same_state) rfl
  exact ⟨⟨fd, [], okb_l_same_state c X0 G F, F.bindsN fun _ _ _ _ _ _ us hl => match us, hl with | [_, _, _], _ => rfl, .nil⟩, F.kp⟩
theorem sc_descent_of_1 : FnScope ["hall", "tick", "members"] ["hall", "tick"] (defScope (top 45)) := ⟨rfl, rfl, rfl, by decide +kernel, rfl, by decide +kernel, by decide +kernel⟩
theorem okb_descent_of_1 (c : He.SaysD fa fn K) (X0 : K.In h) (G : h.Ns mainGlobals mg) {fd : FuncData} (F : FunD K d_descent_of_1.name d_descent_of_1.qual d_descent_of_1.params d_descent_of_1.body d_descent_of_1.scope (d_descent_of_1.dvs K) (d_descent_of_1.kws K) (He.ga K "descent_of") fd) : FnOk P w K mg base (L2.CX P w) 7 (He.ga K "descent_of") fd ["hall", "tick"] (spN K 2 Sh.descent_of_1) := by
  have H_checked_hall := ok_checked_hall (P := P) (w := w) (base := base) c X0 G
  have H_check_tick := ok_check_tick (P := P) (w := w) (base := base) c X0 G
  have H_descent_by := ok_descent_by (P := P) (w := w) (base := base) c X0 G
  have sc := sc_descent_of_1
  refine fn_ok F sc (by decide) (fun cdv A outer s H E hr => ?_)
  exact (ds_cons (ds_set 2 sc.nd (de_callF [] ((H_checked_hall.up (by decide)).pure) hr (He.glo_ok X0 G (c.fact 44 (f := .glo "checked_hall") (by rfl))) (fun _ _ => .nil) (fun s_ => passAt (takes_of rfl rfl rfl rfl) s_) (da_cons (de_var 0) da_nil) (sCons_len sNil_len))) (ds_cons (ds_expr (de_callF [] ((H_check_tick.up (by decide)).pure) hr (He.glo_ok X0 G (c.fact 47 (f := .glo "check_tick") (by rfl))) (fun _ _ => .nil) (fun s_ => passAt (takes_of rfl rfl rfl rfl) s_) (da_cons (de_var 1) da_nil) (sCons_len sNil_len))) (ds_one (ds_ret (de_callF [] ((H_descent_by.up (by decide)).pure) hr (He.glo_ok X0 G (c.fact 56 (f := .glo "descent_by") (by rfl))) (fun _ _ => .nil) (fun _ => passAt0) (da_cons (de_var 2) (da_cons (de_var 1) da_nil)) (sCons_len (sCons_len sNil_len)))))))
theorem ok_descent_of_1 (c : He.SaysD fa fn K) (X0 : K.In h) (G : h.Ns mainGlobals mg) : Def P w K mg base (L2.CX P w) 7 (He.ga K "descent_of") ["hall", "tick"] [] Sh.descent_of_1 := by
  obtain ⟨fd, F⟩ := c.def_ 32 (d := d_descent_of_1) rfl
  exact ⟨⟨fd, [], okb_descent_of_1 c X0 G F, F.bindsN fun _ _ _ _ _ _ us hl => match us, hl with | [_, _], _ => rfl, .nil⟩, F.kp⟩
theorem sc_is_line : FnScope ["value", "part"] ["value"] (defScope (top 46)) := ⟨rfl, rfl, rfl, by decide +kernel, rfl, by decide +kernel, by decide +kernel⟩
theorem okb_is_line (c : He.SaysD fa fn K) (X0 : K.In h) (G : h.Ns mainGlobals mg) {fd : FuncData} (F : FunD K d_is_line.name d_is_line.qual d_is_line.params d_is_line.body d_is_line.scope (d_is_line.dvs K) (d_is_line.kws K) (He.ga K "is_line") fd) : FnOk P w K mg base CX0 2 (He.ga K "is_line") fd ["value"] (spN K 1 Sh.is_line) := by
  have H_is_integer := ok_is_integer (P := P) (w := w) (base := base) c X0 G
  have H_is_integer_all := ok_is_integer_all (P := P) (w := w) (base := base) c X0 G
  have H_is_sequence := ok_is_sequence (P := P) (w := w) (base := base) c X0 G
  have sc := sc_is_line
  refine fn_ok F sc (by decide) (fun cdv A outer s H E hr => ?_)
  exact (ds_one (ds_ret (de_and (de_callF [] ((H_is_sequence.up (by decide)).pure) hr (He.glo_ok X0 G (c.fact 17 (f := .glo "is_sequence") (by rfl))) (fun _ _ => .nil) (fun _ => passAt0) (da_cons (de_var 0) da_nil) (sCons_len sNil_len)) (de_and (de_eq (hu_ hr) (de_len (by rfl) (He.free_ok X0 G (c.fact 107 (f := .free "len") (by rfl))) (de_var 0)) de_int) (de_one (de_all rfl (by rfl) (He.free_ok X0 G (c.fact 101 (f := .free "all") (by rfl))) (de_lc false [("part", 1)] rfl sc.nd (di_any (de_var 0)) (blkOk_by (by kernel_rfl)) (fun _ _ _ _ _ => (dg_name 1 sc.nd)) (fun _ _ _ _ _ => dts_nil) (fun _ _ _ _ _ => (de_callF [.non] ((H_is_integer.up (by decide)).pure) hr (He.glo_ok X0 G (c.fact 16 (f := .glo "is_integer") (by rfl))) (fun _ _ => .cons .non (.nil)) (fun _ => passAt0) (da_cons (de_var 1) (da_cons de_int da_nil)) (sCons_len (sCons_len sNil_len)))))))))))
theorem ok_is_line (c : He.SaysD fa fn K) (X0 : K.In h) (G : h.Ns mainGlobals mg) : Def P w K mg base CX0 2 (He.ga K "is_line") ["value"] [] Sh.is_line := by
  obtain ⟨fd, F⟩ := c.def_ 33 (d := d_is_line) rfl
  exact ⟨⟨fd, [], okb_is_line c X0 G F, F.bindsN fun _ _ _ _ _ _ us hl => match us, hl with | [_], _ => rfl, .nil⟩, F.kp⟩
theorem sc_is_descent_1 : FnScope ["hall", "tick", "value", "due", "line"] ["hall", "tick", "value"] (defScope (top 47)) := ⟨rfl, rfl, rfl, by decide +kernel, rfl, by decide +kernel, by decide +kernel⟩
theorem okb_is_descent_1 (c : He.SaysD fa fn K) (X0 : K.In h) (G : h.Ns mainGlobals mg) {fd : FuncData} (F : FunD K d_is_descent_1.name d_is_descent_1.qual d_is_descent_1.params d_is_descent_1.body d_is_descent_1.scope (d_is_descent_1.dvs K) (d_is_descent_1.kws K) (He.ga K "is_descent") fd) : FnOk P w K mg base (L2.CX P w) 8 (He.ga K "is_descent") fd ["hall", "tick", "value"] (spN K 3 Sh.is_descent_1) := by
  have H_descent_of_1 := ok_descent_of_1 (P := P) (w := w) (base := base) c X0 G
  have H_is_line := ok_is_line (P := P) (w := w) (base := base) c X0 G
  have H_is_sequence := ok_is_sequence (P := P) (w := w) (base := base) c X0 G
  have sc := sc_is_descent_1
  refine fn_ok F sc (by decide) (fun cdv A outer s H E hr => ?_)
  exact (ds_cons (ds_set 3 sc.nd (de_callF [] ((H_descent_of_1.up (by decide)).pure) hr (He.glo_ok X0 G (c.fact 64 (f := .glo "descent_of") (by rfl))) (fun _ _ => .nil) (fun s_ => passAt (takes_of rfl rfl rfl rfl) s_) (da_cons (de_var 0) (da_cons (de_var 1) da_nil)) (sCons_len (sCons_len sNil_len)))) (ds_cons (ds_if (DW.dt (dw_or (dt_not (dt_val (de_callF [] ((H_is_sequence.up (by decide)).pure) hr (He.glo_ok X0 G (c.fact 17 (f := .glo "is_sequence") (by rfl))) (fun _ _ => .nil) (fun _ => passAt0) (da_cons (de_var 2) da_nil) (sCons_len sNil_len)))) (dw_or1 (dt_not (dt_val (de_all rfl (by rfl) (He.free_ok X0 G (c.fact 101 (f := .free "all") (by rfl))) (de_lc false [("line", 4)] rfl sc.nd (di_any (de_var 2)) (blkOk_by (by kernel_rfl)) (fun _ _ _ _ _ => (dg_name 4 sc.nd)) (fun _ _ _ _ _ => dts_nil) (fun _ _ _ _ _ => (de_callF [] ((H_is_line.up (by decide)).pure) hr (He.glo_ok X0 G (c.fact 65 (f := .glo "is_line") (by rfl))) (fun _ _ => .nil) (fun _ => passAt0) (da_cons (de_var 4) da_nil) (sCons_len sNil_len)))))))))) (ds_one (ds_ret de_bl)) ds_nil) (ds_one (ds_ret (de_eq (hu_ hr) (de_lc false [("line", 4)] rfl sc.nd (di_any (de_var 2)) (blkOk_by (by kernel_rfl)) (fun _ _ _ _ _ => (dg_name 4 sc.nd)) (fun _ _ _ _ _ => dts_nil) (fun _ _ _ _ _ => (de_tuple (by rfl) (He.free_ok X0 G (c.fact 115 (f := .free "tuple") (by rfl))) (de_var 4)))) (de_var 3))))))
theorem ok_is_descent_1 (c : He.SaysD fa fn K) (X0 : K.In h) (G : h.Ns mainGlobals mg) : Def P w K mg base (L2.CX P w) 8 (He.ga K "is_descent") ["hall", "tick", "value"] [] Sh.is_descent_1 := by
  obtain ⟨fd, F⟩ := c.def_ 34 (d := d_is_descent_1) rfl
  exact ⟨⟨fd, [], okb_is_descent_1 c X0 G F, F.bindsN fun _ _ _ _ _ _ us hl => match us, hl with | [_, _, _], _ => rfl, .nil⟩, F.kp⟩
theorem sc_l_holds_1 : FnScope ["_law_stream_here", "_law_hall_here", "_law_start", "_law_length", "_law_times", "_law_turn", "_law_tick", "_law_later", "_law_grown"] ["_law_stream_here"] (defScope (top 76)) := ⟨rfl, rfl, rfl, by decide +kernel, rfl, by decide +kernel, by decide +kernel⟩
theorem okb_l_holds_1 (c : He.SaysD fa fn K) (X0 : K.In h) (G : h.Ns mainGlobals mg) {fd : FuncData} (F : FunD K d_l_holds_1.name d_l_holds_1.qual d_l_holds_1.params d_l_holds_1.body d_l_holds_1.scope (d_l_holds_1.dvs K) (d_l_holds_1.kws K) (He.ga K "_law_holds") fd) : FnOk P w K mg base CX0 11 (He.ga K "_law_holds") fd ["_law_stream_here"] (spN K 1 (Sh.l_holds_1 P w)) := by
  have H_l_hall_5 := ok_l_hall_5 (P := P) (w := w) (base := base) c X0 G
  have H_cycle_of := ok_cycle_of (P := P) (w := w) (base := base) c X0 G
  have H_l_draw_4 := ok_l_draw_4 (P := P) (w := w) (base := base) c X0 G
  have H_l_same_state := ok_l_same_state (P := P) (w := w) (base := base) c X0 G
  have H_is_descent_1 := ok_is_descent_1 (P := P) (w := w) (base := base) c X0 G
  have H_descent_of_1 := ok_descent_of_1 (P := P) (w := w) (base := base) c X0 G
  have H_silent_before := ok_silent_before (P := P) (w := w) (base := base) c X0 G
  have H_l_talks_hold := ok_l_talks_hold (P := P) (w := w) (base := base) c X0 G
  have H_l_shares_hold := ok_l_shares_hold (P := P) (w := w) (base := base) c X0 G
  have sc := sc_l_holds_1
  refine fn_ok F sc (by decide) (fun cdv A outer s H E hr => ?_)
  exact (ds_cons (ds_set 1 sc.nd (de_callF [] (H_l_hall_5.up (by decide)) hr (He.glo_ok X0 G (c.fact 91 (f := .glo "_law_hall") (by rfl))) (fun _ _ => .nil) (fun _ => passAt0) (da_cons (de_var 0) (da_cons de_int (da_cons (de_lst (da_cons de_int (da_cons de_int da_nil))) da_nil))) (sCons_len (sCons_len (sCons_len sNil_len))))) (ds_cons (ds_asg (vs := [2, 3]) (de_callF [] (((H_cycle_of.up (by decide)).pure).shut) hr (He.glo_ok X0 G (c.fact 86 (f := .glo "cycle_of") (by rfl))) (fun _ _ => .nil) (fun _ => passAt0) (da_cons (de_var 1) da_nil) (sCons_len sNil_len)) (dg_tup (n := 2) rfl (dg_cons (dg_name 2 sc.nd) (dg_cons (dg_name 3 sc.nd) dg_nil)) rfl (pg_tup rfl (dg_cons (dg_name 2 sc.nd) (dg_cons (dg_name 3 sc.nd) dg_nil))) (pg_lst rfl (dg_cons (dg_name 2 sc.nd) (dg_cons (dg_name 3 sc.nd) dg_nil))))) (ds_cons (ds_if (DW.dt (dw_or (dt_lt (de_var 3) de_int) (dw_or1 (dt_lt (de_var 2) de_int)))) (ds_one (ds_ret de_bl)) ds_nil) (ds_cons (ds_set 4 sc.nd (de_add de_int (de_callF [] (H_l_draw_4.up (by decide)) hr (He.glo_ok X0 G (c.fact 89 (f := .glo "_law_draw") (by rfl))) (fun _ _ => .nil) (fun _ => passAt0) (da_cons (de_var 0) (da_cons (de_ix (de_lst (da_cons de_int (da_cons (de_pow de_int de_int) da_nil))) (de_callF [] (H_l_draw_4.up (by decide)) hr (He.glo_ok X0 G (c.fact 89 (f := .glo "_law_draw") (by rfl))) (fun _ _ => .nil) (fun _ => passAt0) (da_cons (de_var 0) (da_cons de_int da_nil)) (sCons_len (sCons_len sNil_len)))) da_nil)) (sCons_len (sCons_len sNil_len))))) (ds_cons (ds_for (vs := [5]) (passes_of rfl) rfl (di_rng1 (by rfl) (He.free_ok X0 G (c.fact 111 (f := .free "range") (by rfl))) de_int) (dg_name 5 sc.nd) (ds_cons (ds_set 6 sc.nd (de_add (de_var 2) (de_callF [] (H_l_draw_4.up (by decide)) hr (He.glo_ok X0 G (c.fact 89 (f := .glo "_law_draw") (by rfl))) (fun _ _ => .nil) (fun _ => passAt0) (da_cons (de_var 0) (da_cons (de_mul de_int (de_var 3)) da_nil)) (sCons_len (sCons_len sNil_len))))) (ds_cons (ds_if (dt_not (dt_val (de_callF [] ((H_l_same_state.up (by decide)).pure) hr (He.glo_ok X0 G (c.fact 93 (f := .glo "_law_same_state") (by rfl))) (fun _ _ => .nil) (fun _ => passAt0) (da_cons (de_var 1) (da_cons (de_var 6) (da_cons (de_add (de_var 6) (de_mul (de_var 4) (de_var 3))) da_nil))) (sCons_len (sCons_len (sCons_len sNil_len)))))) (ds_one (ds_ret de_bl)) ds_nil) (ds_cons (ds_set 7 sc.nd (de_add (de_var 6) (de_mul (de_var 4) (de_var 3)))) (ds_cons (ds_if (dt_not (dt_val (de_callF [] (((H_is_descent_1.up (by decide)).pure).shut) hr (He.glo_ok X0 G (c.fact 66 (f := .glo "is_descent") (by rfl))) (fun _ _ => .nil) (fun _ => passAt0) (da_cons (de_var 1) (da_cons (de_var 7) (da_cons (de_callF [] (((H_descent_of_1.up (by decide)).pure).shut) hr (He.glo_ok X0 G (c.fact 64 (f := .glo "descent_of") (by rfl))) (fun _ _ => .nil) (fun _ => passAt0) (da_cons (de_var 1) (da_cons (de_var 7) da_nil)) (sCons_len (sCons_len sNil_len))) da_nil))) (sCons_len (sCons_len (sCons_len sNil_len)))))) (ds_one (ds_ret de_bl)) ds_nil) (ds_cons (ds_set 8 sc.nd (de_sub (de_callF [] (((H_silent_before.up (by decide)).pure).shut) hr (He.glo_ok X0 G (c.fact 72 (f := .glo "silent_before") (by rfl))) (fun _ _ => .nil) (fun _ => passAt0) (da_cons (de_var 1) (da_cons (de_add (de_var 6) (de_var 3)) da_nil)) (sCons_len (sCons_len sNil_len))) (de_callF [] (((H_silent_before.up (by decide)).pure).shut) hr (He.glo_ok X0 G (c.fact 72 (f := .glo "silent_before") (by rfl))) (fun _ _ => .nil) (fun _ => passAt0) (da_cons (de_var 1) (da_cons (de_var 6) da_nil)) (sCons_len (sCons_len sNil_len))))) (ds_one (ds_if (dt_ne (hu_ hr) (de_callF [] (((H_silent_before.up (by decide)).pure).shut) hr (He.glo_ok X0 G (c.fact 72 (f := .glo "silent_before") (by rfl))) (fun _ _ => .nil) (fun _ => passAt0) (da_cons (de_var 1) (da_cons (de_var 7) da_nil)) (sCons_len (sCons_len sNil_len))) (de_add (de_callF [] (((H_silent_before.up (by decide)).pure).shut) hr (He.glo_ok X0 G (c.fact 72 (f := .glo "silent_before") (by rfl))) (fun _ _ => .nil) (fun _ => passAt0) (da_cons (de_var 1) (da_cons (de_var 6) da_nil)) (sCons_len (sCons_len sNil_len))) (de_mul (de_var 4) (de_var 8)))) (ds_one (ds_ret de_bl)) ds_nil)))))))) (ds_one (ds_ret (de_and (de_callF [] ((H_l_shares_hold.up (by decide)).pure) hr (He.glo_ok X0 G (c.fact 95 (f := .glo "_law_shares_hold") (by rfl))) (fun _ _ => .nil) (fun _ => passAt0) (da_cons (de_var 1) (da_cons (de_var 2) (da_cons (de_var 3) da_nil))) (sCons_len (sCons_len (sCons_len sNil_len)))) (de_one (de_callF [] (H_l_talks_hold.up (by decide)) hr (He.glo_ok X0 G (c.fact 96 (f := .glo "_law_talks_hold") (by rfl))) (fun _ _ => .nil) (fun _ => passAt0) (da_cons (de_var 0) (da_cons (de_var 1) (da_cons (de_var 2) (da_cons (de_var 3) (da_cons (de_var 4) da_nil))))) (sCons_len (sCons_len (sCons_len (sCons_len (sCons_len sNil_len)))))))))))))))
theorem ok_l_holds_1 (c : He.SaysD fa fn K) (X0 : K.In h) (G : h.Ns mainGlobals mg) : Def P w K mg base CX0 11 (He.ga K "_law_holds") ["_law_stream_here"] [] (Sh.l_holds_1 P w) := by
  obtain ⟨fd, F⟩ := c.def_ 60 (d := d_l_holds_1) rfl
  exact ⟨⟨fd, [], okb_l_holds_1 c X0 G F, F.bindsN fun _ _ _ _ _ _ us hl => match us, hl with | [_], _ => rfl, .nil⟩, F.kp⟩
theorem sc_l_stream : FnScope ["_law_cell", "_law_k"] ["_law_cell", "_law_k"] (defScope (top 67)) := ⟨rfl, rfl, rfl, by decide +kernel, rfl, by decide +kernel, by decide +kernel⟩
theorem okb_l_stream (c : He.SaysD fa fn K) (X0 : K.In h) (G : h.Ns mainGlobals mg) {fd : FuncData} (F : FunD K d_l_stream.name d_l_stream.qual d_l_stream.params d_l_stream.body d_l_stream.scope (d_l_stream.dvs K) (d_l_stream.kws K) (He.ga K "_law_stream") fd) : FnOk P w K mg base CX0 1 (He.ga K "_law_stream") fd ["_law_cell", "_law_k"] (spN K 2 Sh.l_stream) := by
  have sc := sc_l_stream
  refine fn_ok F sc (by decide) (fun cdv A outer s H E hr => ?_)
  exact (ds_one (ds_ret (de_lstO (da_cons (de_abs (by rfl) (He.free_ok X0 G (c.fact 100 (f := .free "abs") (by rfl))) (de_var 0)) (da_cons (de_mod (de_mul (de_add (de_mod (de_abs (by rfl) (He.free_ok X0 G (c.fact 100 (f := .free "abs") (by rfl))) (de_var 0)) de_int) de_int) (de_add (de_mul de_int (de_var 1)) de_int)) de_int) da_nil)))))
theorem ok_l_stream (c : He.SaysD fa fn K) (X0 : K.In h) (G : h.Ns mainGlobals mg) : Def P w K mg base CX0 1 (He.ga K "_law_stream") ["_law_cell", "_law_k"] [] Sh.l_stream := by
  obtain ⟨fd, F⟩ := c.def_ 51 (d := d_l_stream) rfl
  exact ⟨⟨fd, [], okb_l_stream c X0 G F, F.bindsN fun _ _ _ _ _ _ us hl => match us, hl with | [_, _], _ => rfl, .nil⟩, F.kp⟩
theorem sc_law_k71 : FnScope ["_law_script", "_law_cells", "_law_k", "_law_cell"] ["_law_script"] (defScope (top 77)) := ⟨rfl, rfl, rfl, by decide +kernel, rfl, by decide +kernel, by decide +kernel⟩
theorem okb_law_k71 (c : He.SaysD fa fn K) (X0 : K.In h) (G : h.Ns mainGlobals mg) {fd : FuncData} (F : FunD K d_law_k71.name d_law_k71.qual d_law_k71.params d_law_k71.body d_law_k71.scope (d_law_k71.dvs K) (d_law_k71.kws K) (He.ga K "law") fd) : FnOk P w K mg base CX0 12 (He.ga K "law") fd ["_law_script"] (spN K 1 (Sh.law_k71 P w)) := by
  have H_l_holds_1 := ok_l_holds_1 (P := P) (w := w) (base := base) c X0 G
  have H_l_stream := ok_l_stream (P := P) (w := w) (base := base) c X0 G
  have sc := sc_law_k71
  refine fn_ok F sc (by decide) (fun cdv A outer s H E hr => ?_)
  exact (ds_cons (ds_set 1 sc.nd (de_cut false (de_add (de_cut false (de_var 0) do_none (do_some de_int)) (de_lst (da_cons de_int da_nil))) do_none (do_some (de_max2 rfl (by rfl) (He.free_ok X0 G (c.fact 109 (f := .free "max") (by rfl))) de_int (de_min2 rfl (by rfl) (He.free_ok X0 G (c.fact 110 (f := .free "min") (by rfl))) de_int (de_len (by rfl) (He.free_ok X0 G (c.fact 107 (f := .free "len") (by rfl))) (de_var 0))))))) (ds_one (ds_ret (de_eqN (hu_ hr) (de_lc false [("_law_k", 2), ("_law_cell", 3)] rfl sc.nd (di_enum (by rfl) (He.free_ok X0 G (c.fact 104 (f := .free "enumerate") (by rfl))) (de_var 1)) (blkOk_by (by kernel_rfl)) (fun _ _ _ _ _ => (dg_tup (n := 2) rfl (dg_cons (dg_name 2 sc.nd) (dg_cons (dg_name 3 sc.nd) dg_nil)) rfl (pg_tup rfl (dg_cons (dg_name 2 sc.nd) (dg_cons (dg_name 3 sc.nd) dg_nil))) (pg_lst rfl (dg_cons (dg_name 2 sc.nd) (dg_cons (dg_name 3 sc.nd) dg_nil))))) (fun _ _ _ _ _ => (dts_one (dt_not (dt_val (de_callF [] (H_l_holds_1.up (by decide)) hr (He.glo_ok X0 G (c.fact 97 (f := .glo "_law_holds") (by rfl))) (fun _ _ => .nil) (fun _ => passAt0) (da_cons (de_callF [] (H_l_stream.up (by decide)) hr (He.glo_ok X0 G (c.fact 88 (f := .glo "_law_stream") (by rfl))) (fun _ _ => .nil) (fun _ => passAt0) (da_cons (de_var 3) (da_cons (de_var 2) da_nil)) (sCons_len (sCons_len sNil_len))) da_nil) (sCons_len sNil_len)))))) (fun _ _ _ _ _ => (de_var 2))) (de_lst da_nil)))))
end
def nm0 : List Str := ["HushError", "InvalidHall", "UnknownTalker", "InvalidNumber", "InvalidTick", "LETTERS", "MAX_NAME", "MAX_TIME", "MAX_RANK", "MAX_TALKS", "MAX_TALKERS", "is_integer", "is_sequence", "is_name", "is_talk", "are_talks", "is_talker", "is_hall", "running_sums", "Schedule", "Member", "checked_hall", "member_of", "check_number", "check_tick", "rank_length", "left_index", "quiet_among", "left_among", "tick_of"]
def nm1 : List Str := ["SILENT", "READY", "SPEAKING", "descent_by", "offset_in_run", "run_of", "talk_by", "talk_at", "speaker_at", "member_state", "state_at", "descent_of", "is_line", "is_descent", "progress_of", "progress_before", "ticks_spoken", "talks_before", "silent_among", "silent_before", "span_by", "located", "span_of", "common_divisor", "common_multiple", "RankCycle", "start_of", "cycle_of", "shares_of", "_law_stream"]
def nm2 : List Str := ["_law_draw", "_law_talk", "_law_hall", "_law_gcd", "_law_same_state", "_law_share", "_law_shares_hold", "_law_talks_hold", "_law_holds"]
def nm : List Str := nm0 ++ nm1 ++ nm2
abbrev R : PySem.W.OpenRow := PySem.W.OpenLaw.row PySem.Challenge.rw_hushranks_k71_whole_cycles_far
abbrev hk : PySem.W.Hook := He.hookD 5 fa fn
def ob (s : PySem.W.SharedT) : He.AlD := He.obsDG 5 fa fn (HandSHeadRun.getT s)
theorem ob_eq (s : PySem.W.SharedT) : ob s = hk.obs s.abs := He.obsDG_eq (HandSHeadRun.getT_eq s)
set_option maxHeartbeats 0 in
theorem run (w : World) : HandSHeadRun.RunEq R (PySem.W.view R.prog [77]) hk ob 9000 nm w := by
  intro os
  kernel_rfl
theorem facts {P : Program} {w : World} {K : PySem.W.Frag} {h : Heap} {mg : Str → Option Value} {f : Addr} (X : K.In h) (G : h.Ns mainGlobals mg) (hfa : mg ("law" : Str) = some (.ref f)) (c : He.SaysD fa fn K) :
    ∃ fd : FuncData, (∀ (s : Shared) (v : Value), BindsTo s fd ⟨[v], []⟩ [("_law_script", v)]) ∧ ∀ base : Heap, K.In base → base.Ns mainGlobals mg → FnOk P w K mg base CX0 12 f fd ["_law_script"] (spN K 1 (Sh.law_k71 P w)) := by
  obtain ⟨fd, F⟩ := c.def_ 61 (d := d_law_k71) rfl
  have e := hfa.symm.trans (He.glo_ok X G (c.fact 98 (f := .glo "law") (by rfl)))
  cases e
  have b := FunD.bindsA (ps := ["_law_script"]) F (fun _ _ _ _ _ _ us hl => (match us, hl with | [_], _ => rfl))
  exact ⟨fd, (fun s v => b s [v] rfl), fun base KB GB => okb_law_k71 c KB GB F⟩
theorem holds_of (hg : ∀ (P : Program) (w : World) (ns : List Int), ns.length ≤ 63 → ∃ h', (Sh.law_k71 P w) [.scr (ns.map D.int)] [] = .ok (.bl true) h') : PySem.Challenge.rw_hushranks_k71_whole_cycles_far.Holds := by
  open PySem PySem.W PySem.Calls PyProof.Rows in
  w_on; o_law
  refine HandSHeadRun.head_any (r := R) (q := PySem.W.view R.prog [77]) (H := hk) (ob := ob) (M := 9000) (loose := nm) (d := HandSHeadRun.topDef R.prog 77) (kwd := []) ob_eq
    (by kernel_rfl) (fun s => by kernel_rfl) run (by kernel_rfl) (by kernel_rfl) (by kernel_rfl) (by rfl) (by first | assumption | decide +kernel) (by decide +kernel) ⟨rfl, rfl, rfl, rfl, rfl, by decide +kernel⟩ ?hw ?hc
  case hw => w_witness2
  case hc =>
    refine L2.walk_ofE (l := PySem.Challenge.rw_hushranks_k71_whole_cycles_far) (n := 63) (k := 12) (x := "_law_script") (CX := CX0) rfl (by decide) (by kernel_rfl) ⟨rfl, by decide, by decide⟩ ?F (fun _ _ _ _ z => z)
    intro w mg fa h Y G hmg0
    obtain ⟨K, KX, c⟩ := Y
    have hmg : mg ("law" : PySem.Str) = some (.ref fa) := by
      have e : (HandSHeadRun.topDef R.prog 77).name = ("law" : PySem.Str) := by kernel_rfl
      rw [← e]
      exact hmg0
    obtain ⟨fd, hb, hF⟩ := facts (P := (PySem.Challenge.rw_hushranks_k71_whole_cycles_far).prog) (w := w) KX G hmg c
    exact ⟨K, fd, spN K 1 (Sh.law_k71 (PySem.Challenge.rw_hushranks_k71_whole_cycles_far).prog w), KX, hb, (fun H a ns hl hO hS => law_sp (hg _ _) H a ns hl hO hS), hF⟩
end Tk71
end HR
theorem PySem.Challenge.cw_hushranks_k71_whole_cycles_far_holds : PySem.Challenge.rw_hushranks_k71_whole_cycles_far.Holds := by
  exact HR.Tk71.holds_of HR.law71
