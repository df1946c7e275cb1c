import PyProof.Rows.All
import HandS.ForMost
import HandS.Defaults
import HandS.IsInst
import HandS.Wide
import HandS.Zip
import HandS.Flow
import HandS.Exc
import HandS.CallSlots
import HandS.TryOnly
import HandS.ExcOwn
import HandS.WordsExc
import HandS.HeadHook1
import HandS.HeadHook2
import HandS.WideBits
import HandS.HeadEnd
import HandS.Head0
import HandS.Head1
import HandS.Head2
import PyProof.Rows.SetFrom
import PyProof.Rows.SetObj
import HandS.Text
import HandS.Iter
import PyProof.ReprRoads
import HandS.ExcIs
import HandS.ExcInit
import HandS.ExcField
import KE.KExcIs
import HandS.Codes
import HandS.ExcValue
import PyProof.LongRange
import HandS.RaiseMore
import HandS.More
import HandS.SetFor
import HandS.Strs
import KE.DataMinMax
import HandS.SortKw
import HandS.Dict
import HandS.Deep
import HandS.DictComp
import PyProof.InstEq
import HandS.Small
import KE.GoesMore
import HandS.HotCalls
import HandS.ExcCtx
import HandS.SortInts
import HandS.Conv
import KE.KDictZip
import PyProof.ListNew
import KE.KTurns
import HandS.TupSets
import HandS.NoneIn
import KE.KStateDown
import HandS.DictTup
import HandS.MakeKwOnly
import HandS.MakeKw
import HandS.Style
import KE.KEqNest
import KE.KDictOf
import KE.DatumOrd
import KE.KDictCopyH
import PySem.Challenge.RW_hushranks_k34_whole_cycles_of_ranks
set_option Elab.async false
set_option linter.all false
set_option maxRecDepth 100000
set_option maxHeartbeats 2000000
/-! LayA: plain values, the own heap, results, and how they stand for HandS's values and heap. -/
namespace HR
open PySem L2
/-- plain values; ref: an object of the own heap; scr: a list that is only read (the script); exc: a caught exception without fields; excf: with one field; fn: a def of the text; dcl: a dict that is walked over and not changed any more -/
inductive D where
  | non | bl (b : Bool) | int (i : Int) | str (x : Str)
  | lst (xs : List D) | tup (xs : List D) | dct (kvs : List (Key × D)) | obj (C : String) (fs : List (String × D)) | ref (i : Nat) | scr (xs : List D) | exc (C : String) | excf (C f : String) (d : D) | fn (x : String) | dcl (kvs : List (Key × D))
/-- objects of the own heap; nd: a dict that holds None as a key too (ψ: how the heap tells it) -/
inductive OO where
  | lst (xs : List D) | ins (C : String) (fs : List (String × D)) | dct (kvs : List (Key × D)) | dead | nd (ψ : Addr → List (Key × V) → V → HO) (ks : List (Key × D)) (d : D)
abbrev OH := List OO
abbrev Env' := List (Option D)
abbrev Pay := Option (String × D)
inductive Res (α : Type) where
  | ok (a : α) (h : OH) | exc (C : String) (p : Pay) (h : OH) | bad
def Res.bind {α β : Type} (r : Res α) (f : α → OH → Res β) : Res β := match r with
  | .ok a h => f a h
  | .exc C p h => .exc C p h
  | .bad => .bad
@[simp] theorem Res.bind_ok {α β : Type} (a : α) (h : OH) (f : α → OH → Res β) : (Res.ok a h).bind f = f a h := rfl
@[simp] theorem Res.bind_exc {α β : Type} (C : String) (p : Pay) (h : OH) (f : α → OH → Res β) : (Res.exc C p h : Res α).bind f = .exc C p h := rfl
@[simp] theorem Res.bind_bad {α β : Type} (f : α → OH → Res β) : (Res.bad : Res α).bind f = .bad := rfl
inductive SRes where
  | nx (σ : Env') (h : OH) | rt (d : D) (h : OH) | bk (σ : Env') (h : OH) | ct (σ : Env') (h : OH) | exc (C : String) (p : Pay) (σ : Env') (h : OH) | bad
abbrev SE := Env' → OH → Res D
abbrev ST := Env' → OH → Res Bool
abbrev SA := Env' → OH → Res (List D)
abbrev SS := Env' → OH → SRes
abbrev FN := List D → OH → Res D
/-- what the class of an object must be, for its fields -/
def ObT (K : PySem.W.Frag) (C : String) (fs : List (String × D)) : Prop :=
  Cls K (He.ga K (Str.ofString C)) ∧ ∀ q ∈ fs, NoAttr K (He.ga K (Str.ofString C)) (Str.ofString q.1)
/-- a caught exception of the class cls, kept at a -/
def HexO (cls : Value) (a : Addr) : HO := .ext fun hp => ∃ (ob : Obj) (ws : Array Value), hp.get? a = some ob ∧ Zc cls none ob ∧ ob.data = .fields ws
/-- an exception of the class cls with a dict at dx, kept at a -/
def HexP (cls : Value) (dx : Addr) (a : Addr) : HO := .ext fun hp => ∃ (ob : Obj) (ws : Array Value), hp.get? a = some ob ∧ Zc cls (some dx) ob ∧ ob.data = .fields ws
theorem Same.sqT {K : PySem.W.Frag} {H H' : Hp} {a : Addr} {xs : List V} (e : Same H H') (h : SqT K H a xs) : SqT K H' a xs := by
  rcases h with (h | ⟨o, h⟩) | h
  · exact .inl (.inl (e _ _ h))
  · exact .inl (.inr ⟨o, e _ _ h⟩)
  · exact .inr h
mutual
/-- v stands for d: F the frozen part of the heap, m the addresses of the own objects -/
inductive Den (K : PySem.W.Frag) (F : Hp) (m : List Addr) : V → D → Prop
  | non : Den K F m .non .non
  | bl (b : Bool) : Den K F m (.bl b) (.bl b)
  | int (i : Int) : Den K F m (.int i) (.int i)
  | str (x : Str) : Den K F m (.str x) (.str x)
  | lst {a : Addr} {vs : List V} {ds : List D} (q : F a = some (.lst vs)) (r : DenL K F m vs ds) : Den K F m (.ref a) (.lst ds)
  | scr {a : Addr} {vs : List V} {ds : List D} (q : SqL K F a vs) (r : DenL K F m vs ds) : Den K F m (.ref a) (.scr ds)
  | tup {a : Addr} {vs : List V} {ds : List D} (q : SqT K F a vs) (r : DenL K F m vs ds) : Den K F m (.ref a) (.tup ds)
  | dct {a : Addr} {kvs : List (Key × V)} {ks : List (Key × D)} (q : F a = some (.dK kvs)) (r : DenK K F m kvs ks) : Den K F m (.ref a) (.dct ks)
  | obj {a dx : Addr} {C : String} {fv : List (Str × V)} {fs : List (String × D)} (q : F a = some (.ins (He.ga K (Str.ofString C)) dx fv)) (t : ObT K C fs) (r : DenF K F m fv fs) : Den K F m (.ref a) (.obj C fs)
  | ref {a : Addr} {i : Nat} (q : m[i]? = some a) : Den K F m (.ref a) (.ref i)
  | exc {a : Addr} {C : String} (q : Rd F a (HexO (.ref (He.ga K (Str.ofString C))) a)) : Den K F m (.ref a) (.exc C)
  | excf {a dx : Addr} {C f : String} {v : V} {d : D} (q : Rd F a (HexP (.ref (He.ga K (Str.ofString C))) dx a)) (q2 : F dx = some (.xd [(Str.ofString f, v)])) (r : Den K F m v d) : Den K F m (.ref a) (.excf C f d)
  | fn (x : String) : Den K F m (.ref (He.ga K (Str.ofString x))) (.fn x)
  | dcl {a : Addr} {o : Obj} {kvs : List (Key × V)} {ks : List (Key × D)} (q : F a = some (.frz o (.dK kvs))) (r : DenK K F m kvs ks) : Den K F m (.ref a) (.dcl ks)
inductive DenL (K : PySem.W.Frag) (F : Hp) (m : List Addr) : List V → List D → Prop
  | nil : DenL K F m [] []
  | cons {v : V} {d : D} {vs : List V} {ds : List D} (h : Den K F m v d) (t : DenL K F m vs ds) : DenL K F m (v :: vs) (d :: ds)
inductive DenK (K : PySem.W.Frag) (F : Hp) (m : List Addr) : List (Key × V) → List (Key × D) → Prop
  | nil : DenK K F m [] []
  | cons {k : Key} {v : V} {d : D} {vs : List (Key × V)} {ds : List (Key × D)} (h : Den K F m v d) (t : DenK K F m vs ds) : DenK K F m ((k, v) :: vs) ((k, d) :: ds)
inductive DenF (K : PySem.W.Frag) (F : Hp) (m : List Addr) : List (Str × V) → List (String × D) → Prop
  | nil : DenF K F m [] []
  | cons {f : String} {v : V} {d : D} {vs : List (Str × V)} {ds : List (String × D)} (h : Den K F m v d) (t : DenF K F m vs ds) : DenF K F m ((Str.ofString f, v) :: vs) ((f, d) :: ds)
end
section
variable {K : PySem.W.Frag} {F F' : Hp} {m m' : List Addr}
theorem pre_get {i : Nat} {a : Addr} (p : m <+: m') (e : m[i]? = some a) : m'[i]? = some a := by
  obtain ⟨t, rfl⟩ := p
  rw [List.getElem?_append_left (List.getElem?_eq_some_iff.mp e).1]
  exact e
/-- the frozen part grows, the own objects' list grows -/
structure Ext (F : Hp) (m : List Addr) (F' : Hp) (m' : List Addr) : Prop where
  s : Same F F'
  p : m <+: m'
theorem Ext.refl : Ext F m F m := ⟨Same.refl _, List.prefix_rfl⟩
theorem Ext.trans {F2 : Hp} {m2 : List Addr} (a : Ext F m F' m') (b : Ext F' m' F2 m2) : Ext F m F2 m2 := ⟨a.s.trans b.s, a.p.trans b.p⟩
theorem rd_same {G G' : Hp} {a : Addr} {u : HO} (x : Same G G') (q : Rd G a u) : Rd G' a u := q.imp (x _ _) fun ⟨o, z⟩ => ⟨o, x _ _ z⟩
theorem Den.mono {v : V} {d : D} (x : Ext F m F' m') (h : Den K F m v d) : Den K F' m' v d :=
  Den.rec (motive_1 := fun v d _ => Den K F' m' v d) (motive_2 := fun v d _ => DenL K F' m' v d) (motive_3 := fun v d _ => DenK K F' m' v d) (motive_4 := fun v d _ => DenF K F' m' v d)
    .non .bl .int .str (fun q _ r => .lst (x.s _ _ q) r) (fun q _ r => .scr (x.s.seq q) r) (fun q _ r => .tup (Same.sqT x.s q) r) (fun q _ r => .dct (x.s _ _ q) r) (fun q t _ r => .obj (x.s _ _ q) t r) (fun q => .ref (pre_get x.p q)) (fun q => .exc (rd_same x.s q)) (fun q q2 _ r => .excf (rd_same x.s q) (x.s _ _ q2) r) .fn (fun q _ r => .dcl (x.s _ _ q) r)
    .nil (fun _ _ a b => .cons a b) .nil (fun _ _ a b => .cons a b) .nil (fun _ _ a b => .cons a b) h
theorem DenL.mono (x : Ext F m F' m') : ∀ {vs : List V} {ds : List D}, DenL K F m vs ds → DenL K F' m' vs ds
  | _, _, .nil => .nil
  | _, _, .cons h t => .cons (h.mono x) (DenL.mono x t)
theorem DenK.mono (x : Ext F m F' m') : ∀ {vs : List (Key × V)} {ds : List (Key × D)}, DenK K F m vs ds → DenK K F' m' vs ds
  | _, _, .nil => .nil
  | _, _, .cons h t => .cons (h.mono x) (DenK.mono x t)
theorem DenF.mono (x : Ext F m F' m') : ∀ {vs : List (Str × V)} {ds : List (String × D)}, DenF K F m vs ds → DenF K F' m' vs ds
  | _, _, .nil => .nil
  | _, _, .cons h t => .cons (h.mono x) (DenF.mono x t)
theorem DenL.length : ∀ {vs : List V} {ds : List D}, DenL K F m vs ds → vs.length = ds.length
  | _, _, .nil => rfl
  | _, _, .cons _ t => by rw [List.length_cons, List.length_cons, DenL.length t]
theorem DenL.get : ∀ {vs : List V} {ds : List D} {i : Nat} {d : D}, DenL K F m vs ds → ds[i]? = some d → ∃ v, vs[i]? = some v ∧ Den K F m v d
  | _, _, _, _, .nil, e => by simp at e
  | _, _, 0, _, .cons h _, e => by
    simp at e
    subst e
    exact ⟨_, by simp, h⟩
  | _, _, i + 1, d, .cons _ t, e => by
    obtain ⟨v, e1, r⟩ := DenL.get (i := i) (d := d) t (by simpa using e)
    exact ⟨v, by simpa using e1, r⟩
theorem DenL.getV : ∀ {vs : List V} {ds : List D} {i : Nat} {v : V}, DenL K F m vs ds → vs[i]? = some v → ∃ d, ds[i]? = some d ∧ Den K F m v d
  | _, _, _, _, .nil, e => by simp at e
  | _, _, 0, _, .cons h _, e => by
    simp at e
    subst e
    exact ⟨_, by simp, h⟩
  | _, _, i + 1, v, .cons _ t, e => by
    obtain ⟨d, e1, r⟩ := DenL.getV (i := i) (v := v) t (by simpa using e)
    exact ⟨d, by simpa using e1, r⟩
theorem DenL.append : ∀ {vs ws : List V} {ds es : List D}, DenL K F m vs ds → DenL K F m ws es → DenL K F m (vs ++ ws) (ds ++ es)
  | _, _, _, _, .nil, s => s
  | _, _, _, _, .cons h t, s => .cons h (DenL.append t s)
theorem DenL.take : ∀ {vs : List V} {ds : List D} (n : Nat), DenL K F m vs ds → DenL K F m (vs.take n) (ds.take n)
  | _, _, 0, _ => .nil
  | _, _, _ + 1, .nil => .nil
  | _, _, n + 1, .cons h t => .cons h (DenL.take n t)
theorem DenL.drop : ∀ {vs : List V} {ds : List D} (n : Nat), DenL K F m vs ds → DenL K F m (vs.drop n) (ds.drop n)
  | _, _, 0, r => r
  | _, _, _ + 1, .nil => .nil
  | _, _, n + 1, .cons _ t => DenL.drop n t
theorem DenL.set {v : V} {d : D} (r : Den K F m v d) : ∀ {vs : List V} {ds : List D} (i : Nat), DenL K F m vs ds → DenL K F m (vs.set i v) (ds.set i d)
  | _, _, _, .nil => .nil
  | _, _, 0, .cons _ t => .cons r t
  | _, _, i + 1, .cons h t => .cons h (DenL.set r i t)
theorem DenL.eraseIdx : ∀ {vs : List V} {ds : List D} (i : Nat), DenL K F m vs ds → DenL K F m (vs.eraseIdx i) (ds.eraseIdx i)
  | _, _, _, .nil => .nil
  | _, _, 0, .cons _ t => t
  | _, _, i + 1, .cons h t => .cons h (DenL.eraseIdx i t)
theorem DenL.rep {vs : List V} {ds : List D} (h : DenL K F m vs ds) : ∀ k : Nat, DenL K F m (List.replicate k vs).flatten (List.replicate k ds).flatten
  | 0 => .nil
  | k + 1 => by
    rw [List.replicate_succ, List.replicate_succ, List.flatten_cons, List.flatten_cons]
    exact h.append (h.rep k)
theorem DenL.ints : ∀ (ns : List Int), DenL K F m (ns.map V.int) (ns.map D.int)
  | [] => .nil
  | n :: ns => .cons (.int n) (DenL.ints ns)
/-- what stands at an own object's address -/
def OOk (K : PySem.W.Frag) (F : Hp) (m : List Addr) (H : Hp) (a : Addr) : OO → Prop
  | .lst xs => ∃ vs, H a = some (.lst vs) ∧ DenL K F m vs xs ∧ F a = none
  | .ins C fs => ∃ dx fv, H a = some (.ins (He.ga K (Str.ofString C)) dx fv) ∧ ObT K C fs ∧ DenF K F m fv fs ∧ F a = none
  | .dct kvs => ∃ ks, H a = some (.dK ks) ∧ DenK K F m ks kvs ∧ F a = none
  | .dead => True
  | .nd ψ ks d => ∃ kvs v, H a = some (ψ a kvs v) ∧ DenK K F m kvs ks ∧ Den K F m v d ∧ F a = none
abbrev Pins := List (Addr × HO)
/-- the own heap h stands in H; P: hidden objects, which stay -/
structure Sim (K : PySem.W.Frag) (P : Pins) (F : Hp) (m : List Addr) (h : OH) (H : Hp) : Prop where
  sub : Same F H
  len : m.length = h.length
  nd : m.Nodup
  live : ∀ a ∈ m, ∃ o, H a = some o
  at_ : ∀ (i : Nat) (a : Addr) (o : OO), m[i]? = some a → h[i]? = some o → OOk K F m H a o
  pin : ∀ p ∈ P, H p.1 = some p.2 ∧ F p.1 = none ∧ p.1 ∉ m
  pnd : (P.map (·.1)).Nodup
theorem OOk.mono {H H' : Hp} {a : Addr} {o : OO} (x : Ext F m F' m') (e : H' a = H a) (f : F a = none → F' a = none) (h : OOk K F m H a o) : OOk K F' m' H' a o := by
  cases o with
  | lst xs =>
    obtain ⟨vs, h1, h2, h3⟩ := h
    exact ⟨vs, e.trans h1, h2.mono x, f h3⟩
  | ins C fs =>
    obtain ⟨dx, fv, h1, h2, h3, h4⟩ := h
    exact ⟨dx, fv, e.trans h1, h2, h3.mono x, f h4⟩
  | dct kvs =>
    obtain ⟨ks, h1, h2, h3⟩ := h
    exact ⟨ks, e.trans h1, h2.mono x, f h3⟩
  | dead => trivial
  | nd ψ ks d =>
    obtain ⟨kvs, v, h1, h2, h3, h4⟩ := h
    exact ⟨kvs, v, e.trans h1, h2.mono x, h3.mono x, f h4⟩
end
section
variable {K : PySem.W.Frag} {P : Pins} {F : Hp} {m : List Addr} {h : OH} {H : Hp}
theorem nodup_at {i j : Nat} {a : Addr} (hn : m.Nodup) (e1 : m[i]? = some a) (e2 : m[j]? = some a) : i = j := by
  obtain ⟨h1, q1⟩ := List.getElem?_eq_some_iff.mp e1
  obtain ⟨h2, q2⟩ := List.getElem?_eq_some_iff.mp e2
  exact (List.getElem_inj hn).mp (q1.trans q2.symm)
theorem Sim.notMem (S : Sim K P F m h H) {p : Addr} (hp : H p = none) : p ∉ m := fun z => by
  obtain ⟨o, e⟩ := S.live p z
  rw [hp] at e
  cases e
theorem Sim.free (S : Sim K P F m h H) {p : Addr} (hp : H p = none) : F p = none := S.sub.free hp
theorem Sim.notPin (S : Sim K P F m h H) {p : Addr} (hp : H p = none) : ∀ q ∈ P, q.1 ≠ p := fun q hq z => by
  have e := (S.pin q hq).1
  rw [z, hp] at e
  cases e
theorem same_new {p : Addr} {o : HO} (hp : H p = none) : Same H (upd H p o) := fun b u e => by
  rw [upd_ne (ne_of_none e hp)]
  exact e
/-- what is laid and stays out of sight -/
theorem Sim.other (S : Sim K P F m h H) {p : Addr} {o : HO} (hp : H p = none) : Sim K P F m h (upd H p o) where
  sub := S.sub.trans (same_new hp)
  len := S.len
  nd := S.nd
  live := fun a ha => let ⟨u, e⟩ := S.live a ha; ⟨u, same_new hp _ _ e⟩
  at_ := fun i a u e1 e2 => (S.at_ i a u e1 e2).mono .refl (upd_ne fun z => S.notMem hp (z ▸ List.mem_of_getElem? e1)) id
  pin := fun q hq => ⟨same_new hp _ _ (S.pin q hq).1, (S.pin q hq).2⟩
  pnd := S.pnd
/-- a new frozen object -/
theorem Sim.frozen (S : Sim K P F m h H) {p : Addr} {o : HO} (hp : H p = none) : Sim K P (upd F p o) m h (upd H p o) := by
  have x : Ext F m (upd F p o) m := ⟨same_new (S.free hp), List.prefix_rfl⟩
  refine ⟨fun b u e => ?_, S.len, S.nd, (S.other hp).live, fun i a u e1 e2 => ?_, fun q hq => ?_, S.pnd⟩
  · by_cases hb : b = p
    · subst hb
      rw [upd_same] at e ⊢
      exact e
    · rw [upd_ne hb] at e ⊢
      exact S.sub b u e
  · have ne : a ≠ p := fun z => S.notMem hp (z ▸ List.mem_of_getElem? e1)
    exact (S.at_ i a u e1 e2).mono x (upd_ne ne) fun z => (upd_ne ne).trans z
  · have ne : q.1 ≠ p := S.notPin hp q hq
    exact ⟨same_new hp _ _ (S.pin q hq).1, (upd_ne ne).trans (S.pin q hq).2.1, (S.pin q hq).2.2⟩
theorem Sim.extF (S : Sim K P F m h H) {p : Addr} {o : HO} (hp : H p = none) : Ext F m (upd F p o) m := ⟨same_new (S.free hp), List.prefix_rfl⟩
theorem ext_new {a : Addr} : Ext F m F (m ++ [a]) := ⟨Same.refl _, List.prefix_append _ _⟩
/-- a new own object -/
theorem Sim.alloc (S : Sim K P F m h H) {p : Addr} {ho : HO} {o : OO} (hp : H p = none) (ok : OOk K F (m ++ [p]) (upd H p ho) p o) : Sim K P F (m ++ [p]) (h ++ [o]) (upd H p ho) where
  sub := (S.other hp).sub
  len := by simp [S.len]
  nd := List.nodup_append.mpr ⟨S.nd, by simp, fun a ha b hb => by
    rw [List.mem_singleton] at hb
    subst hb
    exact fun z => S.notMem hp (z ▸ ha)⟩
  live := fun a ha => by
    rcases List.mem_append.mp ha with ha | ha
    · exact (S.other hp).live a ha
    · rw [List.mem_singleton] at ha
      subst ha
      exact ⟨_, upd_same⟩
  at_ := fun i a u e1 e2 => by
    by_cases hi : i < m.length
    · rw [List.getElem?_append_left hi] at e1
      rw [List.getElem?_append_left (by rw [← S.len]; exact hi)] at e2
      exact (S.at_ i a u e1 e2).mono ext_new (upd_ne fun z => S.notMem hp (z ▸ List.mem_of_getElem? e1)) id
    · have hi2 : i = m.length := by
        have := (List.getElem?_eq_some_iff.mp e1).1
        simp at this
        omega
      subst hi2
      rw [S.len] at e2
      simp at e1 e2
      subst e1 e2
      exact ok
  pin := fun q hq => by
    obtain ⟨h1, h2, h3⟩ := (S.other (o := ho) hp).pin q hq
    refine ⟨h1, h2, fun z => ?_⟩
    rcases List.mem_append.mp z with z | z
    · exact h3 z
    · rw [List.mem_singleton] at z
      exact S.notPin hp q hq z
  pnd := S.pnd
/-- an own object is written -/
theorem Sim.write (S : Sim K P F m h H) {i : Nat} {a : Addr} {ho : HO} {o o' : OO} (e : m[i]? = some a) (e2 : h[i]? = some o') (nf : F a = none) (ok : OOk K F m (upd H a ho) a o) : Sim K P F m (h.set i o) (upd H a ho) where
  sub := fun b u q => by
    have ne : b ≠ a := fun z => by
      rw [z, nf] at q
      cases q
    rw [upd_ne ne]
    exact S.sub b u q
  len := by simp [S.len]
  nd := S.nd
  live := fun b hb => by
    by_cases hba : b = a
    · subst hba
      exact ⟨_, upd_same⟩
    · obtain ⟨u, q⟩ := S.live b hb
      exact ⟨u, (upd_ne hba).trans q⟩
  at_ := fun j b u q1 q2 => by
    by_cases hji : j = i
    · subst hji
      rw [e] at q1
      cases q1
      rw [List.getElem?_set_self (List.getElem?_eq_some_iff.mp e2).1] at q2
      cases q2
      exact ok
    · rw [List.getElem?_set_ne (Ne.symm hji)] at q2
      exact (S.at_ j b u q1 q2).mono .refl (upd_ne fun z => hji (nodup_at S.nd (z ▸ q1) e)) id
  pin := fun q hq => by
    obtain ⟨h1, h2, h3⟩ := S.pin q hq
    exact ⟨(upd_ne fun z => h3 (by rw [z]; exact List.mem_of_getElem? e)).trans h1, h2, h3⟩
  pnd := S.pnd
/-- an own object is frozen -/
theorem Sim.freeze (S : Sim K P F m h H) {i : Nat} {a : Addr} {ho : HO} (e : m[i]? = some a) (nf : F a = none) (he : H a = some ho) : Sim K P (upd F a ho) m (h.set i .dead) H := by
  have x : Ext F m (upd F a ho) m := ⟨same_new nf, List.prefix_rfl⟩
  refine ⟨fun b u q => ?_, by simp [S.len], S.nd, S.live, fun j b u q1 q2 => ?_, fun q hq => ?_, S.pnd⟩
  · by_cases hb : b = a
    · subst hb
      rw [upd_same] at q
      cases q
      exact he
    · rw [upd_ne hb] at q
      exact S.sub b u q
  · by_cases hji : j = i
    · subst hji
      rw [List.getElem?_set] at q2
      simp at q2
      obtain ⟨_, q2⟩ := q2
      subst q2
      trivial
    · rw [List.getElem?_set_ne (Ne.symm hji)] at q2
      have ne : b ≠ a := fun z => hji (nodup_at S.nd (z ▸ q1) e)
      exact (S.at_ j b u q1 q2).mono x rfl fun z => (upd_ne ne).trans z
  · obtain ⟨h1, h2, h3⟩ := S.pin q hq
    exact ⟨h1, (upd_ne fun z => h3 (by rw [z]; exact List.mem_of_getElem? e)).trans h2, h3⟩
theorem ext_frz {a : Addr} {ho : HO} (nf : F a = none) : Ext F m (upd F a ho) m := ⟨same_new nf, List.prefix_rfl⟩
/-- a new hidden object -/
theorem Sim.hid (S : Sim K P F m h H) {p : Addr} {o : HO} (hp : H p = none) : Sim K ((p, o) :: P) F m h (upd H p o) := by
  have S2 := S.other (o := o) hp
  refine ⟨S2.sub, S2.len, S2.nd, S2.live, S2.at_, fun q hq => ?_, ?_⟩
  · rcases List.mem_cons.mp hq with rfl | hq
    · exact ⟨upd_same, S.free hp, S.notMem hp⟩
    · exact S2.pin q hq
  · rw [List.map_cons, List.nodup_cons]
    refine ⟨fun z => ?_, S.pnd⟩
    obtain ⟨q, hq, e⟩ := List.mem_map.mp z
    exact S.notPin hp q hq e
/-- a hidden object is written -/
theorem Sim.hidSet {p : Addr} {o o' : HO} (S : Sim K ((p, o) :: P) F m h H) : Sim K ((p, o') :: P) F m h (upd H p o') := by
  obtain ⟨h1, h2, h3⟩ := S.pin (p, o) List.mem_cons_self
  have nm : ∀ a, a ∈ m → a ≠ p := fun a ha z => h3 (z ▸ ha)
  have pn := S.pnd
  rw [List.map_cons, List.nodup_cons] at pn
  refine ⟨fun b u q => ?_, S.len, S.nd, fun a ha => ?_, fun i a u e1 e2 => ?_, fun q hq => ?_, by rw [List.map_cons, List.nodup_cons]; exact pn⟩
  · have ne : b ≠ p := fun z => by
      rw [z, h2] at q
      cases q
    rw [upd_ne ne]
    exact S.sub b u q
  · obtain ⟨u, q⟩ := S.live a ha
    exact ⟨u, (upd_ne (nm a ha)).trans q⟩
  · exact (S.at_ i a u e1 e2).mono .refl (upd_ne (nm a (List.mem_of_getElem? e1))) id
  · rcases List.mem_cons.mp hq with rfl | hq
    · exact ⟨upd_same, h2, h3⟩
    · obtain ⟨q1, q2, q3⟩ := S.pin q (List.mem_cons_of_mem _ hq)
      have ne : q.1 ≠ p := fun z => pn.1 (List.mem_map.mpr ⟨q, hq, z⟩)
      exact ⟨(upd_ne ne).trans q1, q2, q3⟩
/-- a hidden object is frozen -/
theorem Sim.hidFrz {p : Addr} {o : HO} (S : Sim K ((p, o) :: P) F m h H) : Sim K P (upd F p o) m h H := by
  obtain ⟨h1, h2, h3⟩ := S.pin (p, o) List.mem_cons_self
  have x : Ext F m (upd F p o) m := ext_frz h2
  have pn := S.pnd
  rw [List.map_cons, List.nodup_cons] at pn
  refine ⟨fun b u q => ?_, S.len, S.nd, S.live, fun i a u e1 e2 => ?_, fun q hq => ?_, pn.2⟩
  · by_cases hb : b = p
    · subst hb
      rw [upd_same] at q
      cases q
      exact h1
    · rw [upd_ne hb] at q
      exact S.sub b u q
  · have ne : a ≠ p := fun z => h3 (z ▸ List.mem_of_getElem? e1)
    exact (S.at_ i a u e1 e2).mono x rfl fun z => (upd_ne ne).trans z
  · obtain ⟨q1, q2, q3⟩ := S.pin q (List.mem_cons_of_mem _ hq)
    have ne : q.1 ≠ p := fun z => pn.1 (List.mem_map.mpr ⟨q, hq, z⟩)
    exact ⟨q1, (upd_ne ne).trans q2, q3⟩
/-- a hidden list becomes an own object -/
theorem Sim.hidOwn {p : Addr} {vs : List V} {xs : List D} (S : Sim K ((p, .lst vs) :: P) F m h H) (r : DenL K F m vs xs) : Sim K P F (m ++ [p]) (h ++ [.lst xs]) H := by
  obtain ⟨h1, h2, h3⟩ := S.pin (p, .lst vs) List.mem_cons_self
  have pn := S.pnd
  rw [List.map_cons, List.nodup_cons] at pn
  refine ⟨S.sub, by simp [S.len], ?_, fun a ha => ?_, fun i a u e1 e2 => ?_, fun q hq => ?_, pn.2⟩
  · refine List.nodup_append.mpr ⟨S.nd, by simp, fun a ha b hb => ?_⟩
    rw [List.mem_singleton] at hb
    subst hb
    exact fun z => h3 (z ▸ ha)
  · rcases List.mem_append.mp ha with ha | ha
    · exact S.live a ha
    · rw [List.mem_singleton] at ha
      subst ha
      exact ⟨_, h1⟩
  · by_cases hi : i < m.length
    · rw [List.getElem?_append_left hi] at e1
      rw [List.getElem?_append_left (by rw [← S.len]; exact hi)] at e2
      exact (S.at_ i a u e1 e2).mono ext_new rfl id
    · have hi2 : i = m.length := by
        have := (List.getElem?_eq_some_iff.mp e1).1
        simp at this
        omega
      subst hi2
      rw [S.len] at e2
      simp at e1 e2
      subst e1 e2
      exact ⟨vs, h1, r.mono ext_new, h2⟩
  · obtain ⟨q1, q2, q3⟩ := S.pin q (List.mem_cons_of_mem _ hq)
    refine ⟨q1, q2, fun z => ?_⟩
    rcases List.mem_append.mp z with z | z
    · exact q3 z
    · rw [List.mem_singleton] at z
      exact pn.1 (List.mem_map.mpr ⟨q, hq, z⟩)
/-- the whole own heap hidden, for a call that sees nothing of it -/
def hidP (F : Hp) (m : List Addr) (H : Hp) : Pins := m.filterMap fun a => if (F a).isNone then (H a).map fun o => (a, o) else none
theorem mem_hidP {q : Addr × HO} : q ∈ hidP F m H ↔ q.1 ∈ m ∧ F q.1 = none ∧ H q.1 = some q.2 := by
  unfold hidP
  rw [List.mem_filterMap]
  constructor
  · rintro ⟨a, ha, e⟩
    split at e
    · rename_i hf
      obtain ⟨o, ho, e2⟩ := Option.map_eq_some_iff.mp e
      subst e2
      exact ⟨ha, by simpa using hf, ho⟩
    · cases e
  · rintro ⟨h1, h2, h3⟩
    exact ⟨q.1, h1, by simp [h2, h3]⟩
theorem hidP_nodup : ∀ {m : List Addr}, m.Nodup → ((hidP F m H).map (·.1)).Nodup
  | [], _ => by simp [hidP]
  | a :: m, hn => by
    rw [List.nodup_cons] at hn
    have ih := hidP_nodup hn.2
    have key : hidP F (a :: m) H = (if (F a).isNone then (H a).map fun o => (a, o) else none).toList ++ hidP F m H := by
      unfold hidP
      rw [List.filterMap_cons]
      split <;> rename_i e <;> rw [e] <;> rfl
    rw [key]
    split
    · cases e : H a with
      | none => simpa using ih
      | some o =>
        simp only [Option.map_some, Option.toList_some, List.singleton_append, List.map_cons, List.nodup_cons]
        refine ⟨fun z => ?_, ih⟩
        obtain ⟨q, hq, e2⟩ := List.mem_map.mp z
        exact hn.1 (e2 ▸ (mem_hidP.mp hq).1)
    · simpa using ih
theorem Sim.hide (S : Sim K P F m h H) : Sim K (hidP F m H ++ P) F [] [] H where
  sub := S.sub
  len := rfl
  nd := List.nodup_nil
  live := fun _ z => by simp at z
  at_ := fun _ _ _ z => by simp at z
  pin := fun q hq => by
    rcases List.mem_append.mp hq with hq | hq
    · obtain ⟨_, h2, h3⟩ := mem_hidP.mp hq
      exact ⟨h3, h2, by simp⟩
    · exact ⟨(S.pin q hq).1, (S.pin q hq).2.1, by simp⟩
  pnd := by
    rw [List.map_append]
    refine List.nodup_append.mpr ⟨hidP_nodup S.nd, S.pnd, fun a ha b hb z => ?_⟩
    obtain ⟨q, hq, e⟩ := List.mem_map.mp ha
    obtain ⟨r, hr, e2⟩ := List.mem_map.mp hb
    exact (S.pin r hr).2.2 (by rw [e2, ← z, ← e]; exact (mem_hidP.mp hq).1)
theorem Sim.unhide {F' : Hp} {m' : List Addr} {h' : OH} {H' : Hp} (S : Sim K P F m h H) (s : Same F F') (S' : Sim K (hidP F m H ++ P) F' m' h' H') : Sim K P F' m h H' where
  sub := S'.sub
  len := S.len
  nd := S.nd
  live := fun a ha => by
    cases e : F a with
    | some o => exact ⟨o, S'.sub a o (s a o e)⟩
    | none =>
      obtain ⟨o, q⟩ := S.live a ha
      exact ⟨o, (S'.pin (a, o) (List.mem_append_left _ (mem_hidP.mpr ⟨ha, e, q⟩))).1⟩
  at_ := fun i a o e1 e2 => by
    have ha := List.mem_of_getElem? e1
    have key : ∀ u, H a = some u → F a = none → H' a = some u ∧ F' a = none := fun u q z =>
      let t := S'.pin (a, u) (List.mem_append_left _ (mem_hidP.mpr ⟨ha, z, q⟩)); ⟨t.1, t.2.1⟩
    have x : Ext F m F' m := ⟨s, List.prefix_rfl⟩
    have ok := S.at_ i a o e1 e2
    cases o with
    | lst xs =>
      obtain ⟨vs, h1, h2, h3⟩ := ok
      obtain ⟨k1, k2⟩ := key _ h1 h3
      exact ⟨vs, k1, h2.mono x, k2⟩
    | ins C fs =>
      obtain ⟨dx, fv, h1, h2, h3, h4⟩ := ok
      obtain ⟨k1, k2⟩ := key _ h1 h4
      exact ⟨dx, fv, k1, h2, h3.mono x, k2⟩
    | dct kvs =>
      obtain ⟨ks, h1, h2, h3⟩ := ok
      obtain ⟨k1, k2⟩ := key _ h1 h3
      exact ⟨ks, k1, h2.mono x, k2⟩
    | dead => trivial
    | nd ψ ks d =>
      obtain ⟨kvs, v, h1, h2, h3, h4⟩ := ok
      obtain ⟨k1, k2⟩ := key _ h1 h4
      exact ⟨kvs, v, k1, h2.mono x, h3.mono x, k2⟩
  pin := fun q hq => by
    obtain ⟨h1, h2, _⟩ := S'.pin q (List.mem_append_right _ hq)
    exact ⟨h1, h2, (S.pin q hq).2.2⟩
  pnd := S.pnd
end
/-! ### values without own objects -/
mutual
def D.pure : D → Bool
  | .non | .bl _ | .int _ | .str _ => true
  | .lst xs | .tup xs | .scr xs => D.pureL xs
  | .dct kvs => D.pureK kvs
  | .obj _ fs => D.pureF fs
  | .ref _ => false
  | .exc _ => true
  | .excf _ _ d => d.pure
  | .fn _ => true
  | .dcl kvs => D.pureK kvs
def D.pureL : List D → Bool
  | [] => true
  | x :: xs => x.pure && D.pureL xs
def D.pureK : List (Key × D) → Bool
  | [] => true
  | x :: xs => x.2.pure && D.pureK xs
def D.pureF : List (String × D) → Bool
  | [] => true
  | x :: xs => x.2.pure && D.pureF xs
end
theorem and2 {a b : Bool} (h : (a && b) = true) : a = true ∧ b = true := Bool.and_eq_true_iff.mp h
theorem Den.pureM {K : PySem.W.Frag} {F : Hp} {m m' : List Addr} {v : V} {d : D} (h : Den K F m v d) : d.pure = true → Den K F m' v d :=
  Den.rec (motive_1 := fun v d _ => d.pure = true → Den K F m' v d) (motive_2 := fun v d _ => D.pureL d = true → DenL K F m' v d) (motive_3 := fun v d _ => D.pureK d = true → DenK K F m' v d) (motive_4 := fun v d _ => D.pureF d = true → DenF K F m' v d)
    (fun _ => .non) (fun b _ => .bl b) (fun i _ => .int i) (fun x _ => .str x)
    (fun q _ r e => .lst q (r (by simpa [D.pure] using e))) (fun q _ r e => .scr q (r (by simpa [D.pure] using e))) (fun q _ r e => .tup q (r (by simpa [D.pure] using e))) (fun q _ r e => .dct q (r (by simpa [D.pure] using e))) (fun q t _ r e => .obj q t (r (by simpa [D.pure] using e)))
    (fun _ e => by simp [D.pure] at e) (fun q _ => .exc q) (fun q q2 _ r e => .excf q q2 (r (by simpa [D.pure] using e))) (fun x _ => .fn x) (fun q _ r e => .dcl q (r (by simpa [D.pure] using e)))
    (fun _ => .nil) (fun _ _ a b e => by
      have e' := and2 (by simpa only [D.pureL] using e)
      exact .cons (a e'.1) (b e'.2))
    (fun _ => .nil) (fun _ _ a b e => by
      have e' := and2 (by simpa only [D.pureK] using e)
      exact .cons (a e'.1) (b e'.2))
    (fun _ => .nil) (fun _ _ a b e => by
      have e' := and2 (by simpa only [D.pureF] using e)
      exact .cons (a e'.1) (b e'.2)) h
theorem DenL.pureM {K : PySem.W.Frag} {F : Hp} {m m' : List Addr} : ∀ {vs : List V} {ds : List D}, DenL K F m vs ds → D.pureL ds = true → DenL K F m' vs ds
  | _, _, .nil, _ => .nil
  | _, _, .cons h t, e => by
    have e' := and2 (by simpa only [D.pureL] using e)
    exact .cons (h.pureM e'.1) (DenL.pureM t e'.2)
end HR
set_option Elab.async false
set_option linter.all false
set_option maxRecDepth 100000
set_option maxHeartbeats 2000000
/-! LayB: the judgements over plain functions; names, constants, operators, displays. -/
namespace HR
open PySem L2
/-- an exception's own dict -/
def PayD (K : PySem.W.Frag) (F : Hp) (m : List Addr) : Pay → Option Addr → Prop
  | none, od => od = none
  | some q, od => ∃ a v, od = some a ∧ F a = some (.xd [(Str.ofString q.1, v)]) ∧ Den K F m v q.2
/-- the slots -/
structure EnvR (K : PySem.W.Frag) (F : Hp) (m : List Addr) (σ : St) (e : Env') : Prop where
  len : σ.length = e.length
  at_ : ∀ (i : Nat) (d : D), e[i]? = some (some d) → ∃ v, σ[i]? = some (some v) ∧ Den K F m v d
abbrev Rel (β α : Type) := Hp → List Addr → β → α → Prop
def FinG {α β : Type} (K : PySem.W.Frag) (P : Pins) (W : WX) (σ : St) (rel : Rel β α) (Q : β → Hp → Prop) (F : Hp) (m : List Addr) : Res α → Prop
  | .ok d h' => ∀ v F' m' H', Ext F m F' m' → Sim K P F' m' h' H' → rel F' m' v d → Q v H'
  | .exc C p h' => ∀ od F' m' H', Ext F m F' m' → Sim K P F' m' h' H' → PayD K F' m' p od → W (.ref (He.ga K (Str.ofString C))) od σ H'
  | .bad => False
/-- the reading of a plain function -/
def rdG {α β : Type} (K : PySem.W.Frag) (W : WX) (rel : Rel β α) (f : Env' → OH → Res α) (σ : St) (H : Hp) (Q : β → Hp → Prop) : Prop :=
  ∃ P F m e h, Sim K P F m h H ∧ EnvR K F m σ e ∧ FinG K P W σ rel Q F m (f e h)
abbrev relB : Rel Bool Bool := fun _ _ b c => b = c
abbrev DE (X : Cx) (W : WX) (e : Expr) (f : SE) : Prop := PE X e (rdG X.K W (Den X.K) f)
abbrev DT (X : Cx) (W : WX) (e : Expr) (f : ST) : Prop := PT X e (rdG X.K W relB f)
abbrev DW (X : Cx) (W : WX) (e : Expr) (f : ST) : Prop := PW X e (rdG X.K W relB f)
abbrev DA (X : Cx) (W : WX) (es : List Expr) (f : SA) : Prop := PA X es (rdG X.K W (DenL X.K) f)
section
variable {K : PySem.W.Frag} {P : Pins} {W : WX} {σ : St} {F F' : Hp} {m m' : List Addr} {h : OH} {H : Hp} {e : Env'}
theorem EnvR.mono (x : Ext F m F' m') (E : EnvR K F m σ e) : EnvR K F' m' σ e :=
  ⟨E.len, fun i d q => let ⟨v, a, b⟩ := E.at_ i d q; ⟨v, a, b.mono x⟩⟩
theorem FinG.weak {α β : Type} {rel : Rel β α} {Q : β → Hp → Prop} (x : Ext F m F' m') : ∀ {r : Res α}, FinG K P W σ rel Q F m r → FinG K P W σ rel Q F' m' r
  | .ok _ _, q => fun v F2 m2 H2 y S d => q v F2 m2 H2 (x.trans y) S d
  | .exc _ _ _, q => fun od F2 m2 H2 y S d => q od F2 m2 H2 (x.trans y) S d
  | .bad, q => q
theorem FinG.ok {α β : Type} {rel : Rel β α} {Q : β → Hp → Prop} {a : α} {v : β} (q : FinG K P W σ rel Q F m (.ok a h)) (S : Sim K P F m h H) (r : rel F m v a) : Q v H := q v F m H .refl S r
theorem FinG.okX {α β : Type} {rel : Rel β α} {Q : β → Hp → Prop} {a : α} {v : β} (q : FinG K P W σ rel Q F m (.ok a h)) (x : Ext F m F' m') (S : Sim K P F' m' h H) (r : rel F' m' v a) : Q v H := q v F' m' H x S r
/-- one step -/
theorem rd_seq {α β γ δ : Type} {rel1 : Rel β α} {rel2 : Rel δ γ} {f : Env' → OH → Res α} {g : α → OH → Res γ} {Q : δ → Hp → Prop} {R : β → Hp → Prop} (S : Sim K P F m h H) (E : EnvR K F m σ e)
    (fin : FinG K P W σ rel2 Q F m ((f e h).bind g))
    (k : ∀ F' m' h' H' v a, Ext F m F' m' → Sim K P F' m' h' H' → EnvR K F' m' σ e → rel1 F' m' v a → FinG K P W σ rel2 Q F' m' (g a h') → R v H') : rdG K W rel1 f σ H R := by
  refine ⟨P, F, m, e, h, S, E, ?_⟩
  cases q : f e h with
  | ok a h1 =>
    rw [q] at fin
    exact fun v F1 m1 H1 x S1 r => k F1 m1 h1 H1 v a x S1 (E.mono x) r (FinG.weak x fin)
  | exc C p h1 =>
    rw [q] at fin
    exact fin
  | bad =>
    rw [q] at fin
    exact fin.elim
end
section
variable {X : Cx} {W : WX}
theorem PE.of {e : Expr} {t t' : TE} (h : PE X e t) (w : ∀ σ H Q, t' σ H Q → t σ H Q) : PE X e t' := ⟨fun pins s σ H Q I q => h.run pins s σ H Q I (w σ H Q q)⟩
theorem PT.of {e : Expr} {t t' : TT} (h : PT X e t) (w : ∀ σ H Q, t' σ H Q → t σ H Q) : PT X e t' := ⟨fun pins s σ H Q I q => h.run pins s σ H Q I (w σ H Q q)⟩
theorem PA.of {es : List Expr} {t t' : TA} (h : PA X es t) (w : ∀ σ H Q, t' σ H Q → t σ H Q) : PA X es t' := ⟨fun pos pins s σ H Q I q => h.run pos pins s σ H Q I (w σ H Q q)⟩
/-! ### names, constants -/
def sVar (i : Nat) : SE := fun e h => match e[i]? with
  | some (some d) => .ok d h
  | _ => .bad
def sC (d : D) : SE := fun _ h => .ok d h
theorem de_of_var {x : Expr} {i : Nat} (hx : PE X x (tVar i)) : DE X W x (sVar i) := PE.of hx fun σ H Q => by
  rintro ⟨P, F, m, e, h, S, E, fin⟩
  unfold sVar at fin
  cases q : e[i]? with
  | none => rw [q] at fin; exact fin.elim
  | some o =>
    cases o with
    | none => rw [q] at fin; exact fin.elim
    | some d =>
      rw [q] at fin
      obtain ⟨v, e1, r⟩ := E.at_ i d q
      exact ⟨v, e1, fin.ok S r⟩
theorem de_var (i : Nat) {x : Str} {pos : Pos} (hN : X.N[i]? = some x := by rfl) (hv : Vis X.env.scope x := by first | exact Or.inl rfl | exact Or.inr (Or.inl rfl) | exact Or.inr (Or.inr rfl)) (hd : (x == ("__debug__" : Str)) = false := by decide)
    (hcd : (x == ("__classdict__" : Str)) = false := by decide) : DE X W (.Name x pos) (sVar i) := de_of_var (pe_var hN hv hd hcd)
theorem de_of_const {x : Expr} {v : V} {d : D} (hx : PE X x (tC v)) (r : ∀ F m, Den X.K F m v d) : DE X W x (sC d) := PE.of hx fun σ H Q => by
  rintro ⟨P, F, m, e, h, S, E, fin⟩
  exact fin.ok S (r F m)
theorem de_int {i : Int} {j : Nat} {pos : Pos} : DE X W (.Constant (.int i) j pos) (sC (.int i)) := de_of_const pe_int fun _ _ => .int i
theorem de_bl {b : Bool} {j : Nat} {pos : Pos} : DE X W (.Constant (.bool b) j pos) (sC (.bl b)) := de_of_const pe_bl fun _ _ => .bl b
theorem de_non {j : Nat} {pos : Pos} : DE X W (.Constant .none j pos) (sC .non) := de_of_const pe_non fun _ _ => .non
theorem de_str {x : Str} {j : Nat} {pos : Pos} : DE X W (.Constant (.str x) j pos) (sC (.str x)) := de_of_const pe_str fun _ _ => .str x
theorem de_globI {x : Str} {i : Int} {pos : Pos} (hg : Gl X x) (hm : ∃ t, X.mg x = some (.int i t)) (hd : (x == ("__debug__" : Str)) = false := by decide) : DE X W (.Name x pos) (sC (.int i)) := by
  obtain ⟨t, e⟩ := hm
  exact de_of_const (pe_glob (v := .int i) hg e ⟨t, rfl⟩ hd) fun _ _ => .int i
theorem de_globS {x z : Str} {pos : Pos} (hg : Gl X x) (hm : ∃ t, X.mg x = some (.str z t)) (hd : (x == ("__debug__" : Str)) = false := by decide) : DE X W (.Name x pos) (sC (.str z)) := by
  obtain ⟨t, e⟩ := hm
  exact de_of_const (pe_glob (v := .str z) hg e ⟨t, rfl⟩ hd) fun _ _ => .str z
/-! ### two operands, one operand -/
def sBin (g : D → D → OH → Res D) (a b : SE) : SE := fun e h => (a e h).bind fun x h1 => (b e h1).bind fun y h2 => g x y h2
def sUn (g : D → OH → Res D) (a : SE) : SE := fun e h => (a e h).bind g
def OpH (K : PySem.W.Frag) (W : WX) (g : D → D → OH → Res D) (r : R2) : Prop :=
  ∀ (P : Pins) (F : Hp) (m : List Addr) (h : OH) (H : Hp) (σ : St) (Q : VK) (x y : V) (dx dy : D), Sim K P F m h H → Den K F m x dx → Den K F m y dy → FinG K P W σ (Den K) Q F m (g dx dy h) → r x y H Q
theorem rd_op {g : D → D → OH → Res D} {r : R2} (hg : OpH X.K W g r) {fa fb : SE} {σ : St} {H : Hp} {Q : VK} (q : rdG X.K W (Den X.K) (sBin g fa fb) σ H Q) : tOp r (rdG X.K W (Den X.K) fa) (rdG X.K W (Den X.K) fb) σ H Q := by
  obtain ⟨P, F, m, e, h, S, E, fin⟩ := q
  refine rd_seq S E fin fun F1 m1 h1 H1 x dx x1 S1 E1 r1 fin1 => ?_
  refine rd_seq S1 E1 fin1 fun F2 m2 h2 H2 y dy x2 S2 E2 r2 fin2 => ?_
  exact hg P F2 m2 h2 H2 σ Q x y dx dy S2 (r1.mono x2) r2 fin2
theorem de_op {a b : Expr} {op : Operator} {pos : Pos} {g : D → D → OH → Res D} {r : R2} {fa fb : SE} (ho : OpR X (binaryOp op) r) (hg : OpH X.K W g r) (ha : DE X W a fa) (hb : DE X W b fb) : DE X W (.BinOp a op b pos) (sBin g fa fb) :=
  PE.of (pe_op ho ha hb) fun _ _ _ => rd_op hg
theorem de_cmp {a b : Expr} {op : CmpOp} {pos : Pos} {g : D → D → OH → Res D} {r : R2} {fa fb : SE} (ho : OpR X (compareOp op) r) (hg : OpH X.K W g r) (hm : behindInMarks op b = false) (ha : DE X W a fa) (hb : DE X W b fb) : DE X W (.Compare a [op] [b] pos) (sBin g fa fb) :=
  PE.of (pe_cmpR ho ha hb hm) fun _ _ _ => rd_op hg
theorem de_un {a : Expr} {op : UnaryOp} {pos : Pos} {g : D → OH → Res D} {r : V → Hp → VK → Prop} {fa : SE} (ho : UnR X (unaryOp op) r)
    (hg : ∀ (P : Pins) (F : Hp) (m : List Addr) (h : OH) (H : Hp) (σ : St) (Q : VK) (x : V) (dx : D), Sim X.K P F m h H → Den X.K F m x dx → FinG X.K P W σ (Den X.K) Q F m (g dx h) → r x H Q) (ha : DE X W a fa) : DE X W (.UnaryOp op a pos) (sUn g fa) :=
  PE.of (pe_un ho ha) fun σ H Q => by
    rintro ⟨P, F, m, e, h, S, E, fin⟩
    exact rd_seq S E fin fun F1 m1 h1 H1 x dx x1 S1 E1 r1 fin1 => hg P F1 m1 h1 H1 σ Q x dx S1 r1 fin1
/-! ### what is read as a sequence -/
/-- lists that may be read by every rule -/
def lstAt (h : OH) : D → Option (List D)
  | .lst xs => some xs
  | .ref i => (match h[i]? with
    | some (.lst xs) => some xs
    | _ => none)
  | _ => none
def tupAt : D → Option (List D)
  | .tup xs => some xs
  | _ => none
def seqAt (h : OH) : D → Option (List D)
  | .lst xs => some xs
  | .tup xs => some xs
  | .scr xs => some xs
  | .ref i => (match h[i]? with
    | some (.lst xs) => some xs
    | _ => none)
  | _ => none
section
variable {K : PySem.W.Frag} {P : Pins} {F : Hp} {m : List Addr} {h : OH} {H : Hp} {v : V} {d : D} {xs : List D}
theorem Sim.own (S : Sim K P F m h H) {i : Nat} {a : Addr} (e : m[i]? = some a) : ∃ o, h[i]? = some o ∧ OOk K F m H a o := by
  have hi : i < h.length := by rw [← S.len]; exact (List.getElem?_eq_some_iff.mp e).1
  exact ⟨h[i], List.getElem?_eq_getElem hi, S.at_ i a _ e (List.getElem?_eq_getElem hi)⟩
theorem lstAt_ok (S : Sim K P F m h H) (r : Den K F m v d) (q : lstAt h d = some xs) : ∃ a vs, v = .ref a ∧ H a = some (.lst vs) ∧ DenL K F m vs xs := by
  cases r with
  | lst e t => cases q; exact ⟨_, _, rfl, S.sub _ _ e, t⟩
  | ref e =>
    obtain ⟨o, h1, h2⟩ := S.own e
    dsimp only [lstAt] at q
    rw [h1] at q
    cases o with
    | lst ys =>
      cases q
      obtain ⟨vs, k1, k2, _⟩ := h2
      exact ⟨_, vs, rfl, k1, k2⟩
    | _ => cases q
  | _ => cases q
theorem tupAt_ok (S : Sim K P F m h H) (r : Den K F m v d) (q : tupAt d = some xs) : ∃ a vs, v = .ref a ∧ SqT K H a vs ∧ DenL K F m vs xs := by
  cases r with
  | tup e t => cases q; exact ⟨_, _, rfl, Same.sqT S.sub e, t⟩
  | _ => cases q
theorem seqAt_ok (S : Sim K P F m h H) (r : Den K F m v d) (q : seqAt h d = some xs) : ∃ a vs, v = .ref a ∧ (SqL K H a vs ∨ SqT K H a vs) ∧ DenL K F m vs xs := by
  cases r with
  | lst e t => cases q; exact ⟨_, _, rfl, .inl (.inl (.inl (S.sub _ _ e))), t⟩
  | scr e t => cases q; exact ⟨_, _, rfl, .inl (S.sub.seq e), t⟩
  | tup e t => cases q; exact ⟨_, _, rfl, .inr (Same.sqT S.sub e), t⟩
  | ref e =>
    obtain ⟨o, h1, h2⟩ := S.own e
    dsimp only [seqAt] at q
    rw [h1] at q
    cases o with
    | lst ys =>
      cases q
      obtain ⟨vs, k1, k2, _⟩ := h2
      exact ⟨_, vs, rfl, .inl (.inl (.inl k1)), k2⟩
    | _ => cases q
  | _ => cases q
/-- lists alone -/
def lsqAt (h : OH) : D → Option (List D)
  | .tup _ => none
  | d => seqAt h d
theorem lsqAt_ok (S : Sim K P F m h H) (r : Den K F m v d) (q : lsqAt h d = some xs) : ∃ a vs, v = .ref a ∧ SqL K H a vs ∧ DenL K F m vs xs := by
  cases r with
  | lst e t => cases q; exact ⟨_, _, rfl, .inl (.inl (S.sub _ _ e)), t⟩
  | scr e t => cases q; exact ⟨_, _, rfl, S.sub.seq e, t⟩
  | ref e =>
    obtain ⟨a, vs, e1, e2, e3⟩ := lstAt_ok S (.ref e) (show lstAt h _ = some xs from q)
    exact ⟨a, vs, e1, .inl (.inl e2), e3⟩
  | _ => cases q
theorem FinG.bad_elim {α β : Type} {rel : Rel β α} {W : WX} {σ : St} {Q : β → Hp → Prop} {p : Prop} (q : FinG K P W σ rel Q F m (.bad : Res α)) : p := False.elim q
theorem den_int {i : Int} (r : Den K F m v (.int i)) : v = .int i := by cases r; rfl
theorem den_str {x : Str} (r : Den K F m v (.str x)) : v = .str x := by cases r; rfl
theorem den_bl {b : Bool} (r : Den K F m v (.bl b)) : v = .bl b := by cases r; rfl
end
/-- a new list -/
theorem FinG.newL {K : PySem.W.Frag} {P : Pins} {F : Hp} {m : List Addr} {h : OH} {H : Hp} {σ : St} {Q : VK} {vs : List V} {xs : List D} {p : Addr} (fin : FinG K P W σ (Den K) Q F m (.ok (.lst xs) h)) (S : Sim K P F m h H) (r : DenL K F m vs xs) (hp : H p = none) : Q (.ref p) (upd H p (.lst vs)) :=
  fin.okX (S.extF hp) (S.frozen hp) (.lst upd_same (r.mono (S.extF hp)))
theorem FinG.newT {K : PySem.W.Frag} {P : Pins} {F : Hp} {m : List Addr} {h : OH} {H : Hp} {σ : St} {Q : VK} {vs : List V} {xs : List D} {p : Addr} (fin : FinG K P W σ (Den K) Q F m (.ok (.tup xs) h)) (S : Sim K P F m h H) (r : DenL K F m vs xs) (hp : H p = none) : Q (.ref p) (upd H p (.tup vs)) :=
  fin.okX (S.extF hp) (S.frozen hp) (.tup (.inl (.inl upd_same)) (r.mono (S.extF hp)))
/-! ### arithmetic -/
def opI2 (f : Int → Int → D) (c : Int → Int → Bool) : D → D → OH → Res D
  | .int i, .int j, h => if c i j then .ok (f i j) h else .bad
  | _, _, _ => .bad
theorem opI2_h {f : Int → Int → D} {g : Int → Int → V} {c : Int → Int → Bool} {C : Int → Int → Prop} (hc : ∀ i j, c i j = true → C i j) (hf : ∀ (F : Hp) (m : List Addr) i j, Den X.K F m (g i j) (f i j)) : OpH X.K W (opI2 f c) (rI C g) := by
  intro P F m h H σ Q x y dx dy S r1 r2 fin
  cases r1 with
  | int i =>
    cases r2 with
    | int j =>
      dsimp only [opI2] at fin
      by_cases hh : c i j = true
      · rw [if_pos hh] at fin
        exact ⟨i, j, rfl, rfl, hc i j hh, fin.ok S (hf F m i j)⟩
      · rw [if_neg hh] at fin
        exact fin.bad_elim
    | _ => exact fin.bad_elim
  | _ => exact fin.bad_elim
theorem opI2_h0 {f : Int → Int → D} {g : Int → Int → V} (hf : ∀ (F : Hp) (m : List Addr) i j, Den X.K F m (g i j) (f i j)) : OpH X.K W (opI2 f fun _ _ => true) (rI0 g) := by
  intro P F m h H σ Q x y dx dy S r1 r2 fin
  obtain ⟨i, j, e1, e2, _, q⟩ := opI2_h (C := fun _ _ => True) (fun _ _ _ => trivial) hf P F m h H σ Q x y dx dy S r1 r2 fin
  exact ⟨i, j, e1, e2, q⟩
abbrev big : Nat := 1000000
/-- a + b -/
def opAdd : D → D → OH → Res D
  | .int i, .int j, h => .ok (.int (i + j)) h
  | .str x, .str y, h => if x.length + y.length ≤ big then .ok (.str (x ++ y)) h else .bad
  | .tup xs, .tup ys, h => if xs ≠ [] ∧ xs.length + ys.length ≤ big then .ok (.tup (xs ++ ys)) h else .bad
  | a, b, h => (match lstAt h a, lstAt h b with
    | some xs, some ys => if xs.length + ys.length ≤ big then .ok (.lst (xs ++ ys)) h else .bad
    | _, _ => .bad)
theorem big_line {n : Nat} (h : n ≤ big) : n ≤ sizeLine := Nat.le_trans h (by decide)
theorem big_lt {n : Nat} (h : n < big) : n < sizeLine := Nat.lt_of_lt_of_le h (by decide)
abbrev rAddU (K : PySem.W.Frag) : R2 := fun x y H Q => rI0 (fun i j => .int (i + j)) x y H Q ∨ ((∃ i j, x = .str i ∧ y = .str j ∧ i.length + j.length ≤ sizeLine ∧ Q (.str (i ++ j)) H) ∨ (rCat x y H Q ∨ rCatT K x y H Q))
theorem opAdd_h : OpH X.K W opAdd (rAddU X.K) := by
  intro P F m h H σ Q x y dx dy S r1 r2 fin
  have lists : ∀ {a b : D}, Den X.K F m x a → Den X.K F m y b → FinG X.K P W σ (Den X.K) Q F m (match lstAt h a, lstAt h b with
    | some xs, some ys => if xs.length + ys.length ≤ big then .ok (.lst (xs ++ ys)) h else .bad
    | _, _ => .bad) → rAddU X.K x y H Q := by
    intro a b q1 q2 fin
    cases e1 : lstAt h a with
    | none => rw [e1] at fin; exact fin.bad_elim
    | some xs =>
      cases e2 : lstAt h b with
      | none => rw [e1, e2] at fin; exact fin.bad_elim
      | some ys =>
        rw [e1, e2] at fin
        dsimp only at fin
        obtain ⟨l, vs, rfl, hl, rl⟩ := lstAt_ok S q1 e1
        obtain ⟨l2, ws, rfl, hl2, rl2⟩ := lstAt_ok S q2 e2
        by_cases hz : xs.length + ys.length ≤ big
        · rw [if_pos hz] at fin
          exact .inr (.inr (.inl ⟨l, l2, vs, ws, rfl, rfl, hl, hl2, by rw [rl.length, rl2.length]; exact big_line hz, fun p hp => fin.newL S (rl.append rl2) hp⟩))
        · rw [if_neg hz] at fin
          exact fin.bad_elim
  cases dx with
  | int i =>
    cases dy with
    | int j =>
      cases den_int r1
      cases den_int r2
      exact .inl ⟨i, j, rfl, rfl, fin.ok S (.int _)⟩
    | _ => exact lists r1 r2 fin
  | str a =>
    cases dy with
    | str b =>
      cases den_str r1
      cases den_str r2
      dsimp only [opAdd] at fin
      by_cases hz : a.length + b.length ≤ big
      · rw [if_pos hz] at fin
        exact .inr (.inl ⟨a, b, rfl, rfl, big_line hz, fin.ok S (.str _)⟩)
      · rw [if_neg hz] at fin
        exact fin.bad_elim
    | _ => exact lists r1 r2 fin
  | tup xs =>
    cases dy with
    | tup ys =>
      dsimp only [opAdd] at fin
      by_cases hz : xs ≠ [] ∧ xs.length + ys.length ≤ big
      · rw [if_pos hz] at fin
        obtain ⟨l, vs, rfl, hl, rl⟩ := tupAt_ok S r1 (rfl : tupAt (.tup xs) = some xs)
        obtain ⟨l2, ws, rfl, hl2, rl2⟩ := tupAt_ok S r2 (rfl : tupAt (.tup ys) = some ys)
        refine .inr (.inr (.inr ⟨l, l2, vs, ws, rfl, rfl, hl, hl2, fun z => hz.1 ?_, by rw [rl.length, rl2.length]; exact big_line hz.2, ?_⟩))
        · subst z
          cases rl
          rfl
        · refine ⟨fun z => ?_, fun _ p hp => fin.newT S (rl.append rl2) hp⟩
          subst z
          cases rl2
          rw [List.append_nil] at fin
          exact fin.ok S r1
      · rw [if_neg hz] at fin
        exact fin.bad_elim
    | _ => exact lists r1 r2 fin
  | _ => exact lists r1 r2 fin
theorem or_add : OpR X (binaryOp .Add) (rAddU X.K) := op_add.or (op_add_str.or (op_cat.or op_catT))
theorem de_add {a b : Expr} {pos : Pos} {fa fb : SE} (ha : DE X W a fa) (hb : DE X W b fb) : DE X W (.BinOp a .Add b pos) (sBin opAdd fa fb) := de_op or_add opAdd_h ha hb
abbrev opSub := opI2 (fun i j => .int (i - j)) fun _ _ => true
theorem de_sub {a b : Expr} {pos : Pos} {fa fb : SE} (ha : DE X W a fa) (hb : DE X W b fb) : DE X W (.BinOp a .Sub b pos) (sBin opSub fa fb) := de_op op_sub (opI2_h0 fun _ _ _ _ => .int _) ha hb
/-- a product: one side below 2^64, or both not too large -/
def mulOk (i j : Int) : Bool := decide (i.natAbs < 2 ^ 64) || decide (j.natAbs < 2 ^ 64) || decide (i.natAbs.log2 + j.natAbs.log2 < 1000000)
def opMul : D → D → OH → Res D
  | .int i, .int j, h => if mulOk i j then .ok (.int (i * j)) h else .bad
  | a, .int k, h => (match lstAt h a with
    | some xs => if -(2 ^ 63) ≤ k ∧ k < 2 ^ 63 ∧ xs.length * k.toNat ≤ big then .ok (.lst (List.replicate k.toNat xs).flatten) h else .bad
    | none => .bad)
  | _, _, _ => .bad
theorem mulOk_c {i j : Int} (h : mulOk i j = true) : CMul i j ∨ CMulW i j := by
  unfold mulOk at h
  simp only [Bool.or_eq_true, decide_eq_true_eq] at h
  rcases h with (h | h) | h
  · exact .inl (.inl (by constructor <;> omega))
  · exact .inl (.inr (by constructor <;> omega))
  · exact .inr h
abbrev rMulU : R2 := fun x y H Q => rI CMul (fun i j => .int (i * j)) x y H Q ∨ (rI CMulW (fun i j => .int (i * j)) x y H Q ∨ rRep x y H Q)
theorem opMul_h : OpH X.K W opMul rMulU := by
  intro P F m h H σ Q x y dx dy S r1 r2 fin
  have lists : ∀ {a : D} {k : Int}, Den X.K F m x a → y = .int k → FinG X.K P W σ (Den X.K) Q F m (match lstAt h a with
    | some xs => if -(2 ^ 63) ≤ k ∧ k < 2 ^ 63 ∧ xs.length * k.toNat ≤ big then .ok (.lst (List.replicate k.toNat xs).flatten) h else .bad
    | none => .bad) → rMulU x y H Q := by
    intro a k q1 ey fin
    cases e1 : lstAt h a with
    | none => rw [e1] at fin; exact fin.bad_elim
    | some xs =>
      rw [e1] at fin
      dsimp only at fin
      obtain ⟨l, vs, rfl, hl, rl⟩ := lstAt_ok S q1 e1
      by_cases hz : -(2 ^ 63) ≤ k ∧ k < 2 ^ 63 ∧ xs.length * k.toNat ≤ big
      · rw [if_pos hz] at fin
        exact .inr (.inr ⟨l, k, vs, rfl, ey, hl, hz.1, hz.2.1, by rw [rl.length]; exact big_line hz.2.2, fun p hp => fin.newL S (rl.rep _) hp⟩)
      · rw [if_neg hz] at fin
        exact fin.bad_elim
  cases dy with
  | int j =>
    cases den_int r2
    cases dx with
    | int i =>
      cases den_int r1
      dsimp only [opMul] at fin
      by_cases hm : mulOk i j = true
      · rw [if_pos hm] at fin
        rcases mulOk_c hm with c | c
        · exact .inl ⟨i, j, rfl, rfl, c, fin.ok S (.int _)⟩
        · exact .inr (.inl ⟨i, j, rfl, rfl, c, fin.ok S (.int _)⟩)
      · rw [if_neg hm] at fin
        exact fin.bad_elim
    | _ => exact lists r1 rfl fin
  | _ => cases dx <;> exact fin.bad_elim
theorem de_mul {a b : Expr} {pos : Pos} {fa fb : SE} (ha : DE X W a fa) (hb : DE X W b fb) : DE X W (.BinOp a .Mult b pos) (sBin opMul fa fb) := de_op (op_mul.or (op_mulW.or op_rep)) opMul_h ha hb
def divOk (_ j : Int) : Bool := decide (0 < j) && decide (j.natAbs.log2 < 9000)
abbrev opDiv := opI2 (fun i j => .int (i / j)) divOk
abbrev opMod := opI2 (fun i j => .int (i % j)) fun _ j => decide (0 < j)
theorem de_div {a b : Expr} {pos : Pos} {fa fb : SE} (ha : DE X W a fa) (hb : DE X W b fb) : DE X W (.BinOp a .FloorDiv b pos) (sBin opDiv fa fb) :=
  de_op op_fdivW (opI2_h (fun i j h => by
    unfold divOk at h
    simp only [Bool.and_eq_true, decide_eq_true_eq] at h
    exact h) fun _ _ _ _ => .int _) ha hb
theorem de_mod {a b : Expr} {pos : Pos} {fa fb : SE} (ha : DE X W a fa) (hb : DE X W b fb) : DE X W (.BinOp a .Mod b pos) (sBin opMod fa fb) := de_op op_mod (opI2_h (fun i j h => of_decide_eq_true h) fun _ _ _ _ => .int _) ha hb
abbrev opPow := opI2 (fun i j => .int (i ^ j.toNat)) fun i j => decide (0 ≤ j) && decide (j ≤ 1000000) && decide (i.natAbs < 2 ^ 64)
theorem de_pow {a b : Expr} {pos : Pos} {fa fb : SE} (ha : DE X W a fa) (hb : DE X W b fb) : DE X W (.BinOp a .Pow b pos) (sBin opPow fa fb) :=
  de_op op_pow (opI2_h (fun i j h => by
    simp only [Bool.and_eq_true, decide_eq_true_eq] at h
    exact ⟨h.1.1, h.1.2, h.2⟩) fun _ _ _ _ => .int _) ha hb
def opNeg : D → OH → Res D
  | .int i, h => .ok (.int (-i)) h
  | _, _ => .bad
theorem de_neg {a : Expr} {pos : Pos} {fa : SE} (ha : DE X W a fa) : DE X W (.UnaryOp .USub a pos) (sUn opNeg fa) := de_un un_neg (fun P F m h H σ Q x dx S r fin => by
  cases r with
  | int i => exact ⟨i, rfl, fin.ok S (.int _)⟩
  | _ => exact fin.bad_elim) ha
/-! ### order -/
abbrev opLt := opI2 (fun i j => .bl (decide (i < j))) fun _ _ => true
abbrev opLe := opI2 (fun i j => .bl (decide (i ≤ j))) fun _ _ => true
abbrev opGt := opI2 (fun i j => .bl (decide (j < i))) fun _ _ => true
abbrev opGe := opI2 (fun i j => .bl (decide (j ≤ i))) fun _ _ => true
theorem de_le {a b : Expr} {pos : Pos} {fa fb : SE} (ha : DE X W a fa) (hb : DE X W b fb) : DE X W (.Compare a [.LtE] [b] pos) (sBin opLe fa fb) := de_cmp op_le (opI2_h0 fun _ _ _ _ => .bl _) (nomark _) ha hb
theorem de_ge {a b : Expr} {pos : Pos} {fa fb : SE} (ha : DE X W a fa) (hb : DE X W b fb) : DE X W (.Compare a [.GtE] [b] pos) (sBin opGe fa fb) := de_cmp op_ge (opI2_h0 fun _ _ _ _ => .bl _) (nomark _) ha hb
/-- a op b op' c -/
def sChain (g g' : D → D → OH → Res D) (a b c : SE) : SE := fun e h => (a e h).bind fun x h1 => (b e h1).bind fun y h2 => (g x y h2).bind fun z h3 => match z with
  | .bl true => (c e h3).bind fun u h4 => g' y u h4
  | .bl false => .ok (.bl false) h3
  | _ => .bad
/-! ### is None, is a bool -/
def opIs (neg : Bool) : D → D → OH → Res D
  | a, .non, h => .ok (.bl (match a with
    | .non => !neg
    | _ => neg)) h
  | _, _, _ => .bad
theorem den_is {K : PySem.W.Frag} {F : Hp} {m : List Addr} {v : V} {d : D} (r : Den K F m v d) : decide (v = .non) = (match d with
    | .non => true
    | _ => false) := by
  cases r <;> simp
theorem opIs_h : OpH X.K W (opIs false) (fun x y H Q => y = .non ∧ Q (.bl (decide (x = .non))) H) := by
  intro P F m h H σ Q x y dx dy S r1 r2 fin
  cases r2 with
  | non =>
    refine ⟨rfl, ?_⟩
    rw [den_is r1]
    cases dx <;> exact FinG.ok fin S (.bl _)
  | _ => cases dx <;> exact fin.bad_elim
theorem de_is {a b : Expr} {pos : Pos} {fa fb : SE} (ha : DE X W a fa) (hb : DE X W b fb) : DE X W (.Compare a [.Is] [b] pos) (sBin (opIs false) fa fb) := de_cmp op_isN opIs_h (nomark _) ha hb
/-! ### arguments, displays -/
def sNil : SA := fun _ h => .ok [] h
def sCons (a : SE) (r : SA) : SA := fun e h => (a e h).bind fun x h1 => (r e h1).bind fun xs h2 => .ok (x :: xs) h2
theorem da_nil : DA X W [] sNil := PA.of pa_nil fun σ H Q => by
  rintro ⟨P, F, m, e, h, S, E, fin⟩
  exact fin.ok S .nil
theorem da_cons {a : Expr} {es : List Expr} {fa : SE} {fr : SA} (ha : DE X W a fa) (hr : DA X W es fr) (hs : starEach (a :: es) X.env = (false, eval a X.env) :: starEach es X.env := by rfl) : DA X W (a :: es) (sCons fa fr) :=
  PA.of (pa_cons ha hr hs) fun σ H Q => by
    rintro ⟨P, F, m, e, h, S, E, fin⟩
    refine rd_seq S E fin fun F1 m1 h1 H1 x dx x1 S1 E1 r1 fin1 => ?_
    refine rd_seq S1 E1 fin1 fun F2 m2 h2 H2 y dy x2 S2 E2 r2 fin2 => ?_
    exact fin2.ok S2 (.cons (r1.mono x2) r2)
def sTup (a : SA) : SE := fun e h => (a e h).bind fun xs h1 => if xs.length ≤ big then .ok (.tup xs) h1 else .bad
def sLst (a : SA) : SE := fun e h => (a e h).bind fun xs h1 => if xs.length ≤ big then .ok (.lst xs) h1 else .bad
/-- .. as an own object -/
def sLstO (a : SA) : SE := fun e h => (a e h).bind fun xs h1 => if xs.length ≤ big then .ok (.ref h1.length) (h1 ++ [.lst xs]) else .bad
theorem de_tup {es : List Expr} {j : Nat} {pos : Pos} {fa : SA} (ha : DA X W es fa) : DE X W (.Tuple es j pos) (sTup fa) := PE.of (pe_tup ha) fun σ H Q => by
  rintro ⟨P, F, m, e, h, S, E, fin⟩
  refine rd_seq S E fin fun F1 m1 h1 H1 x dx x1 S1 E1 r1 fin1 => ?_
  by_cases hz : dx.length ≤ big
  · rw [if_pos hz] at fin1
    exact ⟨by rw [r1.length]; exact big_line hz, fun p hp => fin1.newT S1 r1 hp⟩
  · rw [if_neg hz] at fin1
    exact fin1.bad_elim
theorem de_lst {es : List Expr} {pos : Pos} {fa : SA} (ha : DA X W es fa) : DE X W (.List es pos) (sLst fa) := PE.of (pe_lst ha) fun σ H Q => by
  rintro ⟨P, F, m, e, h, S, E, fin⟩
  refine rd_seq S E fin fun F1 m1 h1 H1 x dx x1 S1 E1 r1 fin1 => ?_
  by_cases hz : dx.length ≤ big
  · rw [if_pos hz] at fin1
    exact ⟨by rw [r1.length]; exact big_line hz, fun p hp => fin1.newL S1 r1 hp⟩
  · rw [if_neg hz] at fin1
    exact fin1.bad_elim
/-- a new own list -/
theorem FinG.ownL {K : PySem.W.Frag} {P : Pins} {F : Hp} {m : List Addr} {h : OH} {H : Hp} {σ : St} {Q : VK} {vs : List V} {xs : List D} {p : Addr} (fin : FinG K P W σ (Den K) Q F m (.ok (.ref h.length) (h ++ [.lst xs]))) (S : Sim K P F m h H) (r : DenL K F m vs xs) (hp : H p = none) : Q (.ref p) (upd H p (.lst vs)) :=
  fin.okX ext_new (S.alloc hp ⟨vs, upd_same, r.mono ext_new, S.free hp⟩) (.ref (by rw [← S.len]; simp))
theorem de_lstO {es : List Expr} {pos : Pos} {fa : SA} (ha : DA X W es fa) : DE X W (.List es pos) (sLstO fa) := PE.of (pe_lst ha) fun σ H Q => by
  rintro ⟨P, F, m, e, h, S, E, fin⟩
  refine rd_seq S E fin fun F1 m1 h1 H1 x dx x1 S1 E1 r1 fin1 => ?_
  by_cases hz : dx.length ≤ big
  · rw [if_pos hz] at fin1
    exact ⟨by rw [r1.length]; exact big_line hz, fun p hp => fin1.ownL S1 r1 hp⟩
  · rw [if_neg hz] at fin1
    exact fin1.bad_elim
end
end HR
set_option Elab.async false
set_option linter.all false
set_option maxRecDepth 100000
set_option maxHeartbeats 2000000
/-! LayC: tests, equality, subscripts, slices, calls of built-ins, attributes, methods of lists. -/
namespace HR
open PySem L2
/-! ### data as a whole -/
mutual
def pyG (get : Nat → Option (List PyData)) : D → Option PyData
  | .non => some .none
  | .bl b => some (.bool b)
  | .int i => some (.int i)
  | .str x => some (.str x)
  | .lst xs => (pyGL get xs).map .list
  | .scr xs => (pyGL get xs).map .list
  | .tup xs => (pyGL get xs).map .tuple
  | .ref i => (get i).map .list
  | .dct _ => none
  | .obj _ _ => none
  | .exc _ => none
  | .excf _ _ _ => none
  | .fn _ => none
  | .dcl _ => none
def pyGL (get : Nat → Option (List PyData)) : List D → Option (List PyData)
  | [] => some []
  | x :: xs => match pyG get x, pyGL get xs with
    | some d, some ds => some (d :: ds)
    | _, _ => none
end
def pyGet (h : OH) : Nat → Nat → Option (List PyData)
  | 0, _ => none
  | n + 1, i => match h[i]? with
    | some (.lst xs) => pyGL (pyGet h n) xs
    | _ => none
/-- what a value is to == and repr -/
def pyAt (h : OH) (d : D) : Option PyData := pyG (pyGet h 4) d
section
variable {K : PySem.W.Frag} {P : Pins} {F : Hp} {m : List Addr} {h : OH} {H : Hp}
theorem dp_of (S : Sim K P F m h H) {get : Nat → Option (List PyData)} (hg : ∀ i a ds, m[i]? = some a → get i = some ds → ∃ vs, H a = some (.lst vs) ∧ DpAll K H vs ds) {v : V} {d : D} (r : Den K F m v d) : ∀ p, pyG get d = some p → Dp K H v p :=
  Den.rec (motive_1 := fun v d _ => ∀ p, pyG get d = some p → Dp K H v p) (motive_2 := fun vs ds _ => ∀ ps, pyGL get ds = some ps → DpAll K H vs ps) (motive_3 := fun _ _ _ => True) (motive_4 := fun _ _ _ => True)
    (fun p e => by simp only [pyG, Option.some.injEq] at e; subst e; exact .non) (fun b p e => by simp only [pyG, Option.some.injEq] at e; subst e; exact .bl b)
    (fun i p e => by simp only [pyG, Option.some.injEq] at e; subst e; exact .int i) (fun x p e => by simp only [pyG, Option.some.injEq] at e; subst e; exact .str x)
    (fun q _ ih p e => by
      simp only [pyG, Option.map_eq_some_iff] at e
      obtain ⟨ps, e1, e2⟩ := e
      subst e2
      exact .lst (.inl (.inl (S.sub _ _ q))) (ih ps e1))
    (fun q _ ih p e => by
      simp only [pyG, Option.map_eq_some_iff] at e
      obtain ⟨ps, e1, e2⟩ := e
      subst e2
      exact .lst (S.sub.seq q) (ih ps e1))
    (fun q _ ih p e => by
      simp only [pyG, Option.map_eq_some_iff] at e
      obtain ⟨ps, e1, e2⟩ := e
      subst e2
      exact .tup (Same.sqT S.sub q) (ih ps e1))
    (fun _ _ _ p e => by simp only [pyG] at e; cases e) (fun _ _ _ _ p e => by simp only [pyG] at e; cases e)
    (fun {a i} q p e => by
      simp only [pyG, Option.map_eq_some_iff] at e
      obtain ⟨ps, e1, e2⟩ := e
      subst e2
      obtain ⟨vs, k1, k2⟩ := hg i a ps q e1
      exact .lst (.inl (.inl k1)) k2)
    (fun _ p e => by simp only [pyG] at e; cases e) (fun _ _ _ _ p e => by simp only [pyG] at e; cases e) (fun _ p e => by simp only [pyG] at e; cases e) (fun _ _ _ p e => by simp only [pyG] at e; cases e)
    (fun ps e => by simp only [pyGL, Option.some.injEq] at e; subst e; exact .nil)
    (fun {v d vs ds} _ _ ih1 ih2 ps e => by
      simp only [pyGL] at e
      cases e1 : pyG get d with
      | none => rw [e1] at e; simp at e
      | some p =>
        cases e2 : pyGL get ds with
        | none => rw [e1, e2] at e; simp at e
        | some qs =>
          rw [e1, e2] at e
          simp only [Option.some.injEq] at e
          subst e
          exact .cons (ih1 p e1) (ih2 qs e2))
    trivial (fun _ _ _ _ => trivial) trivial (fun _ _ _ _ => trivial) r
theorem dpL_of (S : Sim K P F m h H) {get : Nat → Option (List PyData)} (hg : ∀ i a ds, m[i]? = some a → get i = some ds → ∃ vs, H a = some (.lst vs) ∧ DpAll K H vs ds) : ∀ {vs : List V} {ds : List D}, DenL K F m vs ds → ∀ ps, pyGL get ds = some ps → DpAll K H vs ps
  | _, _, .nil, ps, e => by simp only [pyGL, Option.some.injEq] at e; subst e; exact .nil
  | _, d :: ds, .cons a b, ps, e => by
    simp only [pyGL] at e
    cases e1 : pyG get d with
    | none => rw [e1] at e; simp at e
    | some p =>
      cases e2 : pyGL get ds with
      | none => rw [e1, e2] at e; simp at e
      | some qs =>
        rw [e1, e2] at e
        simp only [Option.some.injEq] at e
        subst e
        exact .cons (dp_of S hg a p e1) (dpL_of S hg b qs e2)
theorem pyGet_ok (S : Sim K P F m h H) : ∀ n i a ds, m[i]? = some a → pyGet h n i = some ds → ∃ vs, H a = some (.lst vs) ∧ DpAll K H vs ds
  | 0, _, _, _, _, e => by simp [pyGet] at e
  | n + 1, i, a, ds, e1, e => by
    obtain ⟨o, h1, h2⟩ := S.own e1
    simp only [pyGet, h1] at e
    cases o with
    | lst xs =>
      obtain ⟨vs, k1, k2, _⟩ := h2
      exact ⟨vs, k1, dpL_of S (fun j b es q1 q2 => pyGet_ok S n j b es q1 q2) k2 ds e⟩
    | _ => cases e
theorem pyAt_ok (S : Sim K P F m h H) {v : V} {d : D} {p : PyData} (r : Den K F m v d) (e : pyAt h d = some p) : Dp K H v p := dp_of S (fun i a ds q1 q2 => pyGet_ok S 4 i a ds q1 q2) r p e
end
@[simp] theorem pyAt_int {h : OH} {i : Int} : pyAt h (.int i) = some (.int i) := by simp [pyAt, pyG]
@[simp] theorem pyAt_bl {h : OH} {b : Bool} : pyAt h (.bl b) = some (.bool b) := by simp [pyAt, pyG]
@[simp] theorem pyAt_str {h : OH} {x : Str} : pyAt h (.str x) = some (.str x) := by simp [pyAt, pyG]
@[simp] theorem pyAt_non {h : OH} : pyAt h .non = some .none := by simp [pyAt, pyG]
section
variable {X : Cx} {W : WX}
def opEq (neg : Bool) : D → D → OH → Res D := fun a b h => match pyAt h a, pyAt h b with
  | some p, some q => if SeqAt.shaped p && SeqAt.shaped q then .ok (.bl (if neg then !PyData.eqv p q else PyData.eqv p q)) h else .bad
  | _, _ => .bad
theorem opEq_h (neg : Bool) : OpH X.K W (opEq neg) (if neg then rNeD X.K else rEqD X.K) := by
  intro P F m h H σ Q x y dx dy S r1 r2 fin
  dsimp only [opEq] at fin
  cases e1 : pyAt h dx with
  | none => rw [e1] at fin; exact fin.bad_elim
  | some p =>
    cases e2 : pyAt h dy with
    | none => rw [e1, e2] at fin; exact fin.bad_elim
    | some q =>
      rw [e1, e2] at fin
      dsimp only at fin
      by_cases hs : (SeqAt.shaped p && SeqAt.shaped q) = true
      · rw [if_pos hs] at fin
        obtain ⟨s1, s2⟩ := and2 hs
        cases neg with
        | true => exact ⟨p, q, pyAt_ok S r1 e1, pyAt_ok S r2 e2, s1, s2, fin.ok S (.bl _)⟩
        | false => exact ⟨p, q, pyAt_ok S r1 e1, pyAt_ok S r2 e2, s1, s2, fin.ok S (.bl _)⟩
      · rw [if_neg hs] at fin
        exact fin.bad_elim
theorem de_eq {a b : Expr} {pos : Pos} {fa fb : SE} (hu : X.A.units + 64 < cLine) (ha : DE X W a fa) (hb : DE X W b fb) : DE X W (.Compare a [.Eq] [b] pos) (sBin (opEq false) fa fb) := de_cmp (op_eqD hu) (opEq_h false) (nomark _) ha hb
/-! ### in -/
end
/-! ### tests -/
def sTest (f : SE) : ST := fun e h => (f e h).bind fun d h1 => match d with
  | .bl b => .ok b h1
  | _ => .bad
def sAnd (a b : ST) : ST := fun e h => (a e h).bind fun c h1 => if c then b e h1 else .ok false h1
def sOr (a b : ST) : ST := fun e h => (a e h).bind fun c h1 => if c then .ok true h1 else b e h1
def sNot (a : ST) : ST := fun e h => (a e h).bind fun c h1 => .ok (!c) h1
/-- a test as a value -/
def sVal (a : ST) : SE := fun e h => (a e h).bind fun c h1 => .ok (.bl c) h1
def sIf (c : ST) (a b : SE) : SE := fun e h => (c e h).bind fun t h1 => if t then a e h1 else b e h1
section
variable {X : Cx} {W : WX}
theorem rd_test {f : SE} {σ : St} {H : Hp} {Q : Bool → Hp → Prop} (q : rdG X.K W relB (sTest f) σ H Q) : tTest (rdG X.K W (Den X.K) f) σ H Q := by
  obtain ⟨P, F, m, e, h, S, E, fin⟩ := q
  refine rd_seq S E fin fun F1 m1 h1 H1 x dx x1 S1 E1 r1 fin1 => ?_
  cases r1 with
  | bl b => exact ⟨b, rfl, fin1.ok S1 rfl⟩
  | _ => exact fin1.bad_elim
/-- a call, a name, an attribute, an item as a test -/
theorem dt_val {a : Expr} {f : SE} (ha : DE X W a f) (he : ∀ whole, isTrue a X.env whole = (do let v ← whole; standAt a.pos; holding [v] (truthy v)) := by intro _; rfl) : DT X W a (sTest f) := PT.of (pt_val ha he) fun _ _ _ => rd_test
theorem dt_cmp {a b : Expr} {op : CmpOp} {pos : Pos} {g : D → D → OH → Res D} {r : R2} {fa fb : SE} (ho : OpR X (compareOp op) r) (hg : OpH X.K W g r) (hm : behindInMarks op b = false) (ha : DE X W a fa) (hb : DE X W b fb) : DT X W (.Compare a [op] [b] pos) (sTest (sBin g fa fb)) :=
  PT.of (pt_cmpR ho ha hb hm) fun σ H Q q => by
    obtain ⟨P, F, m, e, h, S, E, fin⟩ := q
    have key : rdG X.K W (Den X.K) (sBin g fa fb) σ H (fun x H' => ∃ k, x = .bl k ∧ Q k H') := rd_test ⟨P, F, m, e, h, S, E, fin⟩
    exact rd_op hg key
theorem dt_eq {a b : Expr} {pos : Pos} {fa fb : SE} (hu : X.A.units + 64 < cLine) (ha : DE X W a fa) (hb : DE X W b fb) : DT X W (.Compare a [.Eq] [b] pos) (sTest (sBin (opEq false) fa fb)) := dt_cmp (op_eqD hu) (opEq_h false) (nomark _) ha hb
theorem dt_ne {a b : Expr} {pos : Pos} {fa fb : SE} (hu : X.A.units + 64 < cLine) (ha : DE X W a fa) (hb : DE X W b fb) : DT X W (.Compare a [.NotEq] [b] pos) (sTest (sBin (opEq true) fa fb)) := dt_cmp (op_neD hu) (opEq_h true) (nomark _) ha hb
theorem dt_lt {a b : Expr} {pos : Pos} {fa fb : SE} (ha : DE X W a fa) (hb : DE X W b fb) : DT X W (.Compare a [.Lt] [b] pos) (sTest (sBin opLt fa fb)) := dt_cmp op_lt (opI2_h0 fun _ _ _ _ => .bl _) (nomark _) ha hb
theorem dt_le {a b : Expr} {pos : Pos} {fa fb : SE} (ha : DE X W a fa) (hb : DE X W b fb) : DT X W (.Compare a [.LtE] [b] pos) (sTest (sBin opLe fa fb)) := dt_cmp op_le (opI2_h0 fun _ _ _ _ => .bl _) (nomark _) ha hb
theorem dt_gt {a b : Expr} {pos : Pos} {fa fb : SE} (ha : DE X W a fa) (hb : DE X W b fb) : DT X W (.Compare a [.Gt] [b] pos) (sTest (sBin opGt fa fb)) := dt_cmp op_gt (opI2_h0 fun _ _ _ _ => .bl _) (nomark _) ha hb
theorem dt_ge {a b : Expr} {pos : Pos} {fa fb : SE} (ha : DE X W a fa) (hb : DE X W b fb) : DT X W (.Compare a [.GtE] [b] pos) (sTest (sBin opGe fa fb)) := dt_cmp op_ge (opI2_h0 fun _ _ _ _ => .bl _) (nomark _) ha hb
theorem DW.dt {a : Expr} {f : ST} (h : DW X W a f) : DT X W a f := PW.pt h
theorem PW.of {e : Expr} {t t' : TT} (h : PW X e t) (w : ∀ σ H Q, t' σ H Q → t σ H Q) : PW X e t' := ⟨fun wh pins s σ H Q I q => h.run wh pins s σ H Q I (w σ H Q q)⟩
theorem dw_and1 {a : Expr} {f : ST} {pos : Pos} (ha : DT X W a f) : DW X W (.BoolOp .And [a] pos) f := pw_and1 ha
theorem dw_or1 {a : Expr} {f : ST} {pos : Pos} (ha : DT X W a f) : DW X W (.BoolOp .Or [a] pos) f := pw_or1 ha
theorem dw_and {a b : Expr} {rest : List Expr} {f g : ST} {pos : Pos} (ha : DT X W a f) (hb : DW X W (.BoolOp .And (b :: rest) pos) g) : DW X W (.BoolOp .And (a :: b :: rest) pos) (sAnd f g) := PW.of (pw_and ha hb) fun σ H Q => by
  rintro ⟨P, F, m, e, h, S, E, fin⟩
  refine rd_seq S E fin fun F1 m1 h1 H1 x dx x1 S1 E1 r1 fin1 => ?_
  have r1 : x = dx := r1
  subst r1
  cases x with
  | true => exact ⟨P, F1, m1, e, h1, S1, E1, fin1⟩
  | false => exact fin1.ok S1 rfl
theorem dw_or {a b : Expr} {rest : List Expr} {f g : ST} {pos : Pos} (ha : DT X W a f) (hb : DW X W (.BoolOp .Or (b :: rest) pos) g) : DW X W (.BoolOp .Or (a :: b :: rest) pos) (sOr f g) := PW.of (pw_or ha hb) fun σ H Q => by
  rintro ⟨P, F, m, e, h, S, E, fin⟩
  refine rd_seq S E fin fun F1 m1 h1 H1 x dx x1 S1 E1 r1 fin1 => ?_
  have r1 : x = dx := r1
  subst r1
  cases x with
  | true => exact fin1.ok S1 rfl
  | false => exact ⟨P, F1, m1, e, h1, S1, E1, fin1⟩
theorem dt_not {a : Expr} {f : ST} {pos : Pos} (ha : DT X W a f) : DT X W (.UnaryOp .Not a pos) (sNot f) := PT.of (pt_not ha) fun σ H Q => by
  rintro ⟨P, F, m, e, h, S, E, fin⟩
  refine rd_seq S E fin fun F1 m1 h1 H1 x dx x1 S1 E1 r1 fin1 => ?_
  have r1 : x = dx := r1
  subst r1
  exact fin1.ok S1 rfl
/-- and, or, not as values -/
theorem de_one {a : Expr} {op : BoolOp} {f : SE} {pos : Pos} (ha : DE X W a f) : DE X W (.BoolOp op [a] pos) f := pe_one ha
def sAndV (a b : SE) : SE := fun e h => (a e h).bind fun d h1 => match d with
  | .bl true => b e h1
  | .bl false => .ok (.bl false) h1
  | _ => .bad
def sOrV (a b : SE) : SE := fun e h => (a e h).bind fun d h1 => match d with
  | .bl true => .ok (.bl true) h1
  | .bl false => b e h1
  | _ => .bad
def sNotV (a : SE) : SE := fun e h => (a e h).bind fun d h1 => match d with
  | .bl b => .ok (.bl (!b)) h1
  | _ => .bad
theorem de_and {a b : Expr} {rest : List Expr} {f g : SE} {pos : Pos} (ha : DE X W a f) (hb : DE X W (.BoolOp .And (b :: rest) pos) g) : DE X W (.BoolOp .And (a :: b :: rest) pos) (sAndV f g) := PE.of (pe_and ha hb) fun σ H Q => by
  rintro ⟨P, F, m, e, h, S, E, fin⟩
  refine rd_seq S E fin fun F1 m1 h1 H1 x dx x1 S1 E1 r1 fin1 => ?_
  cases r1 with
  | bl b =>
    cases b with
    | true => exact ⟨true, rfl, P, F1, m1, e, h1, S1, E1, fin1⟩
    | false => exact ⟨false, rfl, fin1.ok S1 (.bl _)⟩
  | _ => exact fin1.bad_elim
theorem de_or {a b : Expr} {rest : List Expr} {f g : SE} {pos : Pos} (ha : DE X W a f) (hb : DE X W (.BoolOp .Or (b :: rest) pos) g) : DE X W (.BoolOp .Or (a :: b :: rest) pos) (sOrV f g) := PE.of (pe_or ha hb) fun σ H Q => by
  rintro ⟨P, F, m, e, h, S, E, fin⟩
  refine rd_seq S E fin fun F1 m1 h1 H1 x dx x1 S1 E1 r1 fin1 => ?_
  cases r1 with
  | bl b =>
    cases b with
    | true => exact ⟨true, rfl, fin1.ok S1 (.bl _)⟩
    | false => exact ⟨false, rfl, P, F1, m1, e, h1, S1, E1, fin1⟩
  | _ => exact fin1.bad_elim
theorem rd_chain {g g' : D → D → OH → Res D} {r r' : R2} (hg : OpH X.K W g r) (hg' : OpH X.K W g' r') {fa fb fc : SE} {σ : St} {H : Hp} {Q : VK} (q : rdG X.K W (Den X.K) (sChain g g' fa fb fc) σ H Q) :
    tChain r r' (rdG X.K W (Den X.K) fa) (rdG X.K W (Den X.K) fb) (rdG X.K W (Den X.K) fc) σ H Q := by
  obtain ⟨P, F, m, e, h, S, E, fin⟩ := q
  refine rd_seq S E fin fun F1 m1 h1 H1 x dx x1 S1 E1 r1 fin1 => ?_
  refine rd_seq S1 E1 fin1 fun F2 m2 h2 H2 y dy x2 S2 E2 r2 fin2 => ?_
  refine hg P F2 m2 h2 H2 σ _ x y dx dy S2 (r1.mono x2) r2 ?_
  cases q : g dx dy h2 with
  | bad => rw [q] at fin2; exact fin2
  | exc C p h3 => rw [q] at fin2; exact fin2
  | ok z h3 =>
    rw [q] at fin2
    intro v F3 m3 H3 x3 S3 r3
    cases r3 with
    | bl b =>
      refine ⟨b, rfl, ?_⟩
      cases b with
      | true =>
        rw [if_pos rfl]
        refine rd_seq S3 ((E2.mono x3)) (FinG.weak x3 fin2) fun F4 m4 h4 H4 u du x4 S4 E4 r4 fin4 => ?_
        exact hg' P F4 m4 h4 H4 σ Q y u dy du S4 (r2.mono (x3.trans x4)) r4 fin4
      | false =>
        rw [if_neg Bool.false_ne_true]
        exact FinG.okX fin2 x3 S3 (.bl _)
    | _ => exact FinG.bad_elim fin2
theorem de_chain {a b c : Expr} {op op' : CmpOp} {pos : Pos} {g g' : D → D → OH → Res D} {r r' : R2} {fa fb fc : SE} (ho : OpR X (compareOp op) r) (ho' : OpR X (compareOp op') r') (hg : OpH X.K W g r) (hg' : OpH X.K W g' r') (ha : DE X W a fa) (hb : DE X W b fb) (hc : DE X W c fc)
    (hm : lastMarks [op, op'] [b, c] = false := by with_unfolding_all rfl) : DE X W (.Compare a [op, op'] [b, c] pos) (sChain g g' fa fb fc) := PE.of (pe_chain ho ho' ha hb hc hm) fun _ _ _ => rd_chain hg hg'
theorem de_lele {a b c : Expr} {pos : Pos} {fa fb fc : SE} (ha : DE X W a fa) (hb : DE X W b fb) (hc : DE X W c fc) (hm : lastMarks [.LtE, .LtE] [b, c] = false := by with_unfolding_all rfl) : DE X W (.Compare a [.LtE, .LtE] [b, c] pos) (sChain opLe opLe fa fb fc) :=
  de_chain op_le op_le (opI2_h0 fun _ _ _ _ => .bl _) (opI2_h0 fun _ _ _ _ => .bl _) ha hb hc hm
/-! ### subscripts, slices -/
def opIx : D → D → OH → Res D := fun a b h => match b with
  | .int i => (match a with
    | .str z => if z.length ≤ big then (match atI z.cps.toList i with
      | some c => .ok (.str ⟨#[c]⟩) h
      | none => .bad) else .bad
    | a => match seqAt h a with
      | some xs => (match atI xs i with
        | some d => .ok d h
        | none => .bad)
      | none => .bad)
  | _ => .bad
theorem atI_den {K : PySem.W.Frag} {F : Hp} {m : List Addr} {vs : List V} {ds : List D} {i : Int} {d : D} (r : DenL K F m vs ds) (e : atI ds i = some d) : ∃ v, atI vs i = some v ∧ Den K F m v d := by
  unfold atI at e ⊢
  rw [r.length]
  cases q : ixN ds.length i with
  | none => rw [q] at e; simp at e
  | some j =>
    rw [q] at e
    simp only [Option.bind_some] at e ⊢
    exact r.get e
theorem opIx_h : OpH X.K W opIx (rIx X.K) := by
  intro P F m h H σ Q x y dx dy S r1 r2 fin
  cases r2 with
  | int i =>
    have seqs : ∀ {a : D}, Den X.K F m x a → FinG X.K P W σ (Den X.K) Q F m (match seqAt h a with
      | some xs => (match atI xs i with
        | some d => .ok d h
        | none => .bad)
      | none => .bad) → rIx X.K x (.int i) H Q := by
      intro a q fin
      cases e : seqAt h a with
      | none => rw [e] at fin; exact fin.bad_elim
      | some xs =>
        rw [e] at fin
        dsimp only at fin
        obtain ⟨l, vs, rfl, hl, rl⟩ := seqAt_ok S q e
        cases e2 : atI xs i with
        | none => rw [e2] at fin; exact fin.bad_elim
        | some d =>
          rw [e2] at fin
          obtain ⟨v, e3, r3⟩ := atI_den rl e2
          rcases hl with hl | hl
          · exact .inl ⟨l, vs, i, v, rfl, rfl, hl, e3, fin.ok S r3⟩
          · exact .inr (.inl ⟨l, vs, i, v, rfl, rfl, hl, e3, fin.ok S r3⟩)
    cases dx with
    | str z =>
      cases den_str r1
      dsimp only [opIx] at fin
      by_cases hz : z.length ≤ big
      · rw [if_pos hz] at fin
        cases e : atI z.cps.toList i with
        | none => rw [e] at fin; exact fin.bad_elim
        | some c =>
          rw [e] at fin
          exact .inr (.inr ⟨z, i, c, rfl, rfl, big_line hz, e, fin.ok S (.str _)⟩)
      · rw [if_neg hz] at fin
        exact fin.bad_elim
    | _ => exact seqs r1 fin
  | _ => exact fin.bad_elim
theorem de_ix {a b : Expr} {pos : Pos} {fa fb : SE} (ha : DE X W a fa) (hb : DE X W b fb) (hs : PlainIx b := by exact fun _ _ => rfl) : DE X W (.Subscript a b pos) (sBin opIx fa fb) := PE.of (pe_ix ix_seq ha hb hs) fun _ _ _ => rd_op opIx_h
abbrev SO := Env' → OH → Res (Option Int)
abbrev relO : Rel (Option Int) (Option Int) := fun _ _ b c => b = c
abbrev DO (X : Cx) (W : WX) (e : Option Expr) (f : SO) : Prop := PO X e (rdG X.K W relO f)
def sNoPart : SO := fun _ h => .ok none h
def sPart (f : SE) : SO := fun e h => (f e h).bind fun d h1 => match d with
  | .int i => .ok (some i) h1
  | _ => .bad
theorem PO.of {e : Option Expr} {t t' : TO} (h : PO X e t) (w : ∀ σ H Q, t' σ H Q → t σ H Q) : PO X e t' := by
  obtain ⟨h⟩ := h
  constructor
  intros
  first
    | (apply h <;> first | assumption | (apply w; assumption))
theorem do_none : DO X W none sNoPart := PO.of po_none fun σ H Q => by
  rintro ⟨P, F, m, e, h, S, E, fin⟩
  exact fin.ok S rfl
theorem do_some {a : Expr} {f : SE} (ha : DE X W a f) : DO X W (some a) (sPart f) := PO.of (po_some ha) fun σ H Q => by
  rintro ⟨P, F, m, e, h, S, E, fin⟩
  refine rd_seq S E fin fun F1 m1 h1 H1 x dx x1 S1 E1 r1 fin1 => ?_
  cases r1 with
  | int i => exact ⟨i, rfl, fin1.ok S1 rfl⟩
  | _ => exact fin1.bad_elim
def cutD (xs : List D) (lo hi : Option Int) : List D := (xs.drop (HT.sIx xs.length 0 lo)).take (HT.sIx xs.length xs.length hi - HT.sIx xs.length 0 lo)
theorem cut_den {K : PySem.W.Frag} {F : Hp} {m : List Addr} {vs : List V} {ds : List D} (r : DenL K F m vs ds) (lo hi : Option Int) : DenL K F m (cutV vs lo hi) (cutD ds lo hi) := by
  unfold cutV cutD
  rw [r.length]
  exact (r.drop _).take _
def opCut (own : Bool) (a : D) (lo hi : Option Int) (h : OH) : Res D := match lsqAt h a with
  | some xs => if own then .ok (.ref h.length) (h ++ [.lst (cutD xs lo hi)]) else .ok (.lst (cutD xs lo hi)) h
  | none => (match a with
    | .tup xs => if ¬ (HT.sIx xs.length 0 lo = 0 ∧ HT.sIx xs.length xs.length hi = xs.length) then .ok (.tup (cutD xs lo hi)) h else .bad
    | _ => .bad)
def sCut (own : Bool) (a : SE) (lo hi : SO) : SE := fun e h => (a e h).bind fun x h1 => (lo e h1).bind fun l h2 => (hi e h2).bind fun u h3 => opCut own x l u h3
theorem de_cut {a : Expr} {lo hi : Option Expr} {p2 pos : Pos} {fa : SE} {fl fu : SO} (own : Bool) (ha : DE X W a fa) (hl : DO X W lo fl) (hh : DO X W hi fu) : DE X W (.Subscript a (.Slice lo hi none p2) pos) (sCut own fa fl fu) :=
  PE.of (pe_slice (sl_list.or sl_tup) ha hl hh) fun σ H Q => by
    rintro ⟨P, F, m, e, h, S, E, fin⟩
    refine rd_seq S E fin fun F1 m1 h1 H1 x dx x1 S1 E1 r1 fin1 => ?_
    refine rd_seq S1 E1 fin1 fun F2 m2 h2 H2 l dl x2 S2 E2 r2 fin2 => ?_
    refine rd_seq S2 E2 fin2 fun F3 m3 h3 H3 u du x3 S3 E3 r3 fin3 => ?_
    have r2 : l = dl := r2
    have r3 : u = du := r3
    subst r2 r3
    have r4 := r1.mono (x2.trans x3)
    unfold opCut at fin3
    cases q : lsqAt h3 dx with
    | some xs =>
      rw [q] at fin3
      obtain ⟨c, vs, rfl, hc, rc⟩ := lsqAt_ok S3 r4 q
      refine .inl ⟨c, vs, rfl, hc, fun p hp => ?_⟩
      cases own with
      | true => exact FinG.ownL fin3 S3 (cut_den rc l u) hp
      | false => exact FinG.newL fin3 S3 (cut_den rc l u) hp
    | none =>
      rw [q] at fin3
      cases r4 with
      | tup ct tt =>
        dsimp only at fin3
        rename_i c vs ds
        by_cases hz : HT.sIx ds.length 0 l = 0 ∧ HT.sIx ds.length ds.length u = ds.length
        · rw [if_neg fun z => z hz] at fin3
          exact fin3.bad_elim
        · rw [if_pos hz] at fin3
          refine .inr ⟨c, vs, rfl, Same.sqT S3.sub ct, ?_, fun p hp => fin3.newT S3 (cut_den tt l u) hp⟩
          rw [tt.length]
          exact hz
      | _ => exact fin3.bad_elim
/-! ### calls of built-ins -/
def sCall (g : List D → OH → Res D) (a : SA) : SE := fun e h => (a e h).bind g
def ClH (K : PySem.W.Frag) (W : WX) (g : List D → OH → Res D) (r : List V → Hp → VK → Prop) : Prop :=
  ∀ (P : Pins) (F : Hp) (m : List Addr) (h : OH) (H : Hp) (σ : St) (Q : VK) (vs : List V) (ds : List D), Sim K P F m h H → DenL K F m vs ds → FinG K P W σ (Den K) Q F m (g ds h) → r vs H Q
theorem rd_call {g : List D → OH → Res D} {r : List V → Hp → VK → Prop} (hg : ClH X.K W g r) {fa : SA} {σ : St} {H : Hp} {Q : VK} (q : rdG X.K W (Den X.K) (sCall g fa) σ H Q) : tCB r (rdG X.K W (DenL X.K) fa) σ H Q := by
  obtain ⟨P, F, m, e, h, S, E, fin⟩ := q
  exact rd_seq S E fin fun F1 m1 h1 H1 x dx x1 S1 E1 r1 fin1 => hg P F1 m1 h1 H1 σ Q x dx S1 r1 fin1
theorem de_blt {id : String} {g : List D → OH → Res D} {r : List V → Hp → VK → Prop} {x : Str} {p pos : Pos} {a : Expr} {es : List Expr} {fa : SA} (hc : CallR X (.builtin id) r) (hg : ClH X.K W g r) (hx : Gl X x) (hm : X.mg x = none) (hv : bootBuiltins x = some (.builtin id)) (ha : DA X W (a :: es) fa)
    (hn : x ≠ "__name__" := by decide) (hdb : (x == ("__debug__" : Str)) = false := by decide) (he : starEach (a :: es) X.env = (false, eval a X.env) :: starEach es X.env := by rfl) (hpl : (backTo pos (starEach es X.env)).any (·.1) = false := by rfl) : DE X W (.Call (.Name x p) (a :: es) [] pos) (sCall g fa) :=
  PE.of (pe_callB hc hx hm hv ha hn hdb he hpl) fun _ _ _ => rd_call hg
theorem de_bty {T : String} {g : List D → OH → Res D} {r : List V → Hp → VK → Prop} {x : Str} {p pos : Pos} {a : Expr} {es : List Expr} {fa : SA} (hc : CallR X (.type T) r) (hg : ClH X.K W g r) (hx : Gl X x) (hm : X.mg x = none) (hv : bootBuiltins x = some (.type T)) (ha : DA X W (a :: es) fa)
    (hn : x ≠ "__name__" := by decide) (hdb : (x == ("__debug__" : Str)) = false := by decide) (he : starEach (a :: es) X.env = (false, eval a X.env) :: starEach es X.env := by rfl) (hpl : (backTo pos (starEach es X.env)).any (·.1) = false := by rfl) : DE X W (.Call (.Name x p) (a :: es) [] pos) (sCall g fa) :=
  PE.of (pe_callTy hc hx hm hv ha hn hdb he hpl) fun _ _ _ => rd_call hg
theorem denL1 {K : PySem.W.Frag} {F : Hp} {m : List Addr} {vs : List V} {d : D} (r : DenL K F m vs [d]) : ∃ v, vs = [v] ∧ Den K F m v d := by
  cases r with
  | cons a b =>
    cases b
    exact ⟨_, rfl, a⟩
theorem denL2 {K : PySem.W.Frag} {F : Hp} {m : List Addr} {vs : List V} {d d2 : D} (r : DenL K F m vs [d, d2]) : ∃ v v2, vs = [v, v2] ∧ Den K F m v d ∧ Den K F m v2 d2 := by
  cases r with
  | cons a b =>
    obtain ⟨v2, rfl, r2⟩ := denL1 b
    exact ⟨_, v2, rfl, a, r2⟩
def b1 (f : D → OH → Res D) : List D → OH → Res D
  | [d], h => f d h
  | _, _ => .bad
def b2 (f : D → D → OH → Res D) : List D → OH → Res D
  | [d, d2], h => f d d2 h
  | _, _ => .bad
theorem b1_inv {f : D → OH → Res D} {P : Pins} {F : Hp} {m : List Addr} {h : OH} {σ : St} {Q : VK} {vs : List V} {ds : List D} (r : DenL X.K F m vs ds) (fin : FinG X.K P W σ (Den X.K) Q F m (b1 f ds h)) : ∃ v d, vs = [v] ∧ Den X.K F m v d ∧ FinG X.K P W σ (Den X.K) Q F m (f d h) := by
  unfold b1 at fin
  split at fin
  · obtain ⟨v, rfl, r1⟩ := denL1 r
    exact ⟨v, _, rfl, r1, fin⟩
  · exact fin.bad_elim
theorem b2_inv {f : D → D → OH → Res D} {P : Pins} {F : Hp} {m : List Addr} {h : OH} {σ : St} {Q : VK} {vs : List V} {ds : List D} (r : DenL X.K F m vs ds) (fin : FinG X.K P W σ (Den X.K) Q F m (b2 f ds h)) : ∃ v v2 d d2, vs = [v, v2] ∧ Den X.K F m v d ∧ Den X.K F m v2 d2 ∧ FinG X.K P W σ (Den X.K) Q F m (f d d2 h) := by
  unfold b2 at fin
  split at fin
  · obtain ⟨v, v2, rfl, r1, r2⟩ := denL2 r
    exact ⟨v, v2, _, _, rfl, r1, r2, fin⟩
  · exact fin.bad_elim
def opLen : D → OH → Res D
  | .str z, h => if z.length ≤ big then .ok (.int z.length) h else .bad
  | d, h => (match seqAt h d with
    | some xs => .ok (.int xs.length) h
    | none => .bad)
abbrev bLen := b1 opLen
theorem bLen_h : ClH X.K W bLen (fun xs H Q => ∃ x n, xs = [x] ∧ LenV X.K x H n ∧ Q (.int n) H) := by
  intro P F m h H σ Q vs ds S r fin
  obtain ⟨v, d, rfl, r1, fin⟩ := b1_inv r fin
  have seqs : FinG X.K P W σ (Den X.K) Q F m (match seqAt h d with
    | some xs => .ok (.int xs.length) h
    | none => .bad) → ∃ x n, [v] = [x] ∧ LenV X.K x H n ∧ Q (.int n) H := by
    intro fin
    cases e : seqAt h d with
    | none => rw [e] at fin; exact fin.bad_elim
    | some xs =>
      rw [e] at fin
      obtain ⟨a, ws, rfl, ha, rl⟩ := seqAt_ok S r1 e
      refine ⟨_, xs.length, rfl, ?_, fin.ok S (.int _)⟩
      rcases ha with ha | ha
      · exact .inl ⟨ws, ha, rl.length.symm⟩
      · exact .inr ⟨ws, ha, rl.length.symm⟩
  cases d with
  | str z =>
    cases den_str r1
    dsimp only [opLen] at fin
    by_cases hz : z.length ≤ big
    · rw [if_pos hz] at fin
      exact ⟨.str z, z.length, rfl, ⟨big_line hz, rfl⟩, fin.ok S (.int _)⟩
    · rw [if_neg hz] at fin
      exact fin.bad_elim
  | _ => exact seqs fin
theorem de_len {p pos : Pos} {a : Expr} {fa : SE} (hx : Gl X "len") (hm : X.mg "len" = none) (ha : DE X W a fa) (he : starEach [a] X.env = (false, eval a X.env) :: starEach [] X.env := by rfl) : DE X W (.Call (.Name "len" p) [a] [] pos) (sCall bLen (sCons fa sNil)) :=
  de_blt call_len bLen_h hx hm PySem.boot_len (da_cons ha da_nil he) (he := he)
def opAbs : D → OH → Res D
  | .int i, h => .ok (.int (if i < 0 then -i else i)) h
  | _, _ => .bad
theorem bI2_inv {f : Int → Int → Int} {P : Pins} {F : Hp} {m : List Addr} {h : OH} {H : Hp} {σ : St} {Q : VK} {vs : List V} {ds : List D} (S : Sim X.K P F m h H) (r : DenL X.K F m vs ds) (fin : FinG X.K P W σ (Den X.K) Q F m (b2 (opI2 (fun i j => .int (f i j)) fun _ _ => true) ds h)) : ∃ i j, vs = [.int i, .int j] ∧ Q (.int (f i j)) H := by
  obtain ⟨v, v2, d, d2, rfl, r1, r2, fin⟩ := b2_inv r fin
  obtain ⟨i, j, rfl, rfl, q⟩ := opI2_h0 (X := X) (W := W) (g := fun i j => V.int (f i j)) (fun _ _ _ _ => .int _) P F m h H σ Q v v2 d d2 S r1 r2 fin
  exact ⟨i, j, rfl, q⟩
abbrev bMax := b2 (opI2 (fun i j => .int (if j > i then j else i)) fun _ _ => true)
abbrev bMin := b2 (opI2 (fun i j => .int (if j < i then j else i)) fun _ _ => true)
theorem de_max2 {p pos : Pos} {a b : Expr} {fa fb : SE} (hc : X.calm = true) (hx : Gl X "max") (hm : X.mg "max" = none) (ha : DE X W a fa) (hb : DE X W b fb) (he : starEach [a, b] X.env = (false, eval a X.env) :: starEach [b] X.env := by rfl) (he2 : starEach [b] X.env = (false, eval b X.env) :: starEach [] X.env := by rfl)
    (hpl : (backTo pos (starEach [b] X.env)).any (·.1) = false := by rfl) : DE X W (.Call (.Name "max" p) [a, b] [] pos) (sCall bMax (sCons fa (sCons fb sNil))) :=
  de_blt (call_max2 hc) (fun P F m h H σ Q vs ds S r fin => bI2_inv S r fin) hx hm (by decide +kernel) (da_cons ha (da_cons hb da_nil he2) he) (he := he) (hpl := hpl)
theorem de_min2 {p pos : Pos} {a b : Expr} {fa fb : SE} (hc : X.calm = true) (hx : Gl X "min") (hm : X.mg "min" = none) (ha : DE X W a fa) (hb : DE X W b fb) (he : starEach [a, b] X.env = (false, eval a X.env) :: starEach [b] X.env := by rfl) (he2 : starEach [b] X.env = (false, eval b X.env) :: starEach [] X.env := by rfl)
    (hpl : (backTo pos (starEach [b] X.env)).any (·.1) = false := by rfl) : DE X W (.Call (.Name "min" p) [a, b] [] pos) (sCall bMin (sCons fa (sCons fb sNil))) :=
  de_blt (call_min2 hc) (fun P F m h H σ Q vs ds S r fin => bI2_inv S r fin) hx hm (by decide +kernel) (da_cons ha (da_cons hb da_nil he2) he) (he := he) (hpl := hpl)
def opDivmod : D → D → OH → Res D
  | .int i, .int j, h => if divOk i j then .ok (.tup [.int (i / j), .int (i % j)]) h else .bad
  | _, _, _ => .bad
abbrev bDivmod := b2 opDivmod
theorem bDivmod_h : ClH X.K W bDivmod (fun xs H Q => ∃ i j, xs = [.int i, .int j] ∧ CDivP i j ∧ ∀ p, H p = none → Q (.ref p) (upd H p (.tup [.int (i / j), .int (i % j)]))) := by
  intro P F m h H σ Q vs ds S r fin
  obtain ⟨v, v2, d, d2, rfl, r1, r2, fin⟩ := b2_inv r fin
  unfold opDivmod at fin
  split at fin
  · rename_i i j
    cases den_int r1
    cases den_int r2
    by_cases hd : divOk i j = true
    · rw [if_pos hd] at fin
      unfold divOk at hd
      simp only [Bool.and_eq_true, decide_eq_true_eq] at hd
      exact ⟨i, j, rfl, ⟨hd.1, PyProof.noPylong_of_log2 hd.2⟩, fun p hp => fin.newT S (.cons (.int _) (.cons (.int _) .nil)) hp⟩
    · rw [if_neg hd] at fin
      exact fin.bad_elim
  · exact fin.bad_elim
theorem de_divmod {p pos : Pos} {a b : Expr} {fa fb : SE} (hx : Gl X "divmod") (hm : X.mg "divmod" = none) (ha : DE X W a fa) (hb : DE X W b fb) (he : starEach [a, b] X.env = (false, eval a X.env) :: starEach [b] X.env := by rfl) (he2 : starEach [b] X.env = (false, eval b X.env) :: starEach [] X.env := by rfl)
    (hpl : (backTo pos (starEach [b] X.env)).any (·.1) = false := by rfl) : DE X W (.Call (.Name "divmod" p) [a, b] [] pos) (sCall bDivmod (sCons fa (sCons fb sNil))) :=
  de_blt call_divmodW bDivmod_h hx hm (by decide +kernel) (da_cons ha (da_cons hb da_nil he2) he) (he := he) (hpl := hpl)
end
end HR
set_option Elab.async false
set_option linter.all false
set_option maxRecDepth 100000
set_option maxHeartbeats 2000000
/-! LayD: further built-ins, isinstance, attributes, methods of lists. -/
namespace HR
open PySem L2
section
variable {X : Cx} {W : WX}
/-! ### int, sum, all, any, list, tuple -/
def opInt : D → OH → Res D
  | .int i, h => .ok (.int i) h
  | .bl b, h => .ok (.int (if b then 1 else 0)) h
  | _, _ => .bad
theorem bInt_h : ClH X.K W (b1 opInt) (fun xs H Q => (∃ i, xs = [.int i] ∧ Q (.int i) H) ∨ ∃ k, xs = [.bl k] ∧ Q (.int (if k then 1 else 0)) H) := by
  intro P F m h H σ Q vs ds S r fin
  obtain ⟨v, d, rfl, r1, fin⟩ := b1_inv r fin
  cases r1 with
  | int i => exact .inl ⟨i, rfl, fin.ok S (.int _)⟩
  | bl b => exact .inr ⟨b, rfl, fin.ok S (.int _)⟩
  | _ => exact fin.bad_elim
theorem de_toint {p pos : Pos} {a : Expr} {fa : SE} (hx : Gl X "int") (hm : X.mg "int" = none) (ha : DE X W a fa) (he : starEach [a] X.env = (false, eval a X.env) :: starEach [] X.env := by rfl) : DE X W (.Call (.Name "int" p) [a] [] pos) (sCall (b1 opInt) (sCons fa sNil)) :=
  de_bty call_int1 bInt_h hx hm (by decide +kernel) (da_cons ha da_nil he) (he := he)
/-- the ints of a list, if it holds no more -/
def intsOf : List D → Option (List Int)
  | [] => some []
  | .int i :: r => (intsOf r).map (i :: ·)
  | _ => none
def bsOf : List D → Option (List Bool)
  | [] => some []
  | .bl b :: r => (bsOf r).map (b :: ·)
  | _ => none
theorem intsOf_ok {K : PySem.W.Frag} {F : Hp} {m : List Addr} : ∀ {vs : List V} {ds : List D} {ns : List Int}, DenL K F m vs ds → intsOf ds = some ns → vs = ns.map V.int
  | _, _, _, .nil, e => by simp only [intsOf, Option.some.injEq] at e; subst e; rfl
  | _, _, _, .cons (.int i) t, e => by
    simp only [intsOf, Option.map_eq_some_iff] at e
    obtain ⟨ns, e1, e2⟩ := e
    subst e2
    rw [intsOf_ok t e1]
    rfl
  | _, _, _, .cons (.non) _, e | _, _, _, .cons (.bl _) _, e | _, _, _, .cons (.str _) _, e | _, _, _, .cons (.lst _ _) _, e | _, _, _, .cons (.scr _ _) _, e | _, _, _, .cons (.tup _ _) _, e | _, _, _, .cons (.dct _ _) _, e | _, _, _, .cons (.obj _ _ _) _, e | _, _, _, .cons (.ref _) _, e | _, _, _, .cons (.exc _) _, e | _, _, _, .cons (.excf _ _ _) _, e | _, _, _, .cons (.fn _) _, e | _, _, _, .cons (.dcl _ _) _, e => by simp [intsOf] at e
theorem bsOf_ok {K : PySem.W.Frag} {F : Hp} {m : List Addr} : ∀ {vs : List V} {ds : List D} {ns : List Bool}, DenL K F m vs ds → bsOf ds = some ns → vs = ns.map V.bl
  | _, _, _, .nil, e => by simp only [bsOf, Option.some.injEq] at e; subst e; rfl
  | _, _, _, .cons (.bl b) t, e => by
    simp only [bsOf, Option.map_eq_some_iff] at e
    obtain ⟨ns, e1, e2⟩ := e
    subst e2
    rw [bsOf_ok t e1]
    rfl
  | _, _, _, .cons (.non) _, e | _, _, _, .cons (.int _) _, e | _, _, _, .cons (.str _) _, e | _, _, _, .cons (.lst _ _) _, e | _, _, _, .cons (.scr _ _) _, e | _, _, _, .cons (.tup _ _) _, e | _, _, _, .cons (.dct _ _) _, e | _, _, _, .cons (.obj _ _ _) _, e | _, _, _, .cons (.ref _) _, e | _, _, _, .cons (.exc _) _, e | _, _, _, .cons (.excf _ _ _) _, e | _, _, _, .cons (.fn _) _, e | _, _, _, .cons (.dcl _ _) _, e => by simp [bsOf] at e
@[simp] theorem intsOf_map (ns : List Int) : intsOf (ns.map D.int) = some ns := by
  induction ns with
  | nil => rfl
  | cons n r ih => simp [intsOf, ih]
@[simp] theorem bsOf_map (ns : List Bool) : bsOf (ns.map D.bl) = some ns := by
  induction ns with
  | nil => rfl
  | cons n r ih => simp [bsOf, ih]
def opSum : D → OH → Res D := fun d h => match (lsqAt h d).bind intsOf with
  | some ns => .ok (.int ns.sum) h
  | none => .bad
theorem lints_inv {P : Pins} {F : Hp} {m : List Addr} {h : OH} {H : Hp} {v : V} {d : D} {ns : List Int} (S : Sim X.K P F m h H) (r : Den X.K F m v d) (e : (lsqAt h d).bind intsOf = some ns) : ∃ a, v = .ref a ∧ SqL X.K H a (ns.map V.int) := by
  cases q : lsqAt h d with
  | none => rw [q] at e; simp at e
  | some xs =>
    rw [q] at e
    simp only [Option.bind_some] at e
    obtain ⟨a, vs, rfl, ha, rl⟩ := lsqAt_ok S r q
    rw [intsOf_ok rl e] at ha
    exact ⟨a, rfl, ha⟩
theorem lbls_inv {P : Pins} {F : Hp} {m : List Addr} {h : OH} {H : Hp} {v : V} {d : D} {ns : List Bool} (S : Sim X.K P F m h H) (r : Den X.K F m v d) (e : (lsqAt h d).bind bsOf = some ns) : ∃ a, v = .ref a ∧ SqL X.K H a (ns.map V.bl) := by
  cases q : lsqAt h d with
  | none => rw [q] at e; simp at e
  | some xs =>
    rw [q] at e
    simp only [Option.bind_some] at e
    obtain ⟨a, vs, rfl, ha, rl⟩ := lsqAt_ok S r q
    rw [bsOf_ok rl e] at ha
    exact ⟨a, rfl, ha⟩
theorem bSum_h : ClH X.K W (b1 opSum) (rSum X.K) := by
  intro P F m h H σ Q vs ds S r fin
  obtain ⟨v, d, rfl, r1, fin⟩ := b1_inv r fin
  unfold opSum at fin
  split at fin
  · rename_i ns e
    obtain ⟨a, rfl, ha⟩ := lints_inv S r1 e
    exact ⟨a, ns, rfl, ha, fin.ok S (.int _)⟩
  · exact fin.bad_elim
theorem de_sum {p pos : Pos} {a : Expr} {fa : SE} (hc : X.calm = true) (hx : Gl X "sum") (hm : X.mg "sum" = none) (ha : DE X W a fa) (he : starEach [a] X.env = (false, eval a X.env) :: starEach [] X.env := by rfl) : DE X W (.Call (.Name "sum" p) [a] [] pos) (sCall (b1 opSum) (sCons fa sNil)) :=
  de_blt (cr_sum hc) bSum_h hx hm (by decide +kernel) (da_cons ha da_nil he) (he := he)
def opAll : D → OH → Res D := fun d h => match (lsqAt h d).bind bsOf with
  | some ns => .ok (.bl (ns.all id)) h
  | none => .bad
def opAny : D → OH → Res D := fun d h => match (lsqAt h d).bind bsOf with
  | some ns => .ok (.bl (ns.any id)) h
  | none => .bad
theorem bAll_h : ClH X.K W (b1 opAll) (rAll X.K) := by
  intro P F m h H σ Q vs ds S r fin
  obtain ⟨v, d, rfl, r1, fin⟩ := b1_inv r fin
  unfold opAll at fin
  split at fin
  · rename_i ns e
    obtain ⟨a, rfl, ha⟩ := lbls_inv S r1 e
    exact ⟨a, ns, rfl, ha, fin.ok S (.bl _)⟩
  · exact fin.bad_elim
theorem de_all {p pos : Pos} {a : Expr} {fa : SE} (hc : X.calm = true) (hx : Gl X "all") (hm : X.mg "all" = none) (ha : DE X W a fa) (he : starEach [a] X.env = (false, eval a X.env) :: starEach [] X.env := by rfl) : DE X W (.Call (.Name "all" p) [a] [] pos) (sCall (b1 opAll) (sCons fa sNil)) :=
  de_blt (cr_all hc) bAll_h hx hm (by decide +kernel) (da_cons ha da_nil he) (he := he)
def opTuple : D → OH → Res D := fun d h => match d with
  | .tup xs => .ok (.tup xs) h
  | d => (match lsqAt h d with
    | some xs => .ok (.tup xs) h
    | none => .bad)
theorem bTuple_h : ClH X.K W (b1 opTuple) (fun xs H Q => ∃ p ys, xs = [.ref p] ∧ ((SqL X.K H p ys ∧ ∀ l, H l = none → Q (.ref l) (upd H l (.tup ys))) ∨ (SqT X.K H p ys ∧ Q (.ref p) H))) := by
  intro P F m h H σ Q vs ds S r fin
  obtain ⟨v, d, rfl, r1, fin⟩ := b1_inv r fin
  have lists : FinG X.K P W σ (Den X.K) Q F m (match lsqAt h d with
    | some xs => .ok (.tup xs) h
    | none => .bad) → ∃ p ys, [v] = [.ref p] ∧ ((SqL X.K H p ys ∧ ∀ l, H l = none → Q (.ref l) (upd H l (.tup ys))) ∨ (SqT X.K H p ys ∧ Q (.ref p) H)) := by
    intro fin
    cases e : lsqAt h d with
    | none => rw [e] at fin; exact fin.bad_elim
    | some xs =>
      rw [e] at fin
      obtain ⟨a, ws, rfl, ha, rl⟩ := lsqAt_ok S r1 e
      exact ⟨a, ws, rfl, .inl ⟨ha, fun l hl => FinG.newT fin S rl hl⟩⟩
  cases d with
  | tup xs =>
    obtain ⟨a, ws, rfl, ha, rl⟩ := tupAt_ok S r1 (rfl : tupAt (.tup xs) = some xs)
    exact ⟨a, ws, rfl, .inr ⟨ha, FinG.ok fin S r1⟩⟩
  | _ => exact lists fin
theorem de_tuple {p pos : Pos} {a : Expr} {fa : SE} (hx : Gl X "tuple") (hm : X.mg "tuple" = none) (ha : DE X W a fa) (he : starEach [a] X.env = (false, eval a X.env) :: starEach [] X.env := by rfl) : DE X W (.Call (.Name "tuple" p) [a] [] pos) (sCall (b1 opTuple) (sCons fa sNil)) :=
  de_bty call_tuple_of bTuple_h hx hm (by decide +kernel) (da_cons ha da_nil he) (he := he)
/-! ### isinstance of built-in types -/
def tyAt (h : OH) : D → Option String
  | .non => some "NoneType"
  | .bl _ => some "bool"
  | .int _ => some "int"
  | .str _ => some "str"
  | .lst _ => some "list"
  | .scr _ => some "list"
  | .tup _ => some "tuple"
  | .dct _ => some "dict"
  | .obj _ _ => none
  | .exc _ => none
  | .excf _ _ _ => none
  | .fn _ => none
  | .dcl _ => none
  | .ref i => (match h[i]? with
    | some (.lst _) => some "list"
    | some (.dct _) => some "dict"
    | _ => none)
def isiB (a b : String) : Bool := a == b || (a == "bool" && b == "int")
theorem kit_tab : (["NoneType", "bool", "int", "str", "list", "tuple", "dict"].all fun a => ["bool", "int", "str", "list", "tuple", "dict"].all fun b => kitB a b == some (isiB a b)) = true := by decide +kernel
theorem kit_at {a b : String} (ha : a ∈ ["NoneType", "bool", "int", "str", "list", "tuple", "dict"]) (hb : b ∈ ["bool", "int", "str", "list", "tuple", "dict"]) : kitB a b = some (isiB a b) := by
  have h := List.all_eq_true.mp kit_tab a ha
  have h2 := List.all_eq_true.mp h b hb
  exact eq_of_beq h2
theorem tyAt_mem {h : OH} {d : D} {t : String} (e : tyAt h d = some t) : t ∈ ["NoneType", "bool", "int", "str", "list", "tuple", "dict"] := by
  unfold tyAt at e
  split at e
  all_goals (try (simp only [Option.some.injEq] at e; subst e; decide))
  · cases e
  · cases e
  · cases e
  · cases e
  · cases e
  · split at e
    all_goals (try (simp only [Option.some.injEq] at e; subst e; decide))
    cases e
theorem tyAt_ok {P : Pins} {F : Hp} {m : List Addr} {h : OH} {H : Hp} {v : V} {d : D} {t : String} (S : Sim X.K P F m h H) (r : Den X.K F m v d) (e : tyAt h d = some t) : TyX X.K H v (.type t) := by
  cases r with
  | non => cases e; exact .base .non
  | bl b => cases e; exact .base (.bl b)
  | int i => cases e; exact .base (.int i)
  | str x => cases e; exact .base (.str x)
  | lst q _ => cases e; exact .base (.lst (S.sub _ _ q))
  | scr q _ =>
    cases e
    rcases S.sub.seq q with (q | ⟨o, q⟩) | ⟨o, its, n, q, c, _⟩
    · exact .base (.lst q)
    · exact .base (.frz q)
    · exact .kList q c
  | tup q _ =>
    cases e
    rcases Same.sqT S.sub q with (q | ⟨o, q⟩) | ⟨o, its, n, q, c, _⟩
    · exact .base (.tup q)
    · exact .fTuple q
    · exact .kTuple q c
  | dct q _ => cases e; exact .base (.dK (S.sub _ _ q))
  | obj _ _ _ => cases e
  | exc _ => cases e
  | excf _ _ _ => cases e
  | fn _ => cases e
  | dcl _ _ => cases e
  | ref q =>
    obtain ⟨o, h1, h2⟩ := S.own q
    unfold tyAt at e
    simp only [h1] at e
    cases o with
    | lst xs =>
      cases e
      obtain ⟨vs, k1, _⟩ := h2
      exact .base (.lst k1)
    | dct kvs =>
      cases e
      obtain ⟨ks, k1, _⟩ := h2
      exact .base (.dK k1)
    | ins _ _ => cases e
    | dead => cases e
    | nd _ _ _ => cases e
/-- isinstance(e, T) -/
def sIsi (ts : List String) (f : SE) : SE := fun e h => (f e h).bind fun d h1 => match tyAt h1 d with
  | some t => .ok (.bl (ts.any fun T => isiB t T)) h1
  | none => .bad
theorem de_isi {T : String} {x : Str} {p p2 pos : Pos} {a : Expr} {fa : SE} (hT : T ∈ ["bool", "int", "str", "list", "tuple", "dict"]) (hx : Gl X "isinstance") (hm : X.mg "isinstance" = none) (hx2 : Gl X x) (hm2 : X.mg x = none) (hv2 : bootBuiltins x = some (.type T)) (ha : DE X W a fa) (hn : x ≠ "__name__" := by decide) (hd : (x == ("__debug__" : Str)) = false := by decide)
    (he : starEach [a, .Name x p2] X.env = (false, eval a X.env) :: starEach [.Name x p2] X.env := by rfl) (he2 : starEach [.Name x p2] X.env = (false, eval (.Name x p2) X.env) :: starEach [] X.env := by rfl)
    (hpl : (backTo pos (starEach [.Name x p2] X.env)).any (·.1) = false := by rfl) : DE X W (.Call (.Name "isinstance" p) [a, .Name x p2] [] pos) (sIsi [T] fa) :=
  PE.of (pe_callB call_isi hx hm (by decide +kernel) (pa_cons ha (pa_cons (pe_bltn (v := .ty T) hx2 hm2 hv2 rfl hn hd) pa_nil he2) he) (he := he) (hpl := hpl)) fun σ H Q => by
    rintro ⟨P, F, m, e, h, S, E, fin⟩
    refine rd_seq S E fin fun F1 m1 h1 H1 x dx x1 S1 E1 r1 fin1 => ?_
    cases q : tyAt h1 dx with
    | none => rw [q] at fin1; exact fin1.bad_elim
    | some t =>
      rw [q] at fin1
      exact ⟨x, .ty T, .type t, .type T, isiB t T, rfl, .ty T, tyAt_ok S1 r1 q, kit_ty (kit_at (tyAt_mem q) hT), fin1.ok S1 (by simp only [List.any_cons, List.any_nil, Bool.or_false]; exact .bl _)⟩
theorem kitAny_two {K : PySem.W.Frag} {t T1 T2 : String} (h1 : kitB t T1 = some (isiB t T1)) (h2 : kitB t T2 = some (isiB t T2)) : PySem.W.kitAny K (.type t) [.type T1, .type T2] = some (isiB t T1 || isiB t T2) := by
  refine kitAny_cons (kit_ty h1) (fun e => ?_) (fun e => by rw [e, Bool.true_or])
  rw [e, Bool.false_or]
  refine kitAny_cons (kit_ty h2) (fun e2 => ?_) (fun e2 => e2)
  rw [e2]
  exact kitAny_nil
/-- isinstance(e, (T1, T2)) -/
theorem de_isi2 {T1 T2 : String} {x y : Str} {p p2 p3 p4 pos : Pos} {j : Nat} {a : Expr} {fa : SE} (hT1 : T1 ∈ ["bool", "int", "str", "list", "tuple", "dict"]) (hT2 : T2 ∈ ["bool", "int", "str", "list", "tuple", "dict"]) (hx : Gl X "isinstance") (hm : X.mg "isinstance" = none)
    (hx2 : Gl X x) (hm2 : X.mg x = none) (hv2 : bootBuiltins x = some (.type T1)) (hx3 : Gl X y) (hm3 : X.mg y = none) (hv3 : bootBuiltins y = some (.type T2)) (ha : DE X W a fa) (hn : x ≠ "__name__" := by decide) (hd : (x == ("__debug__" : Str)) = false := by decide) (hn3 : y ≠ "__name__" := by decide) (hd3 : (y == ("__debug__" : Str)) = false := by decide)
    (he : starEach [a, .Tuple [.Name x p2, .Name y p3] j p4] X.env = (false, eval a X.env) :: starEach [.Tuple [.Name x p2, .Name y p3] j p4] X.env := by rfl) (he2 : starEach [.Tuple [.Name x p2, .Name y p3] j p4] X.env = (false, eval (.Tuple [.Name x p2, .Name y p3] j p4) X.env) :: starEach [] X.env := by rfl)
    (he3 : starEach [.Name x p2, .Name y p3] X.env = (false, eval (.Name x p2) X.env) :: starEach [.Name y p3] X.env := by rfl) (he4 : starEach [.Name y p3] X.env = (false, eval (.Name y p3) X.env) :: starEach [] X.env := by rfl)
    (hpl : (backTo pos (starEach [.Tuple [.Name x p2, .Name y p3] j p4] X.env)).any (·.1) = false := by rfl) : DE X W (.Call (.Name "isinstance" p) [a, .Tuple [.Name x p2, .Name y p3] j p4] [] pos) (sIsi [T1, T2] fa) :=
  PE.of (pe_callB call_isiT hx hm (by decide +kernel) (pa_cons ha (pa_cons (pe_tup (pa_cons (pe_bltn (v := .ty T1) hx2 hm2 hv2 rfl hn hd) (pa_cons (pe_bltn (v := .ty T2) hx3 hm3 hv3 rfl hn3 hd3) pa_nil he4) he3)) pa_nil he2) he) (he := he) (hpl := hpl)) fun σ H Q => by
    rintro ⟨P, F, m, e, h, S, E, fin⟩
    refine rd_seq S E fin fun F1 m1 h1 H1 x dx x1 S1 E1 r1 fin1 => ?_
    refine ⟨by show 2 ≤ sizeLine; decide, fun tp hp => ?_⟩
    cases q : tyAt h1 dx with
    | none => rw [q] at fin1; exact fin1.bad_elim
    | some t =>
      rw [q] at fin1
      have S2 := S1.other (o := .tup [.ty T1, .ty T2]) hp
      refine ⟨x, tp, [.ty T1, .ty T2], .type t, [.type T1, .type T2], isiB t T1 || isiB t T2, rfl, upd_same, .cons (.ty _) (.cons (.ty _) .nil), tyAt_ok S2 r1 q, kitAny_two (kit_at (tyAt_mem q) hT1) (kit_at (tyAt_mem q) hT2), fin1.ok S2 ?_⟩
      simp only [List.any_cons, List.any_nil, Bool.or_false]
      exact .bl _
/-! ### attributes -/
theorem ofString_inj {a b : String} (h : Str.ofString a = Str.ofString b) : a = b := by
  rw [Str.ofString_eq_toList, Str.ofString_eq_toList] at h
  have h2 : (a.toList.map Char.toNat) = (b.toList.map Char.toNat) := by simpa using h
  have h3 : a.toList = b.toList := by
    have inj : ∀ (l l' : List Char), l.map Char.toNat = l'.map Char.toNat → l = l' := by
      intro l
      induction l with
      | nil => intro l' e; cases l' with
        | nil => rfl
        | cons _ _ => simp at e
      | cons c l ih => intro l' e; cases l' with
        | nil => simp at e
        | cons c' l' =>
          simp only [List.map_cons, List.cons.injEq] at e
          rw [Char.toNat_inj.mp e.1, ih l' e.2]
    exact inj _ _ h2
  exact String.toList_inj.mp h3
theorem ofString_beq (a b : String) : (Str.ofString a == Str.ofString b) = (a == b) := by
  by_cases e : a = b
  · subst e; simp
  · have e2 : Str.ofString a ≠ Str.ofString b := fun z => e (ofString_inj z)
    rw [beq_eq_false_iff_ne.mpr e, beq_eq_false_iff_ne.mpr e2]
theorem DenF.look {K : PySem.W.Frag} {F : Hp} {m : List Addr} {f : String} {d : D} : ∀ {fv : List (Str × V)} {fs : List (String × D)}, DenF K F m fv fs → fs.lookup f = some d → ∃ v, fv.lookup (Str.ofString f) = some v ∧ Den K F m v d
  | _, _, .nil, e => by simp at e
  | _, _, .cons (f := g) h t, e => by
    rw [List.lookup_cons] at e ⊢
    rw [ofString_beq]
    cases q : (f == g) with
    | true =>
      rw [q] at e
      simp only [Option.some.injEq] at e
      subst e
      exact ⟨_, rfl, h⟩
    | false =>
      rw [q] at e
      exact DenF.look t e
theorem DenF.none {K : PySem.W.Frag} {F : Hp} {m : List Addr} {f : String} : ∀ {fv : List (Str × V)} {fs : List (String × D)}, DenF K F m fv fs → fs.lookup f = none → fv.lookup (Str.ofString f) = none
  | _, _, .nil, _ => rfl
  | _, _, .cons (f := g) h t, e => by
    rw [List.lookup_cons] at e ⊢
    rw [ofString_beq]
    cases q : (f == g) with
    | true => rw [q] at e; cases e
    | false => rw [q] at e; exact DenF.none t e
def putS (f : String) (d : D) : List (String × D) → List (String × D)
  | [] => [(f, d)]
  | (g, x) :: r => if g = f then (g, d) :: r else (g, x) :: putS f d r
/-- the fields of an instance -/
def insAt (h : OH) : D → Option (String × List (String × D))
  | .obj C fs => some (C, fs)
  | .ref i => (match h[i]? with
    | some (.ins C fs) => some (C, fs)
    | _ => none)
  | _ => none
theorem insAt_ok {K : PySem.W.Frag} {P : Pins} {F : Hp} {m : List Addr} {h : OH} {H : Hp} {v : V} {d : D} {C : String} {fs : List (String × D)} (S : Sim K P F m h H) (r : Den K F m v d) (q : insAt h d = some (C, fs)) : ∃ a dx fv, v = .ref a ∧ H a = some (.ins (He.ga K (Str.ofString C)) dx fv) ∧ ObT K C fs ∧ DenF K F m fv fs := by
  cases r with
  | obj e t r => cases q; exact ⟨_, _, _, rfl, S.sub _ _ e, t, r⟩
  | ref e =>
    obtain ⟨o, h1, h2⟩ := S.own e
    unfold insAt at q
    simp only [h1] at q
    cases o with
    | ins C' fs' =>
      cases q
      obtain ⟨dx, fv, k1, k2, k3, _⟩ := h2
      exact ⟨_, dx, fv, rfl, k1, k2, k3⟩
    | _ => cases q
  | _ => cases q
theorem mem_of_lookup {f : String} {d : D} : ∀ {fs : List (String × D)}, fs.lookup f = some d → ∃ q ∈ fs, q.1 = f
  | [], e => by simp at e
  | (g, x) :: r, e => by
    rw [List.lookup_cons] at e
    cases q : (f == g) with
    | true => exact ⟨(g, x), List.mem_cons_self, (eq_of_beq q).symm⟩
    | false =>
      rw [q] at e
      obtain ⟨p, hp, e2⟩ := mem_of_lookup e
      exact ⟨p, List.mem_cons_of_mem _ hp, e2⟩
def opFld (f : String) : D → OH → Res D := fun d h => match insAt h d with
  | some q => (match q.2.lookup f with
    | some x => .ok x h
    | none => .bad)
  | none => .bad
theorem de_fld {a : Expr} {f : String} {pos : Pos} {fa : SE} (ha : DE X W a fa) (hb : attributeBase a (Str.ofString f) X.env (eval a X.env) = eval a X.env := by rfl) : DE X W (.Attribute a (Str.ofString f) pos) (sUn (opFld f) fa) := PE.of (pe_fld ha hb) fun σ H Q => by
  rintro ⟨P, F, m, e, h, S, E, fin⟩
  refine rd_seq S E fin fun F1 m1 h1 H1 x dx x1 S1 E1 r1 fin1 => ?_
  unfold opFld at fin1
  cases q : insAt h1 dx with
  | none => rw [q] at fin1; exact fin1.bad_elim
  | some z =>
    obtain ⟨C, fs⟩ := z
    rw [q] at fin1
    dsimp only at fin1
    obtain ⟨b, dxx, fv, rfl, hb2, ob, rf⟩ := insAt_ok S1 r1 q
    cases q2 : fs.lookup f with
    | none => rw [q2] at fin1; exact fin1.bad_elim
    | some d =>
      rw [q2] at fin1
      obtain ⟨v, l, rv⟩ := rf.look q2
      obtain ⟨p, hp, e2⟩ := mem_of_lookup q2
      subst e2
      exact ⟨b, _, dxx, fv, v, rfl, hb2, ob.1, ob.2 p hp, l, fin1.ok S1 rv⟩
/-! ### methods of own lists -/
/-- the receiver must be an own list all along -/
def isOwn (h : OH) : D → Bool
  | .ref i => (match h[i]? with
    | some (.lst _) => true
    | _ => false)
  | _ => false
def sMtO (g : Nat → List D → List D → OH → Res D) (o : SE) (a : SA) : SE := fun e h => (o e h).bind fun x h1 => if isOwn h1 x then (a e h1).bind fun ys h2 => (match x with
    | .ref i => (match h2[i]? with
      | some (.lst xs) => g i xs ys h2
      | _ => .bad)
    | _ => .bad) else .bad
theorem rd_mt {g : Nat → List D → List D → OH → Res D} {r : V → List V → Hp → VK → Prop} {fo : SE} {fa : SA} {σ : St} {H : Hp} {Q : VK}
    (hg : ∀ (P : Pins) (F : Hp) (m : List Addr) (h : OH) (H : Hp) (i : Nat) (a : Addr) (vs ws : List V) (xs ys : List D), Sim X.K P F m h H → m[i]? = some a → h[i]? = some (.lst xs) → H a = some (.lst vs) → DenL X.K F m vs xs → F a = none → DenL X.K F m ws ys → FinG X.K P W σ (Den X.K) Q F m (g i xs ys h) → r (.ref a) ws H Q)
    (q : rdG X.K W (Den X.K) (sMtO g fo fa) σ H Q) : rdG X.K W (Den X.K) fo σ H (fun x H1 => tyV X.K "list" x H1 ∧ rdG X.K W (DenL X.K) fa σ H1 fun xs H2 => r x xs H2 Q) := by
  obtain ⟨P, F, m, e, h, S, E, fin⟩ := q
  refine rd_seq S E fin fun F1 m1 h1 H1 x dx x1 S1 E1 r1 fin1 => ?_
  by_cases ho : isOwn h1 dx = true
  · rw [if_pos ho] at fin1
    cases r1 with
    | @ref a i e1 =>
      have ty : tyV X.K "list" (.ref a) H1 := by
        obtain ⟨o, k1, k2⟩ := S1.own e1
        simp only [isOwn, k1] at ho
        cases o with
        | lst xs =>
          obtain ⟨vs, k3, _⟩ := k2
          exact .inl ⟨rfl, vs, .inl (.inl k3)⟩
        | _ => cases ho
      refine ⟨ty, ?_⟩
      refine rd_seq S1 E1 fin1 fun F2 m2 h2 H2 ws ys x2 S2 E2 r2 fin2 => ?_
      have e2 := pre_get x2.p e1
      obtain ⟨o, k1, k2⟩ := S2.own e2
      dsimp only at fin2
      rw [k1] at fin2
      cases o with
      | lst xs =>
        obtain ⟨vs, k3, k4, k5⟩ := k2
        exact hg P F2 m2 h2 H2 i a vs ws xs ys S2 e2 k1 k3 k4 k5 r2 fin2
      | _ => exact fin2.bad_elim
    | _ => simp [isOwn] at ho
  · rw [if_neg ho] at fin1
    exact fin1.bad_elim
def gAppend (i : Nat) (xs ys : List D) (h : OH) : Res D := match ys with
  | [y] => if xs.length < big then .ok .non (h.set i (.lst (xs ++ [y]))) else .bad
  | _ => .bad
theorem de_append {o a : Expr} {fo fa : SE} {apos cpos : Pos} (ho : DE X W o fo) (ha : DE X W a fa) (hbase : attributeBase o "append" X.env (eval o X.env) = eval o X.env := by rfl)
    (hfew : ((backTo cpos (starEach [a] X.env)).all (fun x => !x.1) && (backToKw cpos (keywordEach [] X.env)).all (fun x => x.1.isSome) && decide (([a] : List Expr).length + ([] : List Keyword).length + (if ([] : List Keyword).isEmpty then 0 else 1) < 30)) = true := by rfl)
    (hline : (apos.endLine == cpos.line) = true := by rfl) (hs : starEach [a] X.env = (false, eval a X.env) :: starEach [] X.env := by rfl) (hplain : (backTo cpos (starEach [] X.env)).any (·.1) = false := by rfl) : DE X W (.Call (.Attribute o "append" apos) [a] [] cpos) (sMtO gAppend fo (sCons fa sNil)) :=
  PE.of (pe_bm PySem.F.plainAttrs_list PySem.F.slot_list_append PySem.F.type_list_append mt_append ho (da_cons ha da_nil hs) hbase hfew hline hs hplain) fun σ H Q => rd_mt (r := rAppend) fun P F m h H i a vs ws xs ys S e1 e2 ha rl nf rw fin => by
    unfold gAppend at fin
    split at fin
    · rename_i y
      obtain ⟨w, rfl, ry⟩ := denL1 rw
      by_cases hz : xs.length < big
      · rw [if_pos hz] at fin
        refine ⟨a, vs, w, rfl, rfl, ha, by rw [rl.length]; exact big_lt hz, fin.ok (S.write e1 e2 nf ⟨_, upd_same, rl.append (.cons ry .nil), nf⟩) .non⟩
      · rw [if_neg hz] at fin
        exact fin.bad_elim
    · exact fin.bad_elim
def gPopAt (i : Nat) (xs ys : List D) (h : OH) : Res D := match ys with
  | [.int k] => if -(2 ^ 63) ≤ k ∧ k < 2 ^ 63 then (match seqIndex? k xs.length with
    | some j => (match xs[j]? with
      | some y => .ok y (h.set i (.lst (xs.eraseIdx j)))
      | none => .bad)
    | none => .bad) else .bad
  | _ => .bad
theorem de_popAt {o a : Expr} {fo fa : SE} {apos cpos : Pos} (ho : DE X W o fo) (ha : DE X W a fa) (hbase : attributeBase o "pop" X.env (eval o X.env) = eval o X.env := by rfl)
    (hfew : ((backTo cpos (starEach [a] X.env)).all (fun x => !x.1) && (backToKw cpos (keywordEach [] X.env)).all (fun x => x.1.isSome) && decide (([a] : List Expr).length + ([] : List Keyword).length + (if ([] : List Keyword).isEmpty then 0 else 1) < 30)) = true := by rfl)
    (hline : (apos.endLine == cpos.line) = true := by rfl) (hs : starEach [a] X.env = (false, eval a X.env) :: starEach [] X.env := by rfl) (hplain : (backTo cpos (starEach [] X.env)).any (·.1) = false := by rfl) : DE X W (.Call (.Attribute o "pop" apos) [a] [] cpos) (sMtO gPopAt fo (sCons fa sNil)) :=
  PE.of (pe_bm PySem.F.plainAttrs_list PySem.F.slot_list_pop PySem.F.type_list_pop mt_popAt ho (da_cons ha da_nil hs) hbase hfew hline hs hplain) fun σ H Q => rd_mt (r := rPopAt) fun P F m h H i a vs ws xs ys S e1 e2 ha rl nf rw fin => by
    unfold gPopAt at fin
    split at fin
    · rename_i k
      obtain ⟨w, rfl, ry⟩ := denL1 rw
      cases den_int ry
      by_cases hz : -(2 ^ 63) ≤ k ∧ k < 2 ^ 63
      · rw [if_pos hz] at fin
        cases q : seqIndex? k xs.length with
        | none => rw [q] at fin; exact fin.bad_elim
        | some j =>
          rw [q] at fin
          dsimp only at fin
          cases q2 : xs[j]? with
          | none => rw [q2] at fin; exact fin.bad_elim
          | some y =>
            rw [q2] at fin
            obtain ⟨v, e3, rv⟩ := rl.get q2
            exact ⟨a, vs, k, j, v, rfl, rfl, ha, hz.1, hz.2, by rw [rl.length]; exact q, e3, fin.ok (S.write e1 e2 nf ⟨_, upd_same, rl.eraseIdx j, nf⟩) rv⟩
      · rw [if_neg hz] at fin
        exact fin.bad_elim
    · exact fin.bad_elim
end
end HR
set_option Elab.async false
set_option linter.all false
set_option maxRecDepth 100000
set_option maxHeartbeats 2000000
/-! LayE: statements, targets, loops, comprehensions. -/
namespace HR
open PySem L2
def FinS (K : PySem.W.Frag) (P : Pins) (W : WX) (Dn : Ends) (F : Hp) (m : List Addr) : SRes → Prop
  | .nx e h' => ∀ σ F' m' H', Ext F m F' m' → Sim K P F' m' h' H' → EnvR K F' m' σ e → Dn.nx σ H'
  | .bk e h' => ∀ σ F' m' H', Ext F m F' m' → Sim K P F' m' h' H' → EnvR K F' m' σ e → Dn.bk σ H'
  | .ct e h' => ∀ σ F' m' H', Ext F m F' m' → Sim K P F' m' h' H' → EnvR K F' m' σ e → Dn.ct σ H'
  | .rt d h' => ∀ v F' m' H', Ext F m F' m' → Sim K P F' m' h' H' → Den K F' m' v d → Dn.rt v H'
  | .exc C p e h' => ∀ od σ F' m' H', Ext F m F' m' → Sim K P F' m' h' H' → PayD K F' m' p od → EnvR K F' m' σ e → W (.ref (He.ga K (Str.ofString C))) od σ H'
  | .bad => False
def rdS (K : PySem.W.Frag) (W : WX) (f : SS) : TS := fun Dn σ H => ∃ P F m e h, Sim K P F m h H ∧ EnvR K F m σ e ∧ FinS K P W Dn F m (f e h)
abbrev DS (X : Cx) (W : WX) (st : Stmt) (f : SS) : Prop := PS X st (rdS X.K W f)
abbrev DSs (X : Cx) (W : WX) (sts : List Stmt) (f : SS) : Prop := PSs X sts (rdS X.K W f)
/-- behind an expression -/
def Res.toS {α : Type} (r : Res α) (e : Env') (g : α → OH → SRes) : SRes := match r with
  | .ok a h => g a h
  | .exc C p h => .exc C p e h
  | .bad => .bad
@[simp] theorem Res.toS_ok {α : Type} (a : α) (h : OH) (e : Env') (g : α → OH → SRes) : (Res.ok a h).toS e g = g a h := rfl
@[simp] theorem Res.toS_bad {α : Type} (e : Env') (g : α → OH → SRes) : (Res.bad : Res α).toS e g = .bad := rfl
@[simp] theorem Res.toS_exc {α : Type} (C : String) (p : Pay) (h : OH) (e : Env') (g : α → OH → SRes) : (Res.exc C p h : Res α).toS e g = .exc C p e h := rfl
section
variable {K : PySem.W.Frag} {P : Pins} {W : WX} {σ : St} {F F' : Hp} {m m' : List Addr} {h : OH} {H : Hp} {e : Env'} {Dn : Ends}
theorem FinS.weak (x : Ext F m F' m') : ∀ {r : SRes}, FinS K P W Dn F m r → FinS K P W Dn F' m' r
  | .nx _ _, q => fun σ F2 m2 H2 y => q σ F2 m2 H2 (x.trans y)
  | .bk _ _, q => fun σ F2 m2 H2 y => q σ F2 m2 H2 (x.trans y)
  | .ct _ _, q => fun σ F2 m2 H2 y => q σ F2 m2 H2 (x.trans y)
  | .rt _ _, q => fun v F2 m2 H2 y => q v F2 m2 H2 (x.trans y)
  | .exc _ _ _ _, q => fun od σ F2 m2 H2 y => q od σ F2 m2 H2 (x.trans y)
  | .bad, q => q
/-- an expression, then more -/
theorem st_seq {α β : Type} {rel : Rel β α} {f : Env' → OH → Res α} {g : α → OH → SRes} {R : β → Hp → Prop} (S : Sim K P F m h H) (E : EnvR K F m σ e) (fin : FinS K P W Dn F m ((f e h).toS e g))
    (k : ∀ F' m' h' H' v a, Ext F m F' m' → Sim K P F' m' h' H' → EnvR K F' m' σ e → rel F' m' v a → FinS K P W Dn F' m' (g a h') → R v H') : rdG K W rel f σ H R := by
  refine ⟨P, F, m, e, h, S, E, ?_⟩
  cases q : f e h with
  | ok a h1 =>
    rw [q] at fin
    exact fun v F1 m1 H1 x S1 r => k F1 m1 h1 H1 v a x S1 (E.mono x) r (FinS.weak x fin)
  | exc C p h1 =>
    rw [q] at fin
    exact fun od F1 m1 H1 x S1 pd => fin od σ F1 m1 H1 x S1 pd (E.mono x)
  | bad =>
    rw [q] at fin
    exact fin.elim
theorem EnvR.set (E : EnvR K F m σ e) (i : Nat) {v : V} {d : D} (r : Den K F m v d) : EnvR K F m (σ.set i (some v)) (e.set i (some d)) := by
  refine ⟨by simp [E.len], fun j c q => ?_⟩
  by_cases hj : i = j
  · subst hj
    rw [List.getElem?_set] at q
    simp only [if_true] at q
    by_cases hi : i < e.length
    · rw [if_pos hi] at q
      simp only [Option.some.injEq] at q
      subst q
      exact ⟨v, by rw [List.getElem?_set_self (by rw [E.len]; exact hi)], r⟩
    · rw [if_neg hi] at q
      cases q
  · rw [List.getElem?_set_ne hj] at q
    obtain ⟨w, a, b⟩ := E.at_ j c q
    exact ⟨w, by rw [List.getElem?_set_ne hj]; exact a, b⟩
theorem EnvR.clr (E : EnvR K F m σ e) (i : Nat) : EnvR K F m (σ.set i none) (e.set i none) := by
  refine ⟨by simp [E.len], fun j c q => ?_⟩
  by_cases hj : i = j
  · subst hj
    rw [List.getElem?_set] at q
    simp only [if_true] at q
    split at q <;> cases q
  · rw [List.getElem?_set_ne hj] at q
    obtain ⟨w, a, b⟩ := E.at_ j c q
    exact ⟨w, by rw [List.getElem?_set_ne hj]; exact a, b⟩
def wipeD (e : Env') : List Nat → Env'
  | [] => e
  | v :: vs => (wipeD e vs).set v none
theorem EnvR.wipe (E : EnvR K F m σ e) : ∀ vs : List Nat, EnvR K F m (L2.wipe σ vs) (wipeD e vs)
  | [] => E
  | v :: vs => (E.wipe vs).clr v
end
theorem wipe_set {σ : St} {i : Nat} {x : Option V} : ∀ {vs : List Nat}, i ∈ vs → L2.wipe (σ.set i x) vs = L2.wipe σ vs
  | [], h => by simp at h
  | v :: vs, h => by
    show (L2.wipe (σ.set i x) vs).set v none = (L2.wipe σ vs).set v none
    by_cases hi : i ∈ vs
    · rw [wipe_set hi]
    · have hv : i = v := by
        rcases List.mem_cons.mp h with h | h
        · exact h
        · exact absurd h hi
      subst hv
      have comm : ∀ (ws : List Nat), i ∉ ws → L2.wipe (σ.set i x) ws = (L2.wipe σ ws).set i x := by
        intro ws
        induction ws with
        | nil => intro _; rfl
        | cons w ws ih =>
          intro hw
          simp only [List.mem_cons, not_or] at hw
          show (L2.wipe (σ.set i x) ws).set w none = ((L2.wipe σ ws).set w none).set i x
          rw [ih hw.2, List.set_comm _ _ (fun z => hw.1 z)]
      rw [comm vs hi, List.set_set]
section
variable {X : Cx} {W : WX}
theorem PS.of {st : Stmt} {t t' : TS} (h : PS X st t) (w : ∀ Dn σ H, t' Dn σ H → t Dn σ H) : PS X st t' := ⟨fun pins s σ H Dn I q => h.run pins s σ H Dn I (w Dn σ H q)⟩
theorem PSs.of {st : List Stmt} {t t' : TS} (h : PSs X st t) (w : ∀ Dn σ H, t' Dn σ H → t Dn σ H) : PSs X st t' := ⟨fun pins s σ H Dn I q => h.run pins s σ H Dn I (w Dn σ H q)⟩
def sNext : SS := fun e h => .nx e h
def sSeq (f g : SS) : SS := fun e h => match f e h with
  | .nx e1 h1 => g e1 h1
  | r => r
def sBreak : SS := fun e h => .bk e h
def sCont : SS := fun e h => .ct e h
def sExpr (f : SE) : SS := fun e h => (f e h).toS e fun _ h1 => .nx e h1
def sRet (f : SE) : SS := fun e h => (f e h).toS e fun d h1 => .rt d h1
def sRetN : SS := fun _ h => .rt .non h
def sSet (i : Nat) (f : SE) : SS := fun e h => (f e h).toS e fun d h1 => .nx (e.set i (some d)) h1
def sIfS (c : ST) (a b : SS) : SS := fun e h => (c e h).toS e fun t h1 => if t then a e h1 else b e h1
theorem ds_nil : DSs X W [] sNext := PSs.of pss_nil fun Dn σ H => by
  rintro ⟨P, F, m, e, h, S, E, fin⟩
  exact fin σ F m H .refl S E
theorem ds_cons {st : Stmt} {rest : List Stmt} {f g : SS} (h1 : DS X W st f) (h2 : DSs X W rest g) : DSs X W (st :: rest) (sSeq f g) := PSs.of (pss_cons h1 h2) fun Dn σ H => by
  rintro ⟨P, F, m, e, h, S, E, fin⟩
  refine ⟨P, F, m, e, h, S, E, ?_⟩
  unfold sSeq at fin
  cases q : f e h with
  | nx e1 h1 =>
    rw [q] at fin
    exact fun σ' F1 m1 H1 x S1 E1 => ⟨P, F1, m1, e1, h1, S1, E1, FinS.weak x fin⟩
  | bk e1 h1 => rw [q] at fin; exact fin
  | ct e1 h1 => rw [q] at fin; exact fin
  | rt d h1 => rw [q] at fin; exact fin
  | exc C p e1 h1 => rw [q] at fin; exact fin
  | bad => rw [q] at fin; exact fin
theorem ds_one {st : Stmt} {f : SS} (h1 : DS X W st f) : DSs X W [st] f := PSs.of (pss_one h1) fun Dn σ H q => q
theorem ds_break {pos : Pos} : DS X W (.Break pos) sBreak := PS.of ps_break fun Dn σ H => by
  rintro ⟨P, F, m, e, h, S, E, fin⟩
  exact fin σ F m H .refl S E
theorem ds_expr {a : Expr} {f : SE} {pos : Pos} (ha : DE X W a f) (hs : swapsWith a none pos.line X.env = pure false := by rfl) : DS X W (.Expr a pos) (sExpr f) := PS.of (ps_expr ha hs) fun Dn σ H => by
  rintro ⟨P, F, m, e, h, S, E, fin⟩
  exact st_seq S E fin fun F1 m1 h1 H1 v d x S1 E1 r fin1 => fin1 σ F1 m1 H1 .refl S1 E1
theorem ds_ret {a : Expr} {f : SE} {pos : Pos} (ha : DE X W a f) : DS X W (.Return (some a) pos) (sRet f) := PS.of (ps_ret ha) fun Dn σ H => by
  rintro ⟨P, F, m, e, h, S, E, fin⟩
  exact st_seq S E fin fun F1 m1 h1 H1 v d x S1 E1 r fin1 => fin1 v F1 m1 H1 .refl S1 r
theorem ds_set (i : Nat) {x : Str} {a : Expr} {f : SE} {pos pos' : Pos} (hN : X.N.Nodup) (ha : DE X W a f) (hi : X.N[i]? = some x := by rfl) (hx : Loc X.env.scope x := by first | exact Or.inl rfl | exact Or.inr rfl) (hs : swapsWith a (some (.Name x pos')) pos.line X.env = pure false := by rfl)
    (hf : X.fn x = true ∨ X.env.scope.names.lookup x = some .local := by first | exact .inl rfl | exact .inr rfl | assumption) : DS X W (.Assign [.Name x pos'] a pos) (sSet i f) := PS.of (ps_set hN hi hx ha hs hf) fun Dn σ H => by
  rintro ⟨P, F, m, e, h, S, E, fin⟩
  exact st_seq S E fin fun F1 m1 h1 H1 v d x S1 E1 r fin1 => fin1 _ F1 m1 H1 .refl S1 (E1.set i r)
theorem ds_if {c : Expr} {a b : List Stmt} {fc : ST} {fa fb : SS} {pos : Pos} (hc : DT X W c fc) (ha : DSs X W a fa) (hb : DSs X W b fb) : DS X W (.If c a b pos) (sIfS fc fa fb) := PS.of (ps_if hc ha hb) fun Dn σ H => by
  rintro ⟨P, F, m, e, h, S, E, fin⟩
  refine st_seq S E fin fun F1 m1 h1 H1 v d x S1 E1 r fin1 => ?_
  have r : v = d := r
  subst r
  cases v with
  | true => exact ⟨P, F1, m1, e, h1, S1, E1, fin1⟩
  | false => exact ⟨P, F1, m1, e, h1, S1, E1, fin1⟩
/-! ### targets -/
abbrev TF := D → Env' → OH → Option Env'
def rdTG (K : PySem.W.Frag) (vs : List Nat) (g : TF) : TG := fun v σ H Q => ∃ P F m e h d, Sim K P F m h H ∧ EnvR K F m σ e ∧ Den K F m v d ∧ ∃ e', g d e h = some e' ∧ ∀ σ', EnvR K F m σ' e' → L2.wipe σ' vs = L2.wipe σ vs → Q σ' H
abbrev DG (X : Cx) (vs : List Nat) (tg : Expr) (g : TF) : Prop := PG X tg (rdTG X.K vs g)
abbrev TFs := List D → Env' → OH → Option Env'
def rdTGs (K : PySem.W.Frag) (vs : List Nat) (g : TFs) : TGs := fun ws σ H Q => ∃ P F m e h ds, Sim K P F m h H ∧ EnvR K F m σ e ∧ DenL K F m ws ds ∧ ∃ e', g ds e h = some e' ∧ ∀ σ', EnvR K F m σ' e' → L2.wipe σ' vs = L2.wipe σ vs → Q σ' H
abbrev DGs (X : Cx) (vs : List Nat) (ts : List Expr) (g : TFs) : Prop := PGs X ts (rdTGs X.K vs g)
theorem PG.of {tg : Expr} {t t' : TG} (h : PG X tg t) (w : ∀ v σ H Q, t' v σ H Q → t v σ H Q) : PG X tg t' := ⟨fun pins s σ H v u Q I r q => h.run pins s σ H v u Q I r (w v σ H Q q)⟩
theorem PGs.of {ts : List Expr} {t t' : TGs} (h : PGs X ts t) (w : ∀ v σ H Q, t' v σ H Q → t v σ H Q) : PGs X ts t' := ⟨fun pins s σ H v u Q I r q => h.run pins s σ H v u Q I r (w v σ H Q q)⟩
theorem pgOr {tg : Expr} {t t' : TG} (h : PG X tg t) (h' : PG X tg t') : PG X tg (fun v σ H Q => t v σ H Q ∨ t' v σ H Q) := ⟨fun pins s σ H v u Q I r q => q.elim (h.run pins s σ H v u Q I r) (h'.run pins s σ H v u Q I r)⟩
def gN (i : Nat) : TF := fun d e _ => some (e.set i (some d))
def gNl : TFs := fun ds e _ => match ds with
  | [] => some e
  | _ => none
def gCs (g : TF) (r : TFs) : TFs := fun ds e h => match ds with
  | d :: ds => (g d e h).bind fun e1 => r ds e1 h
  | [] => none
/-- a tuple or a list of n -/
def gT (n : Nat) (g : TFs) : TF := fun d e h => match seqAt h d with
  | some xs => if xs.length = n then g xs e h else none
  | none => none
theorem dg_name (i : Nat) {x : Str} {pos : Pos} {vs : List Nat} (hN : X.N.Nodup) (hi : X.N[i]? = some x := by rfl) (hx : Loc X.env.scope x := by first | exact Or.inl rfl | exact Or.inr rfl) (hv : i ∈ vs := by simp) (hf : X.fn x = true ∨ X.env.scope.names.lookup x = some .local := by first | exact .inl rfl | exact .inr rfl | assumption) : DG X vs (.Name x pos) (gN i) :=
  PG.of (pg_name hN hi hx hf) fun v σ H Q => by
    rintro ⟨P, F, m, e, h, d, S, E, r, e', q, k⟩
    cases q
    exact k _ (E.set i r) (wipe_set hv)
theorem dg_nil {vs : List Nat} : DGs X vs [] gNl := PGs.of pgs_nil fun v σ H Q => by
  rintro ⟨P, F, m, e, h, ds, S, E, r, e', q, k⟩
  cases r with
  | nil =>
    cases q
    exact ⟨rfl, k σ E rfl⟩
  | cons _ _ => cases q
theorem dg_cons {t : Expr} {ts : List Expr} {vs : List Nat} {g : TF} {gr : TFs} (h1 : DG X vs t g) (h2 : DGs X vs ts gr) (hs : (assignEach (t :: ts) X.env).map (·.2) = assign t X.env :: (assignEach ts X.env).map (·.2) := by rfl) : DGs X vs (t :: ts) (gCs g gr) := PGs.of (pgs_cons h1 h2 hs) fun v σ H Q => by
  rintro ⟨P, F, m, e, h, ds, S, E, r, e', q, k⟩
  cases r with
  | nil => cases q
  | @cons v d ws ds a b =>
    simp only [gCs, Option.bind_eq_some_iff] at q
    obtain ⟨e1, q1, q2⟩ := q
    exact ⟨v, ws, rfl, P, F, m, e, h, d, S, E, a, e1, q1, fun σ1 E1 w1 => ⟨P, F, m, e1, h, ds, S, E1, b, e', q2, fun σ2 E2 w2 => k σ2 E2 (w2.trans w1)⟩⟩
theorem dg_tup {ts : List Expr} {n j : Nat} {vs : List Nat} {pos : Pos} {gr : TFs} (hc : X.calm = true) (h : DGs X vs ts gr) (hn : ts.length = n := by rfl) (h1 : PG X (.Tuple ts j pos) (gTup X.K n (rdTGs X.K vs gr))) (h2 : PG X (.Tuple ts j pos) (gLst X.K n (rdTGs X.K vs gr))) : DG X vs (.Tuple ts j pos) (gT n gr) :=
  PG.of (pgOr h1 h2) fun v σ H Q => by
    rintro ⟨P, F, m, e, h, d, S, E, r, e', q, k⟩
    unfold gT at q
    cases q1 : seqAt h d with
    | none => rw [q1] at q; cases q
    | some xs =>
      rw [q1] at q
      dsimp only at q
      by_cases hz : xs.length = n
      · rw [if_pos hz] at q
        obtain ⟨a, ws, rfl, ha, rl⟩ := seqAt_ok S r q1
        have body : rdTGs X.K vs gr ws σ H Q := ⟨P, F, m, e, h, xs, S, E, rl, e', q, k⟩
        rcases ha with ha | ha
        · exact .inr ⟨a, ws, rfl, ha, by rw [rl.length]; exact hz, body⟩
        · exact .inl ⟨a, ws, rfl, ha, by rw [rl.length]; exact hz, body⟩
      · rw [if_neg hz] at q
        cases q
/-- target = e, a tuple of names -/
def sAsg (g : TF) (f : SE) : SS := fun e h => (f e h).toS e fun d h1 => match g d e h1 with
  | some e1 => .nx e1 h1
  | none => .bad
theorem ds_asg {tg a : Expr} {vs : List Nat} {g : TF} {f : SE} {pos : Pos} (ha : DE X W a f) (hg : DG X vs tg g) (hs : swapsWithSole [tg] a pos.line X.env = pure false := by rfl) (hw : swappedStores [tg] a X.env = pure none := by rfl) (h1 : (assignEach [tg] X.env).map (·.2) = [assign tg X.env] := by rfl) : DS X W (.Assign [tg] a pos) (sAsg g f) :=
  PS.of (ps_asg ha hg hs hw h1) fun Dn σ H => by
    rintro ⟨P, F, m, e, h, S, E, fin⟩
    refine st_seq S E fin fun F1 m1 h1 H1 v d x S1 E1 r fin1 => ?_
    cases q : g d e h1 with
    | none => rw [q] at fin1; exact fin1.elim
    | some e1 =>
      rw [q] at fin1
      exact ⟨P, F1, m1, e, h1, d, S1, E1, r, e1, q, fun σ' E' _ => fin1 σ' F1 m1 H1 .refl S1 E'⟩
/-- a, b = x, y -/
def sPar (i j : Nat) (f : SA) : SS := fun e h => (f e h).toS e fun ds h1 => match ds with
  | [x, y] => .nx ((e.set i (some x)).set j (some y)) h1
  | _ => .bad
theorem ds_par {i j : Nat} {x y : Str} {a b : Expr} {fa : SA} {px py pt : Pos} {kt k2 : Nat} {pt2 pos : Pos} (hc : X.calm = true) (hN : X.N.Nodup) (ha : DA X W [a, b] fa) (hi : X.N[i]? = some x := by rfl) (hj : X.N[j]? = some y := by rfl) (hij : i ≠ j := by decide)
    (hx : X.env.scope.names.lookup x = some .local := by rfl) (hy : X.env.scope.names.lookup y = some .local := by rfl)
    (hw : swappedStores [.Tuple [.Name x px, .Name y py] kt pt] (.Tuple [a, b] k2 pt2) X.env = pure (some [x, y]) := by rfl)
    (hs : swapsWithSole [.Tuple [.Name x px, .Name y py] kt pt] (.Tuple [a, b] k2 pt2) pos.line X.env = pure false := by rfl) : DS X W (.Assign [.Tuple [.Name x px, .Name y py] kt pt] (.Tuple [a, b] k2 pt2) pos) (sPar i j fa) :=
  PS.of (ps_par hc hN hi hj hij hx hy ha hw hs) fun Dn σ H => by
    rintro ⟨P, F, m, e, h, S, E, fin⟩
    refine st_seq S E fin fun F1 m1 h1 H1 v d x S1 E1 r fin1 => ?_
    match d, r, fin1 with
    | [c1, c2], r, fin1 =>
      obtain ⟨v1, v2, rfl, r1, r2⟩ := denL2 r
      exact ⟨v1, v2, rfl, fin1 _ F1 m1 H1 .refl S1 ((E1.set i r1).set j r2)⟩
    | [], _, fin1 => exact fin1.elim
    | [_], _, fin1 => exact fin1.elim
    | _ :: _ :: _ :: _, _, fin1 => exact fin1.elim
/-! ### x op= e -/
def sAug (i : Nat) (g : D → D → OH → Res D) (f : SE) : SS := fun e h => match e[i]? with
  | some (some x) => (f e h).toS e fun y h1 => (g x y h1).toS e fun z h2 => .nx (e.set i (some z)) h2
  | _ => .bad
theorem ds_augI (i : Nat) {x : Str} {a : Expr} {f : SE} {op : Operator} {k : Int → Int → Int} {pos pos' : Pos} (hN : X.N.Nodup) (ho : PIp X op (ipI k)) (ha : DE X W a f) (hi : X.N[i]? = some x := by rfl) (hx : Loc X.env.scope x := by first | exact Or.inl rfl | exact Or.inr rfl)
    (hf : X.fn x = true ∨ X.env.scope.names.lookup x = some .local := by first | exact .inl rfl | exact .inr rfl | assumption) : DS X W (.AugAssign (.Name x pos') op a pos) (sAug i (opI2 (fun i j => .int (k i j)) fun _ _ => true) f) := PS.of (ps_aug hN hi hx ha ho hf) fun Dn σ H => by
  rintro ⟨P, F, m, e, h, S, E, fin⟩
  unfold sAug at fin
  cases q : e[i]? with
  | none => rw [q] at fin; exact fin.elim
  | some o =>
    cases o with
    | none => rw [q] at fin; exact fin.elim
    | some d =>
      rw [q] at fin
      obtain ⟨v, e1, r⟩ := E.at_ i d q
      refine ⟨v, e1, st_seq S E fin fun F1 m1 h1 H1 w d2 x S1 E1 r2 fin1 => ?_⟩
      cases r with
      | int n =>
        cases r2 with
        | int n2 => exact ⟨n, n2, rfl, rfl, fin1 _ F1 m1 H1 .refl S1 (E1.set i (.int _))⟩
        | _ => exact fin1.elim
      | _ => exact fin1.elim
/-- o.f = e -/
def sFldS (C f : String) (o v : SE) : SS := fun e h => (v e h).toS e fun y h1 => (o e h1).toS e fun x h2 => match x with
  | .ref i => (match h2[i]? with
    | some (.ins C' fs) => if C' = C ∧ fs.length < 900 then .nx e (h2.set i (.ins C (putS f y fs))) else .bad
    | _ => .bad)
  | _ => .bad
theorem putF_den {K : PySem.W.Frag} {F : Hp} {m : List Addr} {f : String} {v : V} {d : D} (r : Den K F m v d) : ∀ {fv : List (Str × V)} {fs : List (String × D)}, DenF K F m fv fs → DenF K F m (putF (Str.ofString f) v fv) (putS f d fs)
  | _, _, .nil => .cons r .nil
  | _, _, .cons (f := g) (d := d0) h t => by
    unfold putF putS
    by_cases e : g = f
    · subst e
      rw [if_pos rfl]
      first
        | (rw [if_pos rfl]; exact .cons r t)
        | (simp only [beq_self_eq_true, if_true]; exact .cons r t)
    · have e2 : ¬ Str.ofString g = Str.ofString f := fun z => e (ofString_inj z)
      rw [if_neg e]
      first
        | (rw [if_neg e2]; exact .cons h (putF_den r t))
        | (rw [if_neg (fun z => e2 z.symm)]; exact .cons h (putF_den r t))
theorem putS_keys {f : String} {d : D} : ∀ {fs : List (String × D)} {q : String × D}, q ∈ putS f d fs → q.1 = f ∨ ∃ p ∈ fs, p.1 = q.1
  | [], q, h => by
    simp only [putS, List.mem_singleton] at h
    subst h
    exact .inl rfl
  | (g, x) :: r, q, h => by
    unfold putS at h
    by_cases e : g = f
    · rw [if_pos e] at h
      rcases List.mem_cons.mp h with h | h
      · subst h; exact .inl e
      · exact .inr ⟨q, List.mem_cons_of_mem _ h, rfl⟩
    · rw [if_neg e] at h
      rcases List.mem_cons.mp h with h | h
      · subst h; exact .inr ⟨(g, x), List.mem_cons_self, rfl⟩
      · rcases putS_keys h with h | ⟨p, hp, e2⟩
        · exact .inl h
        · exact .inr ⟨p, List.mem_cons_of_mem _ hp, e2⟩
theorem DenF.length {K : PySem.W.Frag} {F : Hp} {m : List Addr} : ∀ {fv : List (Str × V)} {fs : List (String × D)}, DenF K F m fv fs → fv.length = fs.length
  | _, _, .nil => rfl
  | _, _, .cons _ t => by rw [List.length_cons, List.length_cons, DenF.length t]
theorem ds_fld {o a : Expr} {C f : String} {fo fa : SE} {pos pos' : Pos} (hn : NoAttr X.K (He.ga X.K (Str.ofString C)) (Str.ofString f)) (ho : DE X W o fo) (ha : DE X W a fa) (hs : swapsWith a (some (.Attribute o (Str.ofString f) pos')) pos.line X.env = pure false := by rfl) :
    DS X W (.Assign [.Attribute o (Str.ofString f) pos'] a pos) (sFldS C f fo fa) := PS.of (ps_fld ho ha hs) fun Dn σ H => by
  rintro ⟨P, F, m, e, h, S, E, fin⟩
  refine st_seq S E fin fun F1 m1 h1 H1 y dy x1 S1 E1 ry fin1 => ?_
  refine st_seq S1 E1 fin1 fun F2 m2 h2 H2 x dx x2 S2 E2 rx fin2 => ?_
  cases rx with
  | @ref b i e1 =>
    obtain ⟨ob, k1, k2⟩ := S2.own e1
    dsimp only at fin2
    rw [k1] at fin2
    cases ob with
    | ins C' fs =>
      dsimp only at fin2
      by_cases hz : C' = C ∧ fs.length < 900
      · rw [if_pos hz] at fin2
        obtain ⟨rfl, hl⟩ := hz
        obtain ⟨dx2, fv, k3, k4, k5, k6⟩ := k2
        have rd := putF_den (f := f) (ry.mono x2) k5
        refine ⟨b, _, dx2, fv, rfl, k3, k4.1, hn, by rw [k5.length]; omega, fin2 σ F2 m2 _ .refl (S2.write e1 k1 k6 ⟨dx2, _, upd_same, ⟨k4.1, fun q hq => ?_⟩, rd, k6⟩) E2⟩
        rcases putS_keys hq with h | ⟨p, hp, e2⟩
        · rw [h]; exact hn
        · rw [← e2]; exact k4.2 p hp
      · rw [if_neg hz] at fin2
        exact fin2.elim
    | _ => exact fin2.elim
  | _ => exact fin2.elim
/-- x[i] = e, x an own list -/
def sIxS (o i v : SE) : SS := fun e h => (v e h).toS e fun y h1 => (o e h1).toS e fun x h2 => (i e h2).toS e fun k h3 => match x, k with
  | .ref n, .int j => (match h3[n]? with
    | some (.lst xs) => (match ixN xs.length j with
      | some q => .nx e (h3.set n (.lst (xs.set q y)))
      | none => .bad)
    | _ => .bad)
  | _, _ => .bad
theorem ds_ix {o i a : Expr} {fo fi fa : SE} {pos pos' : Pos} (ho : DE X W o fo) (hi : DE X W i fi) (ha : DE X W a fa)
    (hg : PG X (.Subscript o i pos') (gSub (rdG X.K W (Den X.K) fo) (rdG X.K W (Den X.K) fi) rSetL)) (hs : swapsWithSole [.Subscript o i pos'] a pos.line X.env = pure false := by rfl) (hw : swappedStores [.Subscript o i pos'] a X.env = pure none := by rfl) (h1 : (assignEach [.Subscript o i pos'] X.env).map (·.2) = [assign (.Subscript o i pos') X.env] := by rfl) :
    DS X W (.Assign [.Subscript o i pos'] a pos) (sIxS fo fi fa) := PS.of (ps_asg ha hg hs hw h1) fun Dn σ H => by
  rintro ⟨P, F, m, e, h, S, E, fin⟩
  refine st_seq S E fin fun F1 m1 h1 H1 y dy x1 S1 E1 ry fin1 => ?_
  refine st_seq S1 E1 fin1 fun F2 m2 h2 H2 x dx x2 S2 E2 rx fin2 => ?_
  refine st_seq S2 E2 fin2 fun F3 m3 h3 H3 z dz x3 S3 E3 rz fin3 => ?_
  cases rx with
  | @ref b n e1 =>
    cases rz with
    | int j =>
      have e2 := pre_get x3.p e1
      obtain ⟨ob, k1, k2⟩ := S3.own e2
      dsimp only at fin3
      rw [k1] at fin3
      cases ob with
      | lst xs =>
        dsimp only at fin3
        obtain ⟨vs, k3, k4, k5⟩ := k2
        cases q : ixN xs.length j with
        | none => rw [q] at fin3; exact fin3.elim
        | some t =>
          rw [q] at fin3
          exact ⟨b, vs, j, t, rfl, rfl, k3, by rw [k4.length]; exact q, fin3 σ F3 m3 _ .refl (S3.write e2 k1 k5 ⟨_, upd_same, k4.set (ry.mono (x2.trans x3)) t, k5⟩) E3⟩
      | _ => exact fin3.elim
    | _ => exact fin3.elim
  | _ => cases dz <;> exact fin3.elim
/-! ### while -/
def whileF (c : ST) (b : SS) : Nat → SS
  | 0 => fun _ _ => .bad
  | n + 1 => fun e h => (c e h).toS e fun t h1 => if t then (match b e h1 with
    | .nx e2 h2 => whileF c b n e2 h2
    | .ct e2 h2 => whileF c b n e2 h2
    | .bk e2 h2 => .nx e2 h2
    | r => r) else .nx e h1
theorem ds_while {c : Expr} {body : List Stmt} {fc : ST} {fb : SS} {pos : Pos} (hp : PassesOwn (model X.prog X.w) X.A X.env X.xe) (n : Env' → OH → Nat) (hc : DT X W c fc) (hb : DSs X W body fb) : DS X W (.While c body [] pos) (fun e h => whileF fc fb (n e h) e h) := PS.of (ps_while hp hc hb) fun Dn σ H => by
  rintro ⟨P0, F0, m0, e0, h0, S0, E0, fin0⟩
  refine ⟨fun k σ H => ∃ P F m e h, Sim X.K P F m h H ∧ EnvR X.K F m σ e ∧ FinS X.K P W Dn F m (whileF fc fb k e h), ⟨n e0 h0, P0, F0, m0, e0, h0, S0, E0, fin0⟩, ?_⟩
  rintro k σ H ⟨P, F, m, e, h, S, E, fin⟩
  cases k with
  | zero => exact fin.elim
  | succ k =>
    refine st_seq S E fin fun F1 m1 h1 H1 v d x S1 E1 r fin1 => ?_
    have r : v = d := r
    subst r
    cases v with
    | false => exact fin1 σ F1 m1 H1 .refl S1 E1
    | true =>
      refine ⟨fun σ H => ∃ P F m e h, Sim X.K P F m h H ∧ EnvR X.K F m σ e ∧ FinS X.K P W Dn F m (whileF fc fb k e h), fun σ' H' q => ⟨k, Nat.lt_succ_self k, q⟩, P, F1, m1, e, h1, S1, E1, ?_⟩
      simp only [if_true] at fin1
      cases q : fb e h1 with
      | nx e2 h2 => rw [q] at fin1; exact fun σ2 F2 m2 H2 x2 S2 E2 => ⟨P, F2, m2, e2, h2, S2, E2, FinS.weak x2 fin1⟩
      | ct e2 h2 => rw [q] at fin1; exact fun σ2 F2 m2 H2 x2 S2 E2 => ⟨P, F2, m2, e2, h2, S2, E2, FinS.weak x2 fin1⟩
      | bk e2 h2 => rw [q] at fin1; exact fin1
      | rt d h2 => rw [q] at fin1; exact fin1
      | exc C p e2 h2 => rw [q] at fin1; exact fin1
      | bad => rw [q] at fin1; exact fin1
end
end HR
set_option Elab.async false
set_option linter.all false
set_option maxRecDepth 100000
set_option maxHeartbeats 2000000
/-! LayF: what is walked, for, comprehensions, defs and their calls, the law's end. -/
namespace HR
open PySem L2
open PyProof.Rows (envOfC)
/-- the iterator J gives ds -/
def Walks (K : PySem.W.Frag) (F0 : Hp) (m0 : List Addr) (J : It) (ds : List D) : Prop :=
  ∀ (P : Pins) (F : Hp) (m : List Addr) (h : OH) (H : Hp) (i : Nat), Ext F0 m0 F m → Sim K P F m h H →
    (i < ds.length → J.go i H ∧ ∀ x H', J.yld i H x H' → ∃ F', Ext F m F' m ∧ Sim K P F' m h H' ∧ ∃ d, ds[i]? = some d ∧ Den K F' m x d) ∧ (ds.length ≤ i → J.stop i H)
abbrev relI (K : PySem.W.Frag) : Rel It (List D) := fun F m J ds => Walks K F m J ds
abbrev DI (X : Cx) (W : WX) (tg iter : Expr) (f : SA) : Prop := PI X tg iter (rdG X.K W (relI X.K) f)
theorem Walks.mono {K : PySem.W.Frag} {F F' : Hp} {m m' : List Addr} {J : It} {ds : List D} (x : Ext F m F' m') (w : Walks K F m J ds) : Walks K F' m' J ds := fun P F2 m2 h H i y S => w P F2 m2 h H i (x.trans y) S
theorem PI.of {X : Cx} {tg iter : Expr} {w w' : TI} (h : PI X tg iter w) (k : ∀ σ H R, w' σ H R → w σ H R) : PI X tg iter w' := ⟨fun pins s σ H R I q => h.run pins s σ H R I (k σ H R q)⟩
section
variable {X : Cx} {W : WX}
/-- what a for takes from a frozen list or tuple -/
def frzAt : D → Option (List D)
  | .lst xs => some xs
  | .scr xs => some xs
  | _ => none
theorem den_sq {K : PySem.W.Frag} {F : Hp} {m : List Addr} {v : V} {d : D} {xs : List D} (r : Den K F m v d) (q : frzAt d = some xs) : ∃ a vs, v = .ref a ∧ SqL K F a vs ∧ DenL K F m vs xs := by
  cases r with
  | lst e t => cases q; exact ⟨_, _, rfl, .inl (.inl e), t⟩
  | scr e t => cases q; exact ⟨_, _, rfl, e, t⟩
  | _ => cases q
theorem walks_list {K : PySem.W.Frag} {F : Hp} {m : List Addr} {a : Addr} {vs : List V} {xs : List D} (q : SqL K F a vs) (r : DenL K F m vs xs) : Walks K F m (Itl K a) xs := by
  intro P F2 m2 h H i x S
  have q2 : SqL K H a vs := S.sub.seq (x.s.seq q)
  refine ⟨fun hi => ?_, fun hi => ⟨vs, q2, by rw [r.length]; exact hi⟩⟩
  have hv : i < vs.length := by rw [r.length]; exact hi
  refine ⟨⟨vs, vs[i], q2, List.getElem?_eq_getElem hv⟩, fun y H' yl => ?_⟩
  obtain ⟨rfl, yl⟩ := yl
  obtain ⟨d, e1, r1⟩ := r.getV (yl vs q2)
  exact ⟨F2, .refl, S, d, e1, r1.mono x⟩
theorem walks_tup {K : PySem.W.Frag} {F : Hp} {m : List Addr} {a : Addr} {vs : List V} {xs : List D} (q : SqT K F a vs) (r : DenL K F m vs xs) : Walks K F m (Itt K a) xs := by
  intro P F2 m2 h H i x S
  have q2 : SqT K H a vs := Same.sqT S.sub (Same.sqT x.s q)
  refine ⟨fun hi => ?_, fun hi => ⟨vs, q2, by rw [r.length]; exact hi⟩⟩
  have hv : i < vs.length := by rw [r.length]; exact hi
  refine ⟨⟨vs, vs[i], q2, List.getElem?_eq_getElem hv⟩, fun y H' yl => ?_⟩
  obtain ⟨rfl, yl⟩ := yl
  obtain ⟨d, e1, r1⟩ := r.getV (yl vs q2)
  exact ⟨F2, .refl, S, d, e1, r1.mono x⟩
def rngD (lo : Int) (n : Nat) : List D := (List.range n).map fun (k : Nat) => D.int (lo + k)
theorem walks_rng {K : PySem.W.Frag} {F : Hp} {m : List Addr} (lo : Int) (n : Nat) : Walks K F m (Itr lo n) (rngD lo n) := by
  intro P F2 m2 h H i x S
  have hl : (rngD lo n).length = n := by simp [rngD]
  rw [hl]
  refine ⟨fun hi => ⟨hi, fun y H' yl => ?_⟩, fun hi => hi⟩
  obtain ⟨rfl, rfl⟩ := yl
  exact ⟨F2, .refl, S, .int (lo + i), by simp [rngD, hi], .int _⟩
/-- a list or a tuple -/
def sItS (f : SE) : SA := fun e h => (f e h).bind fun d h1 => match d with
  | .tup xs => .ok xs h1
  | d => (match frzAt d with
    | some xs => .ok xs h1
    | none => .bad)
theorem pi_or {tg iter : Expr} {w w' : TI} (a : PI X tg iter w) (b : PI X tg iter w') : PI X tg iter (fun σ H R => w σ H R ∨ w' σ H R) := ⟨fun pins s σ H R I q => q.elim (a.run pins s σ H R I) (b.run pins s σ H R I)⟩
/-- what both walk: decided by the value (the expression is read once by either rule) -/
theorem di_seq {tg a : Expr} {f : SE} (ha : DE X W a f) : DI X W tg a (sItS f) := PI.of (pi_or (pi_list ha) (pi_tup ha)) fun σ H R => by
  rintro ⟨P, F, m, e, h, S, E, fin⟩
  cases q : f e h with
  | bad => unfold sItS at fin; rw [q] at fin; exact fin.elim
  | exc C p h1 =>
    unfold sItS at fin
    rw [q] at fin
    exact .inl ⟨P, F, m, e, h, S, E, by rw [q]; exact fin⟩
  | ok d h1 =>
    unfold sItS at fin
    rw [q] at fin
    simp only [Res.bind_ok] at fin
    cases d with
    | tup xs =>
      refine .inr ⟨P, F, m, e, h, S, E, ?_⟩
      rw [q]
      intro v F1 m1 H1 x S1 r
      cases r with
      | @tup b vs ds q rl => exact ⟨b, rfl, ⟨vs, Same.sqT S1.sub q⟩, FinG.okX fin x S1 (walks_tup q rl)⟩
    | _ =>
      refine .inl ⟨P, F, m, e, h, S, E, ?_⟩
      rw [q]
      intro v F1 m1 H1 x S1 r
      first
        | exact False.elim fin
        | (obtain ⟨b, vs, rfl, hb, rl⟩ := den_sq r rfl
           exact ⟨b, rfl, ⟨vs, S1.sub.seq hb⟩, FinG.okX fin x S1 (walks_list hb rl)⟩)
def rngOk (i : Int) : Bool := decide (-(2 ^ 62) ≤ i) && decide (i < 2 ^ 62)
def sRng1 (a : SE) : SA := fun e h => (a e h).bind fun d h1 => match d with
  | .int j => if rngOk j then .ok (rngD 0 j.toNat) h1 else .bad
  | _ => .bad
def sRng2 (a b : SE) : SA := fun e h => (a e h).bind fun d h1 => (b e h1).bind fun d2 h2 => match d, d2 with
  | .int i, .int j => if rngOk i && rngOk j then .ok (rngD i (j - i).toNat) h2 else .bad
  | _, _ => .bad
theorem rngOk_ok {i : Int} (h : rngOk i = true) : -(2 ^ 62) ≤ i ∧ i < 2 ^ 62 := by
  unfold rngOk at h
  simpa using h
theorem di_rng1 {tg a : Expr} {f : SE} {p pos : Pos} (hg : Gl X "range") (hm : X.mg "range" = none) (ha : DE X W a f) (he : starEach [a] X.env = (false, eval a X.env) :: starEach [] X.env := by rfl) (hs : starEach [a] X.env = [(false, eval a X.env)] := by rfl) : DI X W tg (.Call (.Name "range" p) [a] [] pos) (sRng1 f) :=
  PI.of (pi_range1 hg hm (da_cons ha da_nil he) hs) fun σ H R => by
    rintro ⟨P, F, m, e, h, S, E, fin⟩
    refine ⟨P, F, m, e, h, S, E, ?_⟩
    unfold sRng1 at fin
    unfold sCons sNil
    cases q : f e h with
    | bad => rw [q] at fin; exact fin.elim
    | exc C p h1 => rw [q] at fin; exact fin
    | ok d h1 =>
      rw [q] at fin
      simp only [Res.bind_ok] at fin ⊢
      intro vs F1 m1 H1 x S1 r
      obtain ⟨v, rfl, r1⟩ := denL1 r
      cases d with
      | int j =>
        cases den_int r1
        dsimp only at fin
        by_cases hk : rngOk j = true
        · rw [if_pos hk] at fin
          have k := rngOk_ok hk
          exact ⟨j, rfl, k.1, k.2, FinG.okX fin x S1 (walks_rng 0 _)⟩
        · rw [if_neg hk] at fin
          exact fin.elim
      | _ => exact False.elim fin
theorem di_rng2 {tg a b : Expr} {f g : SE} {p pos : Pos} (hg : Gl X "range") (hm : X.mg "range" = none) (ha : DE X W a f) (hb : DE X W b g) (he : starEach [a, b] X.env = (false, eval a X.env) :: starEach [b] X.env := by rfl) (he2 : starEach [b] X.env = (false, eval b X.env) :: starEach [] X.env := by rfl)
    (hs : starEach [a, b] X.env = [(false, eval a X.env), (false, eval b X.env)] := by rfl) (hs2 : starEach [b] X.env = [(false, eval b X.env)] := by rfl) : DI X W tg (.Call (.Name "range" p) [a, b] [] pos) (sRng2 f g) :=
  PI.of (pi_range2 hg hm (da_cons ha (da_cons hb da_nil he2) he) hs hs2) fun σ H R => by
    rintro ⟨P, F, m, e, h, S, E, fin⟩
    refine ⟨P, F, m, e, h, S, E, ?_⟩
    unfold sRng2 at fin
    unfold sCons sNil
    cases q : f e h with
    | bad => rw [q] at fin; exact fin.elim
    | exc C p h1 => rw [q] at fin; exact fin
    | ok d h1 =>
      rw [q] at fin
      simp only [Res.bind_ok] at fin ⊢
      cases q2 : g e h1 with
      | bad => rw [q2] at fin; exact fin.elim
      | exc C p h2 => rw [q2] at fin; exact fin
      | ok d2 h2 =>
        rw [q2] at fin
        simp only [Res.bind_ok] at fin ⊢
        intro vs F1 m1 H1 x S1 r
        obtain ⟨v, v2, rfl, r1, r2⟩ := denL2 r
        cases d with
        | int i =>
          cases d2 with
          | int j =>
            cases den_int r1
            cases den_int r2
            dsimp only at fin
            by_cases hk : (rngOk i && rngOk j) = true
            · rw [if_pos hk] at fin
              obtain ⟨k1, k2⟩ := and2 hk
              have k1 := rngOk_ok k1
              have k2 := rngOk_ok k2
              exact ⟨i, j, rfl, ⟨k1.1, k1.2, k2.1, k2.2⟩, FinG.okX fin x S1 (walks_rng i _)⟩
            · rw [if_neg hk] at fin
              exact fin.elim
          | _ => exact False.elim fin
        | _ => cases d2 <;> exact False.elim fin
/-! ### for -/
def forL (g : TF) (b : SS) : List D → SS
  | [] => fun e h => .nx e h
  | d :: ds => fun e h => match g d e h with
    | none => .bad
    | some e1 => (match b e1 h with
      | .nx e2 h2 => forL g b ds e2 h2
      | .ct e2 h2 => forL g b ds e2 h2
      | .bk e2 h2 => .nx e2 h2
      | r => r)
def sFor (it : SA) (g : TF) (b : SS) : SS := fun e h => (it e h).toS e fun ds h1 => forL g b ds e h1
theorem ds_for {tg iter : Expr} {body : List Stmt} {pos : Pos} {it : SA} {vs : List Nat} {g : TF} {b : SS} (hp : PassesOwn (model X.prog X.w) X.A X.env X.xe) (hc : X.calm = true) (hi : DI X W tg iter it) (hg : DG X vs tg g) (hb : DSs X W body b) (hs : ∀ x, foldedSetIterable iter X.env x = pure x := by intro _; rfl) :
    DS X W (.For tg iter body [] pos) (sFor it g b) := PS.of (ps_for hp hc hi hg hb hs) fun Dn σ H => by
  rintro ⟨P0, F0, m0, e0, h0, S0, E0, fin0⟩
  refine st_seq S0 E0 fin0 fun F1 m1 h1 H1 J ds x1 S1 E1 wk fin1 => ?_
  let Wd : Nat → Nat → St → Hp → Prop := fun i n σ H => ∃ P F m e h, Sim X.K P F m h H ∧ EnvR X.K F m σ e ∧ Ext F1 m1 F m ∧ n = (ds.drop i).length ∧ FinS X.K P W Dn F m (forL g b (ds.drop i) e h)
  refine ⟨Wd, ⟨ds.length, P0, F1, m1, e0, h1, S1, E1, .refl, by simp, by simpa using fin1⟩, ?_⟩
  rintro i n σ H ⟨P, F, m, e, h, S, E, x, rfl, fin⟩
  obtain ⟨w1, w2⟩ := wk P F m h H i x S
  by_cases hi : i < ds.length
  · obtain ⟨go, yl⟩ := w1 hi
    have dr : ds.drop i = ds[i] :: ds.drop (i + 1) := List.drop_eq_getElem_cons hi
    rw [dr] at fin
    refine .inr ⟨go, fun σ' H' => Wd (i + 1) (ds.drop (i + 1)).length σ' H', fun σ' H' q => ⟨_, by rw [dr]; exact Nat.lt_succ_self _, q⟩, fun y H' hy => ?_⟩
    obtain ⟨F2, x2, S2, d, e1, r⟩ := yl y H' hy
    have ed : d = ds[i] := by
      rw [List.getElem?_eq_getElem hi] at e1
      exact (Option.some.inj e1).symm
    subst ed
    simp only [forL] at fin
    cases q : g ds[i] e h with
    | none => rw [q] at fin; exact fin.elim
    | some e2 =>
      rw [q] at fin
      refine ⟨P, F2, m, e, h, _, S2, E.mono x2, r, e2, q, fun σ' E' _ => ⟨P, F2, m, e2, h, S2, E', ?_⟩⟩
      dsimp only at fin
      cases q3 : b e2 h with
      | nx e3 h3 => rw [q3] at fin; exact fun σ3 F3 m3 H3 x3 S3 E3 => ⟨P, F3, m3, e3, h3, S3, E3, x.trans (x2.trans x3), rfl, FinS.weak (x2.trans x3) fin⟩
      | ct e3 h3 => rw [q3] at fin; exact fun σ3 F3 m3 H3 x3 S3 E3 => ⟨P, F3, m3, e3, h3, S3, E3, x.trans (x2.trans x3), rfl, FinS.weak (x2.trans x3) fin⟩
      | bk e3 h3 => rw [q3] at fin; exact fun σ3 F3 m3 H3 x3 S3 E3 => fin σ3 F3 m3 H3 (x2.trans x3) S3 E3
      | rt d3 h3 => rw [q3] at fin; exact fun v F3 m3 H3 x3 S3 r3 => fin v F3 m3 H3 (x2.trans x3) S3 r3
      | exc C p e3 h3 => rw [q3] at fin; exact fun od σ3 F3 m3 H3 x3 S3 pd E3 => fin od σ3 F3 m3 H3 (x2.trans x3) S3 pd E3
      | bad => rw [q3] at fin; exact fin.elim
  · have hi2 : ds.length ≤ i := Nat.le_of_not_lt hi
    rw [List.drop_eq_nil_of_le hi2] at fin
    exact .inl ⟨w2 hi2, fin σ F m H .refl S E⟩
/-! ### comprehensions -/
def Res.noX {α : Type} : Res α → Res α
  | .ok a h => .ok a h
  | _ => .bad
def lcGo (g : TF) (tt : ST) (el : SE) (e : Env') : List D → OH → List D → Res (List D)
  | [], h, acc => .ok acc h
  | d :: ds, h, acc => match g d e h with
    | none => .bad
    | some e1 => (tt e1 h).noX.bind fun b h1 => if b then (el e1 h1).noX.bind fun y h2 => if acc.length < big then lcGo g tt el e ds h2 (acc ++ [y]) else .bad else lcGo g tt el e ds h1 acc
def sLc (own : Bool) (it : SA) (g : TF) (tt : ST) (el : SE) (vs : List Nat) : SE := fun e h => (it e h).bind fun ds h1 => (lcGo g tt el (wipeD e vs) ds h1 []).bind fun acc h2 => if own then .ok (.ref h2.length) (h2 ++ [.lst acc]) else .ok (.lst acc) h2
def sYes : ST := fun _ h => .ok true h
abbrev W0 : WX := fun _ _ _ _ => False
abbrev DTs (X : Cx) (W : WX) (ifs : List Expr) (f : ST) : Prop := PTs X ifs (rdG X.K W relB f)
theorem PTs.of {ifs : List Expr} {t t' : TT} (h : PTs X ifs t) (w : ∀ σ H Q, t' σ H Q → t σ H Q) : PTs X ifs t' := by
  obtain ⟨h⟩ := h
  constructor
  intro pins s σ H Q I q
  exact h pins s σ H Q I (w σ H Q q)
theorem dts_nil : DTs X W [] sYes := PTs.of pts_nil fun σ H Q => by
  rintro ⟨P, F, m, e, h, S, E, fin⟩
  exact fin.ok S rfl
theorem dts_one {c : Expr} {f : ST} (h : DT X W c f) : DTs X W [c] f := pts_one h
theorem lc_rd {it : SA} {g : TF} {tt : ST} {el : SE} {vs : List Nat} (own : Bool) {σ : St} {H : Hp} {Q : VK} (q : rdG X.K W (Den X.K) (sLc own it g tt el vs) σ H Q) :
    tLc (rdG X.K W (relI X.K) it) (rdTG X.K vs g) (rdG X.K W0 relB tt) (rdG X.K W0 (Den X.K) el) vs σ H Q := by
  obtain ⟨P0, F0, m0, e0, h0, S0, E0, fin0⟩ := q
  refine rd_seq S0 E0 fin0 fun F1 m1 h1 H1 J ds x1 S1 E1 wk fin1 => ?_
  intro D0 hD
  let go := lcGo g tt el (wipeD e0 vs)
  let fl : List D → OH → Res D := fun acc h2 => if own then .ok (.ref h2.length) (h2 ++ [.lst acc]) else .ok (.lst acc) h2
  let Wd : Nat → Nat → Hp → Prop := fun i n H => ∃ F m h acc ws, Sim X.K ((D0, .lst ws) :: P0) F m h H ∧ Ext F1 m1 F m ∧ DenL X.K F m ws acc ∧ acc.length ≤ big ∧ n = (ds.drop i).length ∧ FinG X.K P0 W σ (Den X.K) Q F m ((go (ds.drop i) h acc).bind fl)
  refine ⟨Wd, ⟨ds.length, F1, m1, h1, [], [], S1.hid hD, .refl, .nil, Nat.zero_le _, by simp, by simpa using fin1⟩, ?_⟩
  rintro i n H ⟨F, m, h, acc, ws, S, x, ra, hl, rfl, fin⟩
  obtain ⟨w1, w2⟩ := wk _ F m h H i x S
  by_cases hi : i < ds.length
  · obtain ⟨go1, yl⟩ := w1 hi
    have dr : ds.drop i = ds[i] :: ds.drop (i + 1) := List.drop_eq_getElem_cons hi
    rw [dr] at fin
    refine .inr ⟨go1, fun H' => Wd (i + 1) (ds.drop (i + 1)).length H', fun H' q => ⟨_, by rw [dr]; exact Nat.lt_succ_self _, q⟩, fun y H' hy => ?_⟩
    obtain ⟨F2, x2, S2, d, e1, r⟩ := yl y H' hy
    have ed : d = ds[i] := by
      rw [List.getElem?_eq_getElem hi] at e1
      exact (Option.some.inj e1).symm
    subst ed
    simp only [go, lcGo] at fin
    have E2 : EnvR X.K F2 m (L2.wipe σ vs) (wipeD e0 vs) := ((E1.mono (x.trans x2))).wipe vs
    cases q : g ds[i] (wipeD e0 vs) h with
    | none => rw [q] at fin; exact fin.elim
    | some e2 =>
      rw [q] at fin
      dsimp only at fin
      refine ⟨_, F2, m, wipeD e0 vs, h, _, S2, E2, r, e2, q, fun σ' E' wi => ⟨?_, _, F2, m, e2, h, S2, E', ?_⟩⟩
      · have idem : L2.wipe (L2.wipe σ vs) vs = L2.wipe σ vs := by
          have key : ∀ (us : List Nat) (τ : St), (∀ u ∈ us, ∀ z, τ[u]? = some z → z = none) → L2.wipe τ us = τ := by
            intro us
            induction us with
            | nil => intro τ _; rfl
            | cons u us ih =>
              intro τ hz
              show (L2.wipe τ us).set u none = τ
              rw [ih τ fun w hw => hz w (List.mem_cons_of_mem _ hw)]
              apply List.ext_getElem?
              intro j
              by_cases hj : u = j
              · subst hj
                rw [List.getElem?_set]
                simp only [if_true]
                by_cases hu : u < τ.length
                · rw [if_pos hu, List.getElem?_eq_getElem hu, hz u List.mem_cons_self τ[u] (List.getElem?_eq_getElem hu)]
                · rw [if_neg hu, List.getElem?_eq_none (Nat.le_of_not_lt hu)]
              · rw [List.getElem?_set_ne hj]
          refine key vs _ fun u hu z hz => ?_
          have cl : ∀ (us : List Nat) (τ : St), u ∈ us → (L2.wipe τ us)[u]? = some z → z = none := by
            intro us
            induction us with
            | nil => intro τ h; simp at h
            | cons w us ih =>
              intro τ h hz
              have hz : ((L2.wipe τ us).set w none)[u]? = some z := hz
              by_cases hw : w = u
              · subst hw
                rw [List.getElem?_set] at hz
                simp only [if_true] at hz
                split at hz
                · simpa using hz.symm
                · cases hz
              · rw [List.getElem?_set_ne hw] at hz
                rcases List.mem_cons.mp h with h | h
                · exact absurd h.symm hw
                · exact ih τ h hz
          exact cl vs σ hu hz
        rw [wi, idem]
      · cases qt : tt e2 h with
        | bad => rw [qt] at fin; exact fin.elim
        | exc C p h3 => rw [qt] at fin; exact fin.elim
        | ok b h3 =>
          rw [qt] at fin
          simp only [Res.noX, Res.bind_ok] at fin
          intro b' F3 m3 H3 x3 S3 rb
          have rb : b' = b := rb
          subst rb
          cases b' with
          | false =>
            simp only [Bool.false_eq_true, if_false] at fin ⊢
            exact ⟨F3, m3, h3, acc, ws, S3, x.trans (x2.trans x3), ra.mono (x2.trans x3), hl, rfl, FinG.weak (x2.trans x3) fin⟩
          | true =>
            simp only [if_true] at fin ⊢
            refine ⟨_, F3, m3, e2, h3, S3, E'.mono x3, ?_⟩
            cases qe : el e2 h3 with
            | bad => rw [qe] at fin; exact fin.elim
            | exc C p h4 => rw [qe] at fin; exact fin.elim
            | ok z h4 =>
              rw [qe] at fin
              simp only [Res.noX, Res.bind_ok] at fin
              intro v F4 m4 H4 x4 S4 rv
              have xx := x2.trans (x3.trans x4)
              by_cases hz : acc.length < big
              · rw [if_pos hz] at fin
                refine ⟨ws, (S4.pin _ List.mem_cons_self).1, by rw [ra.length]; exact big_lt hz, F4, m4, h4, acc ++ [z], ws ++ [v], S4.hidSet, x.trans xx, (ra.mono xx).append (.cons rv .nil), by simp; omega, rfl, FinG.weak xx fin⟩
              · rw [if_neg hz] at fin
                exact fin.elim
  · have hi2 : ds.length ≤ i := Nat.le_of_not_lt hi
    rw [List.drop_eq_nil_of_le hi2] at fin
    refine .inl ⟨w2 hi2, ?_⟩
    simp only [go, lcGo, Res.bind_ok, fl] at fin
    cases own with
    | true =>
      exact FinG.okX fin ext_new (S.hidOwn ra) (.ref (by rw [← S.len]; simp))
    | false =>
      obtain ⟨k1, k2, k3⟩ := S.pin _ List.mem_cons_self
      exact FinG.okX fin (ext_frz k2) S.hidFrz (.lst upd_same (ra.mono (ext_frz k2)))
theorem de_lc {elt tg iter : Expr} {ifs : List Expr} {scope : Scope} (own : Bool) (ow : List (Str × Nat)) {pos : Pos} {it : SA} {g : TF} {tt : ST} {el : SE} (hc : X.calm = true) (hN : X.N.Nodup) (hi : DI X W tg iter it) (ok : BlkOk X.N X.env.scope scope ow)
    (hg : ∀ (s : Shared) (H : Hp) (C : Addr) (cl : List (Str × Addr)) (fp : List Addr), DG (X.blk s H scope (compEnvC scope cl C X.env) fp) (ow.map (·.2)) tg g) (ht : ∀ (s : Shared) (H : Hp) (C : Addr) (cl : List (Str × Addr)) (fp : List Addr), DTs (X.blk s H scope (compEnvC scope cl C X.env) fp) W0 ifs tt)
    (he : ∀ (s : Shared) (H : Hp) (C : Addr) (cl : List (Str × Addr)) (fp : List Addr), DE (X.blk s H scope (compEnvC scope cl C X.env) fp) W0 elt el) (hs : ∀ x, foldedSetIterable iter X.env x = pure x := by intro _; rfl) :
    DE X W (.ListComp elt [⟨tg, iter, ifs, 0⟩] scope pos) (sLc own it g tt el (ow.map (·.2))) := PE.of (pe_lc hc hN hi ok hg ht he hs) fun σ H Q => lc_rd own
theorem ds_setLc (i : Nat) {y : Str} {py : Pos} {elt tg iter : Expr} {ifs : List Expr} {scope : Scope} (own : Bool) (ow : List (Str × Nat)) {pos spos : Pos} {it : SA} {g : TF} {tt : ST} {el : SE} (hc : X.calm = true) (hN : X.N.Nodup) (hi : DI X W tg iter it) (ok : BlkOk X.N X.env.scope scope ow)
    (hg : ∀ (s : Shared) (H : Hp) (C : Addr) (cl : List (Str × Addr)) (fp : List Addr), DG (X.blk s H scope (compEnvC scope cl C X.env) fp) (ow.map (·.2)) tg g) (ht : ∀ (s : Shared) (H : Hp) (C : Addr) (cl : List (Str × Addr)) (fp : List Addr), DTs (X.blk s H scope (compEnvC scope cl C X.env) fp) W0 ifs tt)
    (he : ∀ (s : Shared) (H : Hp) (C : Addr) (cl : List (Str × Addr)) (fp : List Addr), DE (X.blk s H scope (compEnvC scope cl C X.env) fp) W0 elt el)
    (hsw : swapsWith (.ListComp elt [⟨tg, iter, ifs, 0⟩] scope pos) (some (.Name y py)) spos.line X.env = pure true) (hy : X.N[i]? = some y := by rfl) (hyl : X.env.scope.names.lookup y = some .local := by rfl) (hs : ∀ x, foldedSetIterable iter X.env x = pure x := by intro _; rfl) :
    DS X W (.Assign [.Name y py] (.ListComp elt [⟨tg, iter, ifs, 0⟩] scope pos) spos) (sSet i (sLc own it g tt el (ow.map (·.2)))) := PS.of (ps_setLc (own := ow) hc hN hy hyl hsw hi ok hg ht he hs) fun Dn σ H => by
  rintro ⟨P, F, m, e, h, S, E, fin⟩
  refine lc_rd (W := W) own (st_seq S E fin fun F1 m1 h1 H1 v d x S1 E1 r fin1 => ?_)
  exact fin1 _ F1 m1 H1 .refl S1 (E1.set i r)
/-! ### defs -/
def fnOf (n : Nat) (body : SS) : FN := fun ds h => match body (ds.map some ++ List.replicate (n - ds.length) none) h with
  | .nx _ h1 => .ok .non h1
  | .rt d h1 => .ok d h1
  | .exc C p _ h1 => .exc C p h1
  | _ => .bad
def spN (K : PySem.W.Frag) (np : Nat) (f : FN) : Sp := fun vs H Q E => vs.length = np ∧ ∃ P F m ds h, Sim K P F m h H ∧ DenL K F m vs ds ∧ FinG K P (fun cls od _ H => E cls od H) [] (Den K) Q F m (f ds h)
theorem fn_ok {P : Program} {w : World} {K : PySem.W.Frag} {mg : Str → Option Value} {base : Heap} {CX : CXT} {x qual : Str} {params : Arguments} {body : List Stmt} {scope : Scope} {dvs : List V} {kws : List (Str × V)} {f : Addr} {fd : FuncData} {N ps : List Str} {k : Nat} {fB : SS}
    (Fu : FunD K x qual params body scope dvs kws f fd) (S : FnScope N ps scope) (hN : ps.length ≤ N.length)
    (hb : ∀ (cdv : Value) (A : Around) (outer : List Env) (s : Shared) (H : Hp) (E : XK), Room k (A.deeper (envOfC qual scope s.heap.objs.size f cdv)) → DSs (cxOf CX P w K mg base N qual scope f cdv A outer s H E) (fun cls od _ H => E cls od H) body fB) :
    FnOk P w K mg base CX (k + 1) f fd ps (spN K ps.length (fnOf N.length fB)) := by
  refine Fu.ok S (fun vs H Q E h => h.1) (fun cdv A outer s H vs Q E hr h => ?_)
  obtain ⟨hl, P0, F, m, ds, h, S0, r, fin⟩ := h
  refine ⟨_, hb cdv A outer s H E hr, P0, F, m, _, h, S0, (⟨?_, fun i d q => ?_⟩ : EnvR K F m (L2.start N vs) (ds.map some ++ List.replicate (N.length - ds.length) none)), ?_⟩
  · unfold L2.start
    simp [r.length]
  · have hi : i < ds.length := by
      by_cases hi : i < ds.length
      · exact hi
      · rw [List.getElem?_append_right (by simp; omega)] at q
        rw [List.getElem?_replicate] at q
        split at q <;> cases q
    rw [List.getElem?_append_left (by simpa using hi)] at q
    simp only [List.getElem?_map, Option.map_eq_some_iff] at q
    obtain ⟨d', q1, q2⟩ := q
    simp only [Option.some.injEq] at q2
    subst q2
    obtain ⟨v, e1, r1⟩ := r.get q1
    refine ⟨v, ?_, r1⟩
    unfold L2.start
    rw [List.getElem?_append_left (by simp; rw [r.length]; exact hi)]
    simp [e1]
  · unfold fnOf at fin
    cases q : fB (ds.map some ++ List.replicate (N.length - ds.length) none) h with
    | nx e1 h1 => rw [q] at fin; exact fun σ F1 m1 H1 x1 S1 E1 => fin .non F1 m1 H1 x1 S1 .non
    | rt d h1 => rw [q] at fin; exact fin
    | exc C p e1 h1 => rw [q] at fin; exact fun od σ F1 m1 H1 x1 S1 pd E1 => fin od F1 m1 H1 x1 S1 pd
    | bk e1 h1 => rw [q] at fin; exact fin.elim
    | ct e1 h1 => rw [q] at fin; exact fin.elim
    | bad => rw [q] at fin; exact fin.elim
/-! ### calls -/
/-- a call that sees none of the own objects -/
def pureF (f : FN) : FN := fun ds h => if D.pureL ds then (match f ds [] with
  | .ok d _ => if d.pure then .ok d h else .bad
  | .exc C none _ => .exc C none h
  | .exc C (some q) _ => if q.2.pure then .exc C (some q) h else .bad
  | .bad => .bad) else .bad
theorem pure_sp {K : PySem.W.Frag} {np : Nat} {f : FN} {vs : List V} {H : Hp} {Q : VK} {E : XK} (h : spN K np (pureF f) vs H Q E) : spN K np f vs H Q E := by
  obtain ⟨hl, P, F, m, ds, h, S, r, fin⟩ := h
  unfold pureF at fin
  by_cases hp : D.pureL ds = true
  · rw [if_pos hp] at fin
    refine ⟨hl, _, F, [], ds, [], S.hide, r.pureM hp, ?_⟩
    cases q : f ds [] with
    | ok d h' =>
      rw [q] at fin
      dsimp only at fin
      by_cases hd : d.pure = true
      · rw [if_pos hd] at fin
        exact fun v F' m' H' x S' rv => FinG.okX fin ⟨x.s, List.prefix_rfl⟩ (S.unhide x.s S') (rv.pureM hd)
      · rw [if_neg hd] at fin
        exact fin.elim
    | exc C p h' =>
      rw [q] at fin
      cases p with
      | none =>
        intro od F' m' H' x S' pd
        exact fin od F' m H' ⟨x.s, List.prefix_rfl⟩ (S.unhide x.s S') pd
      | some z =>
        dsimp only at fin
        by_cases hd : z.2.pure = true
        · rw [if_pos hd] at fin
          intro od F' m' H' x S' pd
          obtain ⟨a, v, e1, e2, e3⟩ := pd
          exact fin od F' m H' ⟨x.s, List.prefix_rfl⟩ (S.unhide x.s S') ⟨a, v, e1, e2, e3.pureM hd⟩
        · rw [if_neg hd] at fin
          exact fin.elim
    | bad => rw [q] at fin; exact fin
  · rw [if_neg hp] at fin
    exact fin.elim
theorem FnOk.pure {P : Program} {w : World} {K : PySem.W.Frag} {mg : Str → Option Value} {base : Heap} {CX : CXT} {k : Nat} {f : Addr} {fd : FuncData} {ps : List Str} {g : FN} (F : FnOk P w K mg base CX k f fd ps (spN K ps.length g)) : FnOk P w K mg base CX k f fd ps (spN K ps.length (pureF g)) := L2.FnOk.imp F fun _ _ _ _ h => pure_sp h
section
variable {CX : CXT} {k : Nat} {f : Addr} {fd : FuncData} {ps : List Str} {g : FN}
def withD (dd : List D) (g : FN) : FN := fun ds h => g (ds ++ dd) h
/-- f(e, ..); dd: the defaults that fill up -/
theorem de_call {x : Str} {p pos : Pos} {a : Expr} {es : List Expr} {fa : SA} {dvs : List V} {dus : List Value} (dd : List D) (Fk : FnOk X.prog X.w X.K X.mg X.base CX k f fd ps (spN X.K ps.length g)) (hr : Room k X.A) (hm : X.mg x = some (.ref f)) (hk : PySem.W.keepIn X.K (.ref f) = true) (hb : Binds X.K fd ps dus) (hd : Vals dvs dus)
    (hdd : ∀ F m, DenL X.K F m dvs dd) (hn : (a :: es).length + dvs.length = ps.length) (hx : ∀ σ, PassesAt CX X σ fun cls od H => W cls od σ H) (ha : DA X W (a :: es) fa) (hl : ∀ e h ds h', fa e h = .ok ds h' → ds.length = (a :: es).length) (hg : Gl X x := by rfl) (hdb : (x == ("__debug__" : Str)) = false := by decide)
    (he : starEach (a :: es) X.env = (false, eval a X.env) :: starEach es X.env := by rfl) (hpl : (backTo pos (starEach es X.env)).any (·.1) = false := by rfl) : DE X W (.Call (.Name x p) (a :: es) [] pos) (sCall (withD dd g) fa) :=
  PE.of (pe_callSD Fk hr hg hm hk hb hd hx ha hdb he hpl) fun σ H Q => by
    rintro ⟨P, F, m, e, h, S, E, fin⟩
    refine ⟨P, F, m, e, h, S, E, ?_⟩
    unfold sCall at fin
    cases q : fa e h with
    | bad => rw [q] at fin; exact fin.elim
    | exc C p h1 => rw [q] at fin; exact fin
    | ok ds h1 =>
      rw [q] at fin
      intro vs F1 m1 H1 x1 S1 r1
      exact ⟨by rw [List.length_append, r1.length, hl e h ds h1 q]; exact hn, P, F1, m1, ds ++ dd, h1, S1, r1.append (hdd F1 m1), FinG.weak x1 fin⟩
theorem sNil_len : ∀ e h ds h', sNil e h = .ok ds h' → ds.length = 0 := fun e h ds h' q => by
  cases q
  rfl
theorem sCons_len {fa : SE} {fr : SA} {n : Nat} (k : ∀ e h ds h', fr e h = .ok ds h' → ds.length = n) : ∀ e h ds h', sCons fa fr e h = .ok ds h' → ds.length = n + 1 := fun e h ds h' q => by
  unfold sCons at q
  cases q1 : fa e h with
  | bad => rw [q1] at q; cases q
  | exc C p h1 => rw [q1] at q; cases q
  | ok x h1 =>
    rw [q1] at q
    simp only [Res.bind_ok] at q
    cases q2 : fr e h1 with
    | bad => rw [q2] at q; cases q
    | exc C p h2 => rw [q2] at q; cases q
    | ok xs h2 =>
      rw [q2] at q
      simp only [Res.bind_ok, Res.ok.injEq] at q
      rw [← q.1, List.length_cons, k e h1 xs h2 q2]
theorem passAt0 {σ : St} {E : XK} : PassesAt CX0 X σ E := fun _ _ _ _ _ _ h => h.elim
/-- o.m(e, ..), the class written: nothing is raised -/
def sMeth (C mt : String) (g : FN) (o : SE) (a : SA) : SE := fun e h => (o e h).bind fun x h1 => match insAt h1 x with
  | some q => if q.1 = C ∧ q.2.lookup mt = none then (a e h1).bind fun ys h2 => (g (x :: ys) h2).noX else .bad
  | none => .bad
theorem rd_meth {C mt : String} {fo : SE} {fa : SA} {n : Nat} (hn : n + 1 = ps.length) (hl : ∀ e h ds h', fa e h = .ok ds h' → ds.length = n) {σ : St} {H : Hp} {Q : VK} (q : rdG X.K W (Den X.K) (sMeth C mt g fo fa) σ H Q) :
    tMeth (He.ga X.K (Str.ofString C)) (Str.ofString mt) (spN X.K ps.length g) [] E0 (rdG X.K W (Den X.K) fo) (rdG X.K W (DenL X.K) fa) σ H Q := by
  obtain ⟨P, F, m, e, h, S, E, fin⟩ := q
  refine rd_seq S E fin fun F1 m1 h1 H1 x dx x1 S1 E1 r1 fin1 => ?_
  cases q1 : insAt h1 dx with
  | none => rw [q1] at fin1; exact fin1.bad_elim
  | some z =>
    obtain ⟨C', fs⟩ := z
    rw [q1] at fin1
    dsimp only at fin1
    by_cases hz : C' = C ∧ fs.lookup mt = none
    · rw [if_pos hz] at fin1
      obtain ⟨rfl, hm⟩ := hz
      obtain ⟨a, dxx, fv, rfl, ha, ob, rf⟩ := insAt_ok S1 r1 q1
      refine ⟨a, dxx, fv, rfl, ha, rf.none hm, P, F1, m1, e, h1, S1, E1, ?_⟩
      cases q2 : fa e h1 with
      | bad => rw [q2] at fin1; exact fin1.elim
      | exc C p h2 => rw [q2] at fin1; exact fin1
      | ok ys h2 =>
        rw [q2] at fin1
        simp only [Res.bind_ok] at fin1
        intro vs F2 m2 H2 x2 S2 r2
        refine ⟨by rw [List.append_nil, List.length_cons, r2.length, hl e h1 ys h2 q2]; exact hn, P, F2, m2, dx :: ys, h2, S2, by rw [List.append_nil]; exact .cons (r1.mono x2) r2, ?_⟩
        cases q3 : g (dx :: ys) h2 with
        | ok d h3 => rw [q3] at fin1; exact FinG.weak x2 fin1
        | exc C p h3 => rw [q3] at fin1; exact fin1.elim
        | bad => rw [q3] at fin1; exact fin1.elim
    · rw [if_neg hz] at fin1
      exact fin1.bad_elim
theorem de_meth {C mt : String} {o a : Expr} {es : List Expr} {apos pos : Pos} {fo : SE} {fa : SA} (pl : Sem Bool) (c : Cls X.K (He.ga X.K (Str.ofString C))) (hm : Meth X.K (He.ga X.K (Str.ofString C)) (Str.ofString mt) f) (Fk : FnOk X.prog X.w X.K X.mg X.base CX0 k f fd ps (spN X.K ps.length g)) (hr : Room k X.A) (hb : Binds X.K fd ps []) (ho : DE X W o fo) (ha : DA X W (a :: es) fa)
    (hn : (a :: es).length + 1 = ps.length) (hl : ∀ e h ds h', fa e h = .ok ds h' → ds.length = (a :: es).length) (hst : starEach (a :: es) X.env = (false, eval a X.env) :: starEach es X.env := by rfl) (hpl : (backTo pos (starEach es X.env)).any (·.1) = false := by rfl)
    (ht : eval (.Call (.Attribute o (Str.ofString mt) apos) (a :: es) [] pos) X.env = (do
      let ov ← eval o X.env
      standAt apos.atName
      let (f, first) ← holding [ov] (getMethod ov (Str.ofString mt) pl)
      callWith pos f first (backTo pos (starEach (a :: es) X.env)) (backToKw pos (keywordEach [] X.env))) := by rfl) :
    DE X W (.Call (.Attribute o (Str.ofString mt) apos) (a :: es) [] pos) (sMeth C mt g fo fa) := PE.of (pe_meth (pl := pl) ho c hm Fk hr hb .nil (pass0 (X := X)) ha hst hpl ht) fun σ H Q => rd_meth hn hl
/-- .. frozen at once: __init__ sees nothing else -/
def sMakeP (C : String) (g : FN) (a : SA) : SE := fun e h => (a e h).bind fun ys h1 => if D.pureL ys then (match g (.ref 0 :: ys) [.ins C []] with
  | .ok .non (.ins C' fs :: _) => if C' = C ∧ D.pureF fs then .ok (.obj C fs) h1 else .bad
  | _ => .bad) else .bad
theorem ins_new {K : PySem.W.Frag} {P : Pins} {F : Hp} {m : List Addr} {h : OH} {H : Hp} {C : String} (S : Sim K P F m h H) (c : Cls K (He.ga K (Str.ofString C))) {x dx : Addr} (hx : H x = none) (hdx : H dx = none) (ne : dx ≠ x) :
    Sim K P F (m ++ [x]) (h ++ [.ins C []]) (upd (upd H dx (.own x)) x (.ins (He.ga K (Str.ofString C)) dx [])) := by
  have hx2 : (upd H dx (.own x)) x = none := by rw [upd_ne ne.symm]; exact hx
  exact (S.other hdx).alloc hx2 ⟨dx, [], upd_same, ⟨c, fun _ z => by simp at z⟩, .nil, S.free hx⟩
theorem DenF.pureM {K : PySem.W.Frag} {F : Hp} {m m' : List Addr} : ∀ {vs : List (Str × V)} {ds : List (String × D)}, DenF K F m vs ds → D.pureF ds = true → DenF K F m' vs ds
  | _, _, .nil, _ => .nil
  | _, _, .cons h t, e => by
    have e' := and2 (by simpa only [D.pureF] using e)
    exact .cons (h.pureM e'.1) (DenF.pureM t e'.2)
theorem de_makeP {C : String} {p pos : Pos} {a : Expr} {es : List Expr} {fa : SA} (M : Mk X.K (He.ga X.K (Str.ofString C)) f) (c : Cls X.K (He.ga X.K (Str.ofString C))) (Fk : FnOk X.prog X.w X.K X.mg X.base CX0 k f fd ps (spN X.K ps.length g)) (hr : Room (k + 1) X.A) (hm : X.mg (Str.ofString C) = some (.ref (He.ga X.K (Str.ofString C)))) (hb : Binds X.K fd ps [])
    (ha : DA X W (a :: es) fa) (hn : (a :: es).length + 1 = ps.length) (hl : ∀ e h ds h', fa e h = .ok ds h' → ds.length = (a :: es).length) (hg : Gl X (Str.ofString C) := by rfl) (hdb : (Str.ofString C == ("__debug__" : Str)) = false := by decide)
    (he : starEach (a :: es) X.env = (false, eval a X.env) :: starEach es X.env := by rfl) (hpl : (backTo pos (starEach es X.env)).any (·.1) = false := by rfl) : DE X W (.Call (.Name (Str.ofString C) p) (a :: es) [] pos) (sMakeP C g fa) :=
  PE.of (pe_make M Fk hr hg hm hb .nil (pass0 (X := X)) ha hdb he hpl) fun σ H Q => by
    rintro ⟨P, F, m, e, h, S, E, fin⟩
    refine ⟨P, F, m, e, h, S, E, ?_⟩
    unfold sMakeP at fin
    cases q : fa e h with
    | bad => rw [q] at fin; exact fin.elim
    | exc C p h1 => rw [q] at fin; exact fin
    | ok ys h1 =>
      rw [q] at fin
      simp only [Res.bind_ok] at fin
      intro vs F1 m1 H1 x1 S1 r1 x dx hx hdx ne
      by_cases hp : D.pureL ys = true
      · rw [if_pos hp] at fin
        have Sn := ins_new S1.hide c hx hdx ne
        refine ⟨by rw [List.append_nil, List.length_cons, r1.length, hl e h ys h1 q]; exact hn, _, F1, [x], .ref 0 :: ys, [.ins C []], Sn, by rw [List.append_nil]; exact .cons (.ref rfl) (r1.pureM hp), ?_⟩
        cases q2 : g (.ref 0 :: ys) [.ins C []] with
        | bad => rw [q2] at fin; exact fin.elim
        | exc C p h2 => rw [q2] at fin; exact fin.elim
        | ok d h2 =>
          rw [q2] at fin
          match d, h2, fin with
          | .non, .ins C' fs :: h3, fin =>
            dsimp only at fin
            by_cases hz : C' = C ∧ D.pureF fs = true
            · rw [if_pos hz] at fin
              obtain ⟨rfl, hf⟩ := hz
              intro v F2 m2 H2 x2 S2 rv
              cases rv
              refine ⟨rfl, ?_⟩
              have e0 : m2[0]? = some x := pre_get x2.p rfl
              obtain ⟨o, k1, k2⟩ := S2.own e0
              simp only [List.getElem?_cons_zero, Option.some.injEq] at k1
              subst k1
              obtain ⟨dx2, fv, k3, k4, k5, k6⟩ := k2
              have S3 := S2.freeze e0 k6 k3
              have x3 : Ext F1 m1 (upd F2 x (.ins (He.ga X.K (Str.ofString C')) dx2 fv)) m1 := ⟨x2.s.trans (ext_frz k6 (m := m2)).s, List.prefix_rfl⟩
              exact FinG.okX fin (x1.trans x3) (S1.unhide x3.s S3) (.obj upd_same k4 ((k5.mono (ext_frz k6)).pureM hf))
            · rw [if_neg hz] at fin
              exact fin.elim
          | .non, [], fin => exact fin.elim
          | .non, .lst _ :: _, fin => exact fin.elim
          | .non, .dct _ :: _, fin => exact fin.elim
          | .non, .dead :: _, fin => exact fin.elim
          | .non, .nd _ _ _ :: _, fin => exact fin.elim
          | .bl _, _, fin => exact fin.elim
          | .int _, _, fin => exact fin.elim
          | .str _, _, fin => exact fin.elim
          | .lst _, _, fin => exact fin.elim
          | .tup _, _, fin => exact fin.elim
          | .dct _, _, fin => exact fin.elim
          | .obj _ _, _, fin => exact fin.elim
          | .ref _, _, fin => exact fin.elim
          | .scr _, _, fin => exact fin.elim
          | .exc _, _, fin => exact fin.elim
          | .excf _ _ _, _, fin => exact fin.elim
          | .fn _, _, fin => exact fin.elim
          | .dcl _, _, fin => exact fin.elim
      · rw [if_neg hp] at fin
        exact fin.elim
end
/-! ### an own list is frozen -/
def frzE (f : SE) : SE := fun e h => (f e h).bind fun d h1 => match d with
  | .ref i => (match h1[i]? with
    | some (.lst xs) => .ok (.lst xs) (h1.set i .dead)
    | _ => .bad)
  | _ => .bad
theorem de_frz {a : Expr} {f : SE} (ha : DE X W a f) : DE X W a (frzE f) := PE.of ha fun σ H Q => by
  rintro ⟨P, F, m, e, h, S, E, fin⟩
  refine ⟨P, F, m, e, h, S, E, ?_⟩
  unfold frzE at fin
  cases q : f e h with
  | bad => rw [q] at fin; exact fin.elim
  | exc C p h1 => rw [q] at fin; exact fin
  | ok d h1 =>
    rw [q] at fin
    simp only [Res.bind_ok] at fin
    intro v F1 m1 H1 x S1 r
    cases r with
    | @ref b i e1 =>
      obtain ⟨o, k1, k2⟩ := S1.own e1
      dsimp only at fin
      rw [k1] at fin
      cases o with
      | lst xs =>
        obtain ⟨vs, k3, k4, k5⟩ := k2
        exact FinG.okX fin (x.trans (ext_frz k5)) (S1.freeze e1 k5 k3) (.lst upd_same (k4.mono (ext_frz k5)))
      | _ => exact fin.elim
    | _ => exact fin.elim
end
/-! ### the law's end -/
theorem law_sp {K : PySem.W.Frag} {g : FN} {n : Nat} (hg : ∀ ns : List Int, ns.length ≤ n → ∃ h', g [.scr (ns.map D.int)] [] = .ok (.bl true) h') (H : Hp) (a : Addr) (ns : List Int) (hl : ns.length ≤ n) (hO : Only H) (hS : SqL K H a (ns.map V.int)) : spN K 1 g [.ref a] H (fun v _ => v = .bl true) fun _ _ _ => False := by
  obtain ⟨h', e⟩ := hg ns hl
  refine ⟨rfl, [], H, [], [.scr (ns.map D.int)], [], ⟨Same.refl _, rfl, List.nodup_nil, fun _ z => by simp at z, fun _ _ _ z => by simp at z, fun _ z => by simp at z, by simp⟩, .cons (.scr hS (DenL.ints ns)) .nil, ?_⟩
  rw [e]
  intro v F' m' H' x S r
  exact den_bl r
end HR
set_option Elab.async false
set_option linter.all false
set_option maxRecDepth 100000
set_option maxHeartbeats 4000000
/-! LayG: len(set(xs)) of ints and texts; signs of a text; in; repr. -/
namespace HR
open PySem L2
/-! ### set(xs) of keys -/
abbrev inK (acc : List Key) : Key → Bool := fun k => acc.any fun y => decide (y = k)
/-- keys met so far, each once, in order -/
def ddK : List Key → List Key → List Key
  | acc, [] => acc
  | acc, x :: r => ddK (if inK acc x then acc else acc ++ [x]) r
section
variable {prog : Program} {w : World} {A : Around} {R : Result → Shared → Prop} {I : Addr} {fp wr : List Addr} {G : Array GenState → Array GenState → Prop} {n : Nat} {PV : Nat → Value → Prop} {StI : Nat → Shared → Prop}
theorem setOf_eq {h : Heap} {S : Addr} {f f' : Key → Bool} {c c' : Nat} (q : h.SetOf (mixKind prog w) S f c) (e : ∀ k, f k = f' k) (e2 : c = c') : h.SetOf (mixKind prog w) S f' c' := by
  obtain rfl : f = f' := funext e
  exact e2 ▸ q
theorem setOf_moved {h h' : Heap} {S : Addr} {f : Key → Bool} {c : Nat} (q : h.SetOf (mixKind prog w) S f c) (k : ∀ o, h.get? S = some o → h'.get? S = some o) : h'.SetOf (mixKind prog w) S f c := by
  obtain ⟨o, es, ep, t, ho, r⟩ := q
  exact ⟨o, es, ep, t, k o ho, r⟩
theorem set_loopK (Wk : WalksS prog w A.in1 I fp wr G n PV StI) (S : Addr) (hSf : S ∉ fp) (ks : List Key) (hlen : ks.length = n) (hn : n + 1 < scanBound) (hval : ∀ (i : Nat) (v : Value), PV i v → ∃ k, ks[i]? = some k ∧ keyIs k v = true) :
    ∀ (rest : List Key) (i : Nat) (acc : List Key) (s : Shared), ks.drop i = rest → acc.length ≤ i → i ≤ n → StI i s → s.heap.SetOf (mixKind prog w) S (inK acc) acc.length →
      (∀ s', Moved (S :: wr) G s s' → s'.heap.SetOf (mixKind prog w) S (inK (ddK acc rest)) (ddK acc rest).length → R (.ok (.ret .none)) s') →
      codeAny (model prog w) A (.builtin "set.update.loop" ⟨[.ref S, .ref I], []⟩) R s := by
  have hSw : S ∉ wr := fun z => hSf (Wk.sub _ z)
  have more : ∀ b ∈ wr, b ∈ S :: wr := fun b z => List.mem_cons_of_mem _ z
  intro rest
  induction rest with
  | nil =>
    intro i acc s hr ha hi st hS hR
    have hin : i = n := by
      have z := congrArg List.length hr
      simp at z
      omega
    subst hin
    refine codeAny_builtin (PyProof.Rows.F.entry_set_update_loop) ?_
    rw [Around.under_plainId (PyProof.Rows.F.plain_set_update_loop) _]
    refine wpAny_bind (m := pyNext (.ref I)) (Wk.done s _ _ st fun s' mv => ?_)
    show wpAny _ A.in1 (ret .none) _ _ s'
    exact wpAny_pure (hR s' (mv.mono more) (setOf_moved hS fun o e => mv.heap S o hSw e))
  | cons x r ih =>
    intro i acc s hr ha hi st hS hR
    have hlt : i < n := by
      have z := congrArg List.length hr
      simp at z
      omega
    have hx : ks[i]? = some x := by
      have z : (ks.drop i)[0]? = some x := by rw [hr]; rfl
      simpa using z
    have hr2 : ks.drop (i + 1) = r := by
      have z := congrArg (List.drop 1) hr
      rw [List.drop_drop] at z
      simpa [Nat.add_comm] using z
    refine codeAny_builtin (PyProof.Rows.F.entry_set_update_loop) ?_
    rw [Around.under_plainId (PyProof.Rows.F.plain_set_update_loop) _]
    refine wpAny_bind (m := pyNext (.ref I)) (Wk.item i s _ _ hlt st fun v s' hv st' mv => ?_)
    obtain ⟨k, e1, hk⟩ := hval i v hv
    rw [hx] at e1
    obtain rfl : x = k := Option.some.inj e1
    have hS' := setOf_moved hS fun o e => mv.heap S o hSw e
    show wpAny _ A.in1 (holding [v] (setAdd S v) >>= _) _ _ s'
    refine wpAny_bind (wpAny_holding ?_)
    unfold setAdd
    refine wpAny_holding (wpAny_bind ((mixKind prog w).pyHash (k := x) (by rw [mixKind_is]; exact hk) ?_))
    have sc : v.scannable = true := by
      rcases keyIs_shape hk with ⟨a, t, rfl, rfl⟩ | ⟨a, t, rfl, rfl⟩ <;> rfl
    refine wpAny_setAddHashed_of (knd := mixKind prog w) (s := { s' with toks := s'.toks + 1 }) (by rw [mixKind_is]; exact hk) sc hS' (by omega) fun h' hsb hS2 => ?_
    let acc2 := if inK acc x then acc else acc ++ [x]
    have hS3 : h'.SetOf (mixKind prog w) S (inK acc2) acc2.length := by
      refine setOf_eq hS2 (fun k' => ?_) ?_
      · show (inK acc k' || decide (k' = x)) = inK acc2 k'
        simp only [acc2]
        cases c : inK acc x with
        | true =>
          simp only [if_true]
          by_cases ek : k' = x
          · subst ek; simp [c]
          · simp [ek]
        | false =>
          have comm : decide (k' = x) = decide (x = k') := by
            by_cases ek : k' = x
            · subst ek; simp
            · have ek2 : ¬ x = k' := fun z => ek z.symm
              simp [ek, ek2]
          simp [inK, comm]
      · show (if inK acc x = true then acc.length else acc.length + 1) = (if inK acc x = true then acc else acc ++ [x]).length
        cases inK acc x <;> simp
    have ha2 : acc2.length ≤ i + 1 := by
      show (if inK acc x = true then acc else acc ++ [x]).length ≤ i + 1
      cases inK acc x <;> simp <;> omega
    have ne : ∀ b, b ≠ S → ∀ o, s'.heap.get? b = some o → h'.get? b = some o := fun b hb o e => (hsb.2 b hb).trans e
    refine wpAny_pure ⟨plainId_quiet PyProof.Rows.F.plain_set_update_loop _, ih (i + 1) acc2 _ hr2 ha2 hlt (Wk.frame _ s' _ _ st' (Nat.le_succ _) fun b hb o e => ne b (fun z => hSf (z ▸ hb)) o e) hS3 fun s2 mv2 hS4 => ?_⟩
    exact hR s2 (Moved.trans Wk.gtrans ((mv.mono more).then_heap (Nat.le_succ _) fun b o hb e => ne b (fun z => hb (by rw [z]; exact List.mem_cons_self)) o e) mv2) hS4
end
section
variable {prog : Program} {w : World} {A : Around} {E : Value → Shared → Prop} {s : Shared}
/-- set(xs), xs a list of ints and texts -/
theorem set_of_keys {l : Addr} {items : Array Value} {ks : List Key} {Q : Value → Shared → Prop} (hh : A.handled = none) (hl : s.heap.IsList l items) (hlen : ks.length = items.size) (hi : ∀ (i : Nat) (v : Value), items[i]? = some v → ∃ k, ks[i]? = some k ∧ keyIs k v = true) (hb : items.size + 1 < scanBound)
    (h : ∀ (h' : Heap) (tk : Nat), h'.SetOf (mixKind prog w) s.heap.objs.size (inK (ddK [] ks)) (ddK [] ks).length → (∀ b o, b < s.heap.objs.size → s.heap.get? b = some o → h'.get? b = some o) → Q (.ref s.heap.objs.size) { s with heap := h', toks := tk }) :
    wpAny (model prog w) A (call (.type "set") [.ref l]) Q E s := by
  let fresh (led : Bool) : Obj := { cls := .type "set", dict := none, data := .set #[] 0 (.fresh 0 0 led) }
  obtain ⟨c, tl, hmro⟩ := PySem.F.called_set.mro
  have f1 := PySem.F.called_set.made; have f2 := PySem.F.called_set.sub
  refine wpAny_call (codeAny_of_tree ?_)
  show wpAny _ _ (callAny (.type "set") ⟨[.ref l], []⟩) _ _ _
  refine wpAny_pure ⟨Code.quiet_builtin _ (by decide +kernel), codeAny_builtin (PySem.F.entry_type_call) ?_⟩
  rw [Around.under_plain (weight_type_call_type "set" [.ref l] []) rfl]
  have f3 := PySem.F.called_set.notType; have f4 := PySem.F.called_set.canCreate; have f5 := PySem.F.typeCall_set_1 (.ref l)
  repeat (any_goals (first | assumption | wp_step))
  refine codeAny_mono (code_set_new_1 (.ref l) (E := E) (Q₁ := fun ob t => ∃ led, ob = .ref s.heap.objs.size ∧ t = { s with heap := s.heap.push (fresh led) }) fun led => ⟨led, rfl, rfl⟩) fun r t hr => ?_
  cases r with
  | error e => exact hr
  | ok fl =>
    cases fl with
    | ret ob =>
      obtain ⟨led, rfl, rfl⟩ := hr
      have gS : (s.heap.push (fresh led)).get? s.heap.objs.size = some (fresh led) := Heap.get?_push_size _ rfl
      have tS : Shared.TypeIs { s with heap := s.heap.push (fresh led) } (.ref s.heap.objs.size) "set" := ⟨_, gS, rfl⟩
      have f6 := PySem.F.called_set.init.lookup; have f7 := PySem.F.called_set.init.bind (.ref s.heap.objs.size)
      repeat (any_goals (first | assumption | wp_step))
      let Done : Value → Shared → Prop := fun r t => r = .none ∧ ∃ h' tk, t = { s with heap := h', toks := tk } ∧ h'.SetOf (mixKind prog w) s.heap.objs.size (inK (ddK [] ks)) (ddK [] ks).length ∧ ∀ b o, b < s.heap.objs.size → s.heap.get? b = some o → h'.get? b = some o
      refine codeAny_mono (codeAny_call_builtin (R := wants Done E) PySem.F.called_set.init.plain PySem.F.entry_set_init (check_set_init_1 tS ?_)) fun r₂ t₂ hr₂ => ?_
      · obtain ⟨ol, hol, hcl, nl, hdl⟩ := hl
        obtain ⟨c0, d0, dt0, sl0⟩ := ol
        simp only at hcl hdl; subst hcl hdl
        have hol' : (s.heap.push (fresh led)).get? l = some { cls := .type "list", dict := d0, data := .seq items nl, slots := sl0 } := Heap.get?_push_of_some _ hol
        have g1 := PySem.F.sub_list_set; have g2 := PySem.F.sub_list_frozenset; have g3 : (Value.type "list" == Value.type "dict") = false := by decide
        have hl1 : (s.heap.push (fresh led)).IsList l items := ⟨_, hol', rfl, nl, rfl⟩
        unfold Builtin.«set.__init__»; unfold noKeywords Builtin.Frozenset.updateFrom
        generalize hPI : pyIter = PI
        wp_walk
        subst hPI
        refine wpAny_pyIter_list hl1 (?_)
        refine wpAny_bind (wpAny_runValue (?_))
        have lS : l < s.heap.objs.size := Heap.lt_size hol
        have hh3 : A.in1.in1.in1.handled = none := by rw [show A.in1.in1.in1.handled = A.handled from by simp]; exact hh
        have sz : (s.heap.push (fresh led)).objs.size = s.heap.objs.size + 1 := Heap.size_push _ _
        have nI : l ≠ (s.heap.push (fresh led)).objs.size := by rw [sz]; exact Nat.ne_of_lt (Nat.lt_succ_of_lt lS)
        have nS : s.heap.objs.size ∉ [(s.heap.push (fresh led)).objs.size, l] := by
          rw [sz]
          intro z
          simp only [List.mem_cons, List.not_mem_nil, or_false] at z
          rcases z with z | z
          · exact absurd z (Nat.ne_of_lt (Nat.lt_succ_self _))
          · exact absurd z (Nat.ne_of_gt lS)
        refine set_loopK ((Walks.list hh3 _ l nI items).toS) s.heap.objs.size nS ks hlen hb hi ks 0 [] _ (by simp) (Nat.le_refl _) (Nat.zero_le _) ⟨⟨_, Heap.get?_push_size _ rfl, rfl, rfl⟩, (hl1.push _)⟩ ?hS0 ?hR
        case hS0 =>
          exact ⟨_, #[], 0, _, Heap.get?_push_of_some _ gS, ⟨rfl, rfl, rfl⟩, rfl, fun e he => by simp at he, fun k => by simp [inK], by decide, by rfl, rfl⟩
        case hR =>
          intro t' mv hS'
          obtain ⟨h', g', d', tk', os'⟩ := t'
          obtain rfl : g' = s.gens := mv.gens
          obtain rfl : d' = s.drawn := mv.drawn
          obtain rfl : os' = s.os := mv.os
          refine wpAny_pure ?_
          show wpAny _ _ (ret .none) _ _ _
          refine wpAny_pure ⟨rfl, h', tk', rfl, hS', fun b o hb e => ?_⟩
          refine mv.heap b o (fun z => ?_) (Heap.get?_push_of_some _ (Heap.get?_push_of_some _ e))
          rcases List.mem_cons.mp z with z | z
          · exact absurd z (Nat.ne_of_lt hb)
          · rw [sz] at z
            rcases List.mem_singleton.mp z with rfl
            exact absurd (Nat.lt_of_lt_of_le hb (Nat.le_succ _)) (Nat.lt_irrefl _)
      · cases r₂ with
        | error e => exact hr₂
        | ok fl₂ =>
          cases fl₂ with
          | ret r =>
            obtain ⟨rfl, h', tk, rfl, hS', hk'⟩ := hr₂
            repeat (any_goals (first | assumption | wp_step))
            exact h _ _ hS' hk'
          | _ => exact hr₂.elim
    | _ => exact hr.elim
end
end HR
set_option Elab.async false
set_option linter.all false
set_option maxRecDepth 100000
set_option maxHeartbeats 4000000
/-! LayH: len(set(xs)), signs of a text, in, repr; defs that may call repr. -/
namespace HR
open PySem L2
open PyProof.Rows (envOfC)
/-! ### defs called where no repr runs -/
structure FnOkG (P : Program) (w : World) (K : PySem.W.Frag) (mg : Str → Option Value) (base : Heap) (CX : CXT) (k : Nat) (f : Addr) (fd : FuncData) (ps : List Str) (sp : Sp) : Prop where
  len : ∀ vs H Q E, sp vs H Q E → vs.length = ps.length
  run : ∀ (A : Around) (out : List Env) (s : Shared) (H : Hp) (args : Args) (us : List Value) (vs : List V) (Q : VK) (E : XK), Room k A → A.guards = some [] → Env0 P w K mg base A out s H → BindsTo s fd args (ps.zip us) → Vals vs us → sp vs H Q E →
    codeAny (model P w) A (.call (.ref f) args) (CR CX out P w H s Q E) s
section
variable {P : Program} {w : World} {K : PySem.W.Frag} {mg : Str → Option Value} {base : Heap} {CX : CXT} {k : Nat} {f : Addr} {fd : FuncData} {ps : List Str} {sp : Sp}
theorem FnOkG.mono {j : Nat} (F : FnOkG P w K mg base CX j f fd ps sp) (hj : j ≤ k) : FnOkG P w K mg base CX k f fd ps sp := ⟨F.len, fun A out s H args us vs Q E hr => F.run A out s H args us vs Q E (hr.mono hj)⟩
theorem FnOkG.pure {g : FN} (F : FnOkG P w K mg base CX k f fd ps (spN K ps.length g)) : FnOkG P w K mg base CX k f fd ps (spN K ps.length (pureF g)) :=
  ⟨fun vs H Q E q => F.len vs H Q E (pure_sp q), fun A out s H args us vs Q E hr hg e0 hb r q => F.run A out s H args us vs Q E hr hg e0 hb r (pure_sp q)⟩
end
section
variable {X : Cx} {W : WX} {CX : CXT} {k : Nat} {f : Addr} {fd : FuncData} {ps : List Str} {g : FN}
/-! ### len(set(xs)) -/
theorem bootSet : bootBuiltins "set" = some (.type "set") := by decide +kernel
def keysOf : List D → Option (List Key)
  | [] => some []
  | .int i :: r => (keysOf r).map (Sum.inl i :: ·)
  | .str x :: r => (keysOf r).map (Sum.inr x :: ·)
  | _ => none
theorem keysOf_ok {K : PySem.W.Frag} {F : Hp} {m : List Addr} : ∀ {vs : List V} {ds : List D} {ks : List Key}, DenL K F m vs ds → keysOf ds = some ks → vs = ks.map kV
  | _, _, _, .nil, e => by simp only [keysOf, Option.some.injEq] at e; subst e; rfl
  | _, _, _, .cons (.int i) t, e => by
    simp only [keysOf, Option.map_eq_some_iff] at e
    obtain ⟨ks, e1, e2⟩ := e
    subst e2
    rw [keysOf_ok t e1]
    rfl
  | _, _, _, .cons (.str i) t, e => by
    simp only [keysOf, Option.map_eq_some_iff] at e
    obtain ⟨ks, e1, e2⟩ := e
    subst e2
    rw [keysOf_ok t e1]
    rfl
  | _, _, _, .cons (.non) _, e | _, _, _, .cons (.bl _) _, e | _, _, _, .cons (.lst _ _) _, e | _, _, _, .cons (.scr _ _) _, e | _, _, _, .cons (.tup _ _) _, e | _, _, _, .cons (.dct _ _) _, e | _, _, _, .cons (.obj _ _ _) _, e | _, _, _, .cons (.ref _) _, e | _, _, _, .cons (.exc _) _, e => by simp [keysOf] at e
def sLenSet (f : SE) : SE := fun e h => (f e h).bind fun d h1 => match (lsqAt h1 d).bind keysOf with
  | some ks => if ks.length ≤ 4000 then .ok (.int (ddK [] ks).length) h1 else .bad
  | none => .bad
theorem kV_keyIs {k : Key} {u : Value} (r : RelV (kV k) u) : keyIs k u = true := by
  cases k with
  | inl i =>
    obtain ⟨t, rfl⟩ := r
    exact keyIs_int i t
  | inr x =>
    obtain ⟨t, rfl⟩ := r
    exact keyIs_str x t
theorem de_lenset {a : Expr} {fa : SE} {p p2 q pos : Pos} (hc : X.calm = true) (hg : Gl X "len") (hm : X.mg "len" = none) (hg2 : Gl X "set") (hm2 : X.mg "set" = none) (ha : DE X W a fa) (na : starEach [a] X.env = (false, eval a X.env) :: starEach [] X.env := by rfl) :
    DE X W (.Call (.Name "len" p) [.Call (.Name "set" p2) [a] [] q] [] pos) (sLenSet fa) := by
  refine ⟨fun pins s σ H Q I z => PyProof.Rows.Call_ (ld_blt I hg hm PySem.boot_len (PyProof.Rows.callWith_builtin1 (PyProof.Rows.args_cons (PyProof.Rows.Call_ (ld_blt I hg2 hm2 bootSet (PyProof.Rows.callWith_type1 (PyProof.Rows.args_cons ?_ na) na rfl))) rfl) rfl rfl))⟩
  obtain ⟨P, F, m, e, h, S, E, fin⟩ := z
  have key : rdG X.K W (Den X.K) fa σ H (fun x H1 => ∃ (l : Addr) (ks : List Key), x = .ref l ∧ SqL X.K H1 l (ks.map kV) ∧ ks.length ≤ 4000 ∧ Q (.int (ddK [] ks).length) H1) := by
    refine rd_seq S E fin fun F1 m1 h1 H1 x dx x1 S1 E1 r1 fin1 => ?_
    cases q1 : lsqAt h1 dx with
    | none => rw [q1] at fin1; exact fin1.bad_elim
    | some xs =>
      rw [q1] at fin1
      simp only [Option.bind_some] at fin1
      cases q2 : keysOf xs with
      | none => rw [q2] at fin1; exact fin1.bad_elim
      | some ks =>
        rw [q2] at fin1
        dsimp only at fin1
        by_cases hz : ks.length ≤ 4000
        · rw [if_pos hz] at fin1
          obtain ⟨b, vs, rfl, hb, rl⟩ := lsqAt_ok S1 r1 q1
          rw [keysOf_ok rl q2] at hb
          exact ⟨b, ks, rfl, hb, hz, fin1.ok S1 (.int _)⟩
        · rw [if_neg hz] at fin1
          exact fin1.bad_elim
  refine thn (ha.run pins s σ H _ I key) fun v s1 ⟨x, H1, I1, r1, l, ks, ex, hq, hl, q1⟩ => PyProof.Rows.args_nil ?_
  subst ex
  cases r1
  obtain ⟨its, r, pl, hz⟩ := I1.list hq
  have hlen : ks.length = its.toArray.size := by rw [List.size_toArray, ← r.length, List.length_map]
  refine set_of_keys (I1.ok.hd hc) pl.isList hlen (fun i v hv => ?_) (by rw [← hlen]; unfold scanBound; omega) fun h' tk hS hk => PyProof.Rows.args_nil ?_
  · have hi : i < ks.length := by
      rw [hlen]
      exact (Array.getElem?_eq_some_iff.mp hv).1
    refine ⟨ks[i], List.getElem?_eq_getElem hi, ?_⟩
    obtain ⟨u, e1, ru⟩ := r.get (i := i) (x := kV ks[i]) (by simp [hi])
    have hv2 : its[i]? = some v := by simpa using hv
    rw [hv2] at e1
    obtain rfl : v = u := Option.some.inj e1
    exact kV_keyIs ru
  · obtain ⟨o, es, ep, t, ho, hex, hd, _, _, hbd, hf, hn⟩ := hS
    have I2 : Inv X pins σ H1 { s1 with heap := h', toks := tk } := I1.kept fun b o e => hk b o (Heap.lt_size e) e
    refine call_len_set ho hex hd hf (by rw [hn] at hbd ⊢; unfold scanBound at hbd; omega) ⟨.int (ddK [] ks).length, H1, I2.tok _, ⟨_, by rw [hn]⟩, q1⟩
/-! ### the signs of a text -/
def signsD (x : Str) : List D := x.cps.toList.map fun c => D.str ⟨#[c]⟩
def sItStr (f : SE) : SA := fun e h => (f e h).bind fun d h1 => match d with
  | .str x => .ok (signsD x) h1
  | _ => .bad
theorem di_str {tg a : Expr} {f : SE} (ha : DE X W a f) : DI X W tg a (sItStr f) := PI.of (pi_str ha) fun σ H R => by
  rintro ⟨P, F, m, e, h, S, E, fin⟩
  refine rd_seq S E fin fun F1 m1 h1 H1 v d x S1 E1 r fin1 => ?_
  cases r with
  | str z =>
    refine ⟨z, rfl, FinG.ok fin1 S1 ?_⟩
    intro P2 F2 m2 h2 H2 i x2 S2
    have hl : (signsD z).length = z.cps.size := by simp [signsD]
    rw [hl]
    refine ⟨fun hi => ⟨hi, fun y H' yl => ?_⟩, fun hi => hi⟩
    obtain ⟨rfl, c, ec, rfl⟩ := yl
    refine ⟨F2, .refl, S2, .str ⟨#[c]⟩, ?_, .str _⟩
    simp [signsD, ec]
  | _ => exact fin1.bad_elim
/-! ### in -/
/-- one sign in a text -/
def opInS (neg : Bool) : D → D → OH → Res D
  | .str x, .str z, h => (match x.cps.toList with
    | [c] => .ok (.bl (if neg then !decide (c ∈ z.cps.toList) else decide (c ∈ z.cps.toList))) h
    | _ => .bad)
  | _, _, _ => .bad
theorem opInS_h (neg : Bool) : OpH X.K W (opInS neg) (fun x y H Q => ∃ (c : Nat) (z : Str), x = .str ⟨#[c]⟩ ∧ y = .str z ∧ Q (.bl (if neg then !decide (c ∈ z.cps.toList) else decide (c ∈ z.cps.toList))) H) := by
  intro P F m h H σ Q x y dx dy S r1 r2 fin
  unfold opInS at fin
  split at fin
  · rename_i a z
    cases den_str r1
    cases den_str r2
    split at fin
    · rename_i c hc
      have ea : a = ⟨#[c]⟩ := by
        obtain ⟨l⟩ := a
        obtain ⟨l⟩ := l
        simp only at hc
        subst hc
        rfl
      exact ⟨c, z, by rw [ea], rfl, fin.ok S (.bl _)⟩
    · exact fin.bad_elim
  · exact fin.bad_elim
theorem de_inS {a b : Expr} {pos : Pos} {fa fb : SE} (ha : DE X W a fa) (hb : DE X W b fb) (hm : behindInMarks .In b = false := by rfl) : DE X W (.Compare a [.In] [b] pos) (sBin (opInS false) fa fb) := de_cmp op_in_sign (opInS_h false) hm ha hb
/-- a flat value in a list or tuple of such -/
def flatD : D → Option V
  | .non => some .non
  | .int i => some (.int i)
  | .str x => some (.str x)
  | .bl b => some (.bl b)
  | _ => none
def flatsD : List D → Option (List V)
  | [] => some []
  | d :: r => match flatD d, flatsD r with
    | some v, some vs => some (v :: vs)
    | _, _ => none
theorem flatD_ok {K : PySem.W.Frag} {F : Hp} {m : List Addr} {v w : V} {d : D} (r : Den K F m v d) (e : flatD d = some w) : v = w := by
  cases r <;> simp only [flatD, Option.some.injEq, reduceCtorEq] at e <;> exact e
theorem flatsD_ok {K : PySem.W.Frag} {F : Hp} {m : List Addr} : ∀ {vs : List V} {ds : List D} {ws : List V}, DenL K F m vs ds → flatsD ds = some ws → vs = ws
  | _, _, _, .nil, e => by simp only [flatsD, Option.some.injEq] at e; exact e
  | _, d :: ds, _, .cons a t, e => by
    simp only [flatsD] at e
    cases q1 : flatD d with
    | none => rw [q1] at e; simp at e
    | some v =>
      cases q2 : flatsD ds with
      | none => rw [q1, q2] at e; simp at e
      | some vs =>
        rw [q1, q2] at e
        simp only [Option.some.injEq] at e
        rw [flatD_ok a q1, flatsD_ok t q2]
        exact e
end
end HR
set_option Elab.async false
set_option linter.all false
set_option maxRecDepth 100000
set_option maxHeartbeats 4000000
/-! LayI: iteration over any sequence or text; a def as its callers take it. -/
namespace HR
open PySem L2
open PyProof.Rows (envOfC)
section
variable {X : Cx} {W : WX}
/-- a list, a tuple, a text -/
def itAt : D → Option (List D)
  | .lst xs => some xs
  | .scr xs => some xs
  | .tup xs => some xs
  | .str x => some (signsD x)
  | _ => none
def sIt (f : SE) : SA := fun e h => (f e h).bind fun d h1 => match itAt d with
  | some xs => .ok xs h1
  | none => .bad
theorem di_any {tg a : Expr} {f : SE} (ha : DE X W a f) : DI X W tg a (sIt f) := PI.of (pi_or (di_seq ha) (di_str ha)) fun σ H R => by
  rintro ⟨P, F, m, e, h, S, E, fin⟩
  unfold sIt at fin
  cases q : f e h with
  | bad => rw [q] at fin; exact fin.elim
  | exc C p h1 =>
    rw [q] at fin
    exact .inl ⟨P, F, m, e, h, S, E, by unfold sItS; rw [q]; exact fin⟩
  | ok d h1 =>
    rw [q] at fin
    cases d with
    | str x => exact .inr ⟨P, F, m, e, h, S, E, by unfold sItStr; rw [q]; exact fin⟩
    | lst xs => exact .inl ⟨P, F, m, e, h, S, E, by unfold sItS; rw [q]; exact fin⟩
    | scr xs => exact .inl ⟨P, F, m, e, h, S, E, by unfold sItS; rw [q]; exact fin⟩
    | tup xs => exact .inl ⟨P, F, m, e, h, S, E, by unfold sItS; rw [q]; exact fin⟩
    | _ => exact False.elim fin
end
/-! ### a def as its callers take it -/
structure Def (P : Program) (w : World) (K : PySem.W.Frag) (mg : Str → Option Value) (base : Heap) (CX : CXT) (k : Nat) (f : Addr) (ps : List Str) (dvs : List V) (g : FN) : Prop where
  ex : ∃ fd dus, FnOk P w K mg base CX k f fd ps (spN K ps.length g) ∧ Binds K fd ps dus ∧ Vals dvs dus
  kp : PySem.W.keepIn K (.ref f) = true
structure DefG (P : Program) (w : World) (K : PySem.W.Frag) (mg : Str → Option Value) (base : Heap) (CX : CXT) (k : Nat) (f : Addr) (ps : List Str) (dvs : List V) (g : FN) : Prop where
  ex : ∃ fd dus, FnOkG P w K mg base CX k f fd ps (spN K ps.length g) ∧ Binds K fd ps dus ∧ Vals dvs dus
  kp : PySem.W.keepIn K (.ref f) = true
section
variable {P : Program} {w : World} {K : PySem.W.Frag} {mg : Str → Option Value} {base : Heap} {CX : CXT} {k : Nat} {f : Addr} {ps : List Str} {dvs : List V} {g : FN}
theorem Def.up {j : Nat} (d : Def P w K mg base CX j f ps dvs g) (h : j ≤ k) : Def P w K mg base CX k f ps dvs g := let ⟨fd, dus, a, b, c⟩ := d.ex; ⟨⟨fd, dus, a.mono h, b, c⟩, d.kp⟩
theorem Def.pure (d : Def P w K mg base CX k f ps dvs g) : Def P w K mg base CX k f ps dvs (pureF g) := let ⟨fd, dus, a, b, c⟩ := d.ex; ⟨⟨fd, dus, FnOk.pure a, b, c⟩, d.kp⟩
theorem DefG.up {j : Nat} (d : DefG P w K mg base CX j f ps dvs g) (h : j ≤ k) : DefG P w K mg base CX k f ps dvs g := let ⟨fd, dus, a, b, c⟩ := d.ex; ⟨⟨fd, dus, a.mono h, b, c⟩, d.kp⟩
theorem DefG.pure (d : DefG P w K mg base CX k f ps dvs g) : DefG P w K mg base CX k f ps dvs (pureF g) := let ⟨fd, dus, a, b, c⟩ := d.ex; ⟨⟨fd, dus, a.pure, b, c⟩, d.kp⟩
end
section
variable {X : Cx} {W : WX} {CX : CXT} {k : Nat} {f : Addr} {ps : List Str} {g : FN}
theorem de_callF {x : Str} {p pos : Pos} {a : Expr} {es : List Expr} {fa : SA} {dvs : List V} (dd : List D) (Fk : Def X.prog X.w X.K X.mg X.base CX k f ps dvs g) (hr : Room k X.A) (hm : X.mg x = some (.ref f))
    (hdd : ∀ F m, DenL X.K F m dvs dd) (hx : ∀ σ, PassesAt CX X σ fun cls od H => W cls od σ H) (ha : DA X W (a :: es) fa) (hl : ∀ e h ds h', fa e h = .ok ds h' → ds.length = (a :: es).length) (hn : (a :: es).length + dvs.length = ps.length := by rfl) (hg : Gl X x := by rfl) (hdb : (x == ("__debug__" : Str)) = false := by decide)
    (he : starEach (a :: es) X.env = (false, eval a X.env) :: starEach es X.env := by rfl) (hpl : (backTo pos (starEach es X.env)).any (·.1) = false := by rfl) : DE X W (.Call (.Name x p) (a :: es) [] pos) (sCall (withD dd g) fa) := by
  obtain ⟨fd, dus, F1, hb, hd⟩ := Fk.ex
  exact de_call dd F1 hr hm Fk.kp hb hd hdd hn hx ha hl hg hdb he hpl
theorem de_methF {C mt : String} {o a : Expr} {es : List Expr} {apos pos : Pos} {fo : SE} {fa : SA} (pl : Sem Bool) (c : Cls X.K (He.ga X.K (Str.ofString C))) (hm : Meth X.K (He.ga X.K (Str.ofString C)) (Str.ofString mt) f) (Fk : Def X.prog X.w X.K X.mg X.base CX0 k f ps [] g) (hr : Room k X.A) (ho : DE X W o fo) (ha : DA X W (a :: es) fa)
    (hl : ∀ e h ds h', fa e h = .ok ds h' → ds.length = (a :: es).length) (hn : (a :: es).length + 1 = ps.length := by rfl) (hst : starEach (a :: es) X.env = (false, eval a X.env) :: starEach es X.env := by rfl) (hpl : (backTo pos (starEach es X.env)).any (·.1) = false := by rfl)
    (ht : eval (.Call (.Attribute o (Str.ofString mt) apos) (a :: es) [] pos) X.env = (do
      let ov ← eval o X.env
      standAt apos.atName
      let (f, first) ← holding [ov] (getMethod ov (Str.ofString mt) pl)
      callWith pos f first (backTo pos (starEach (a :: es) X.env)) (backToKw pos (keywordEach [] X.env))) := by rfl) :
    DE X W (.Call (.Attribute o (Str.ofString mt) apos) (a :: es) [] pos) (sMeth C mt g fo fa) := by
  obtain ⟨fd, dus, F1, hb, hd⟩ := Fk.ex
  cases hd
  exact de_meth pl c hm F1 hr hb ho ha hn hl hst hpl ht
theorem de_makeF {C : String} {p pos : Pos} {a : Expr} {es : List Expr} {fa : SA} (M : Mk X.K (He.ga X.K (Str.ofString C)) f) (c : Cls X.K (He.ga X.K (Str.ofString C))) (Fk : Def X.prog X.w X.K X.mg X.base CX0 k f ps [] g) (hr : Room (k + 1) X.A) (hm : X.mg (Str.ofString C) = some (.ref (He.ga X.K (Str.ofString C))))
    (ha : DA X W (a :: es) fa) (hl : ∀ e h ds h', fa e h = .ok ds h' → ds.length = (a :: es).length) (hn : (a :: es).length + 1 = ps.length := by rfl) (hg : Gl X (Str.ofString C) := by rfl) (hdb : (Str.ofString C == ("__debug__" : Str)) = false := by decide)
    (he : starEach (a :: es) X.env = (false, eval a X.env) :: starEach es X.env := by rfl) (hpl : (backTo pos (starEach es X.env)).any (·.1) = false := by rfl) : DE X W (.Call (.Name (Str.ofString C) p) (a :: es) [] pos) (sMakeP C g fa) := by
  obtain ⟨fd, dus, F1, hb, hd⟩ := Fk.ex
  cases hd
  exact de_makeP M c F1 hr hm hb ha hn hl hg hdb he hpl
end
end HR
set_option Elab.async false
set_option linter.all false
set_option maxRecDepth 20000
set_option maxHeartbeats 1000000
/-! what the plain functions give: the weakest demand -/
namespace HR
open PySem L2
section
variable {X : Cx} {W : WX}
/-! ### a list against [] -/
def rNil (K : PySem.W.Frag) (neg : Bool) : R2 := fun x y H Q => ∃ a b xs, x = .ref a ∧ y = .ref b ∧ SqL K H a xs ∧ SqL K H b [] ∧ Q (.bl (if neg then !xs.isEmpty else xs.isEmpty)) H
theorem op_nilN (hu : X.A.units + 64 < cLine) : OpR X (compareOp .NotEq) (fun x y H Q => rNil X.K true x y H Q ∨ rNeD X.K x y H Q) := by
  intro pins s σ H x y v u Q I rx ry h
  rcases h with ⟨a, b, xs, rfl, rfl, ha, hb, q⟩ | h
  · cases (show v = Value.ref a from rx)
    cases (show u = Value.ref b from ry)
    obtain ⟨us, r1, p1, _⟩ := I.list ha
    obtain ⟨ws, r2, p2, _⟩ := I.list hb
    cases r2
    cases r1 with
    | nil => exact SeqAt.RcNeAt.lists (e := fun _ => true) p1.isList p2.isList rfl (by omega) (fun j h1 _ => absurd h1 (Nat.not_lt_zero j)) _ _ _ _ ⟨.bl false, H, I, rfl, q⟩
    | cons h t => exact SeqAt.RcNeAt.lists_lengths p1.isList p2.isList (by simp) (by omega) _ _ _ _ ⟨.bl true, H, I, rfl, q⟩
  · exact op_neD hu pins s σ H x y v u Q I rx ry h
/-- == [], any list -/
def opNil (neg : Bool) : D → D → OH → Res D := fun a b h => match lsqAt h a, b with
  | some xs, .lst [] => .ok (.bl (if neg then !xs.isEmpty else xs.isEmpty)) h
  | _, _ => opEq neg a b h
theorem opNil_h (neg : Bool) : OpH X.K W (opNil neg) (fun x y H Q => rNil X.K neg x y H Q ∨ (if neg then rNeD X.K else rEqD X.K) x y H Q) := by
  intro P F m h H σ Q x y dx dy S r1 r2 fin
  have old := fun fin => opEq_h (X := X) (W := W) neg P F m h H σ Q x y dx dy S r1 r2 fin
  unfold opNil at fin
  split at fin
  · rename_i xs e
    obtain ⟨a, vs, rfl, ha, rl⟩ := lsqAt_ok S r1 e
    cases r2 with
    | @lst b ws _ q rb =>
      cases rb
      refine .inl ⟨a, b, vs, rfl, rfl, ha, .inl (.inl (S.sub _ _ q)), ?_⟩
      have e2 : vs.isEmpty = xs.isEmpty := by cases rl <;> rfl
      rw [e2]
      exact fin _ F m H (Ext.refl ..) S (.bl _)
  · exact .inr (old fin)
theorem dt_neN {a b : Expr} {pos : Pos} {fa fb : SE} (hu : X.A.units + 64 < cLine) (ha : DE X W a fa) (hb : DE X W b fb) : DT X W (.Compare a [.NotEq] [b] pos) (sTest (sBin (opNil true) fa fb)) := dt_cmp (op_nilN hu) (opNil_h true) (nomark _) ha hb
end
def Res.W {α : Type} (r : Res α) (P : α → OH → Prop) : Prop := match r with
  | .ok a h => P a h
  | _ => False
/-- what follows; the loop's next round; behind the loop; the answer -/
def SRes.W (r : SRes) (N C B : Env' → OH → Prop) (R : D → OH → Prop) : Prop := match r with
  | .nx e h => N e h
  | .ct e h => C e h
  | .bk e h => B e h
  | .rt d h => R d h
  | _ => False
abbrev nov : Env' → OH → Prop := fun _ _ => False
section
variable {α β : Type} {P : α → OH → Prop} {N C B : Env' → OH → Prop} {R : D → OH → Prop} {PD : D → OH → Prop} {PL : List D → OH → Prop} {PB : Bool → OH → Prop}
theorem Res.W.out {r : Res α} (h : r.W P) : ∃ a h', r = .ok a h' ∧ P a h' := by
  cases r with
  | ok a h' => exact ⟨a, h', rfl, h⟩
  | exc _ _ _ => exact h.elim
  | bad => exact h.elim
theorem Res.W.of {r : Res α} {a : α} {h' : OH} (e : r = .ok a h') (p : P a h') : r.W P := by rw [e]; exact p
theorem Res.W.mono {r : Res α} {P' : α → OH → Prop} (h : r.W P) (m : ∀ a h', P a h' → P' a h') : r.W P' := by
  obtain ⟨a, h', e, p⟩ := h.out
  exact .of e (m a h' p)
theorem SRes.W.mono {r : SRes} {N' C' B' : Env' → OH → Prop} {R' : D → OH → Prop} (h : r.W N C B R) (m : ∀ e h', N e h' → N' e h') (m1 : ∀ e h', C e h' → C' e h') (m3 : ∀ e h', B e h' → B' e h') (m2 : ∀ d h', R d h' → R' d h') : r.W N' C' B' R' := by
  cases r with
  | nx e h' => exact m e h' h
  | rt d h' => exact m2 d h' h
  | bk e h' => exact m3 e h' h
  | ct e h' => exact m1 e h' h
  | exc _ _ _ _ => exact h.elim
  | bad => exact h.elim
@[simp] theorem W_ok (a : α) (h : OH) : (Res.ok a h).W P = P a h := rfl
@[simp] theorem W_bind (r : Res β) (f : β → OH → Res α) : (r.bind f).W P = r.W fun b h => (f b h).W P := by cases r <;> rfl
@[simp] theorem W_noX (r : Res α) : r.noX.W P = r.W P := by cases r <;> rfl
@[simp] theorem W_toS (r : Res β) (e : Env') (f : β → OH → SRes) : (r.toS e f).W N C B R = r.W fun b h => (f b h).W N C B R := by cases r <;> rfl
@[simp] theorem W_ite (c : Prop) [Decidable c] (a b : Res α) : (if c then a else b).W P = if c then a.W P else b.W P := by split <;> rfl
@[simp] theorem SW_ite (c : Prop) [Decidable c] (a b : SRes) : (if c then a else b).W N C B R = if c then a.W N C B R else b.W N C B R := by split <;> rfl
@[simp] theorem W_bad : (Res.bad : Res α).W P = False := rfl
/-! expressions -/
theorem W_sVar' (i : Nat) (e : Env') (h : OH) : (sVar i e h).W PD = match e[i]? with
  | some (some d) => PD d h
  | _ => False := by unfold sVar; split <;> simp_all
@[simp] theorem W_var0 (d : D) (e : Env') (h : OH) : (sVar 0 (some d :: e) h).W PD = PD d h := rfl
@[simp] theorem W_varS (i : Nat) (d : Option D) (e : Env') (h : OH) : (sVar (i + 1) (d :: e) h).W PD = (sVar i e h).W PD := by rw [W_sVar', W_sVar']; simp
@[simp] theorem W_c (d : D) (e : Env') (h : OH) : (sC d e h).W PD = PD d h := rfl
@[simp] theorem W_sBin (g : D → D → OH → Res D) (a b : SE) (e : Env') (h : OH) : (sBin g a b e h).W PD = (a e h).W fun x h1 => (b e h1).W fun y h2 => (g x y h2).W PD := by simp [sBin]
@[simp] theorem W_sUn (g : D → OH → Res D) (a : SE) (e : Env') (h : OH) : (sUn g a e h).W PD = (a e h).W fun x h1 => (g x h1).W PD := by simp [sUn]
@[simp] theorem W_sCall (g : List D → OH → Res D) (a : SA) (e : Env') (h : OH) : (sCall g a e h).W PD = (a e h).W fun x h1 => (g x h1).W PD := by simp [sCall]
@[simp] theorem W_sNil (e : Env') (h : OH) : (sNil e h).W PL = PL [] h := rfl
@[simp] theorem W_sCons (a : SE) (r : SA) (e : Env') (h : OH) : (sCons a r e h).W PL = (a e h).W fun x h1 => (r e h1).W fun xs h2 => PL (x :: xs) h2 := by simp [sCons]
@[simp] theorem W_sTup (a : SA) (e : Env') (h : OH) : (sTup a e h).W PD = (a e h).W fun xs h1 => if xs.length ≤ 1000000 then PD (.tup xs) h1 else False := by simp [sTup, big]
@[simp] theorem W_sLst (a : SA) (e : Env') (h : OH) : (sLst a e h).W PD = (a e h).W fun xs h1 => if xs.length ≤ 1000000 then PD (.lst xs) h1 else False := by simp [sLst, big]
@[simp] theorem W_sLstO (a : SA) (e : Env') (h : OH) : (sLstO a e h).W PD = (a e h).W fun xs h1 => if xs.length ≤ 1000000 then PD (.ref h1.length) (h1 ++ [.lst xs]) else False := by simp [sLstO, big]
theorem W_sTest' (f : SE) (e : Env') (h : OH) : (sTest f e h).W PB = (f e h).W fun d h1 => match d with
  | .bl b => PB b h1
  | _ => False := by
  unfold sTest; rw [W_bind]; congr; funext d h1; cases d <;> rfl
def isBl (d : D) (P : Bool → Prop) : Prop := match d with
  | .bl b => P b
  | _ => False
@[simp] theorem isBl_bl (b : Bool) (P : Bool → Prop) : isBl (.bl b) P = P b := rfl
@[simp] theorem W_sTest (f : SE) (e : Env') (h : OH) : (sTest f e h).W PB = (f e h).W fun d h1 => isBl d fun b => PB b h1 := by rw [W_sTest']; rfl
@[simp] theorem W_sAnd (a b : ST) (e : Env') (h : OH) : (sAnd a b e h).W PB = (a e h).W fun c h1 => if c then (b e h1).W PB else PB false h1 := by simp [sAnd]
@[simp] theorem W_sOr (a b : ST) (e : Env') (h : OH) : (sOr a b e h).W PB = (a e h).W fun c h1 => if c then PB true h1 else (b e h1).W PB := by simp [sOr]
@[simp] theorem W_sNot (a : ST) (e : Env') (h : OH) : (sNot a e h).W PB = (a e h).W fun c h1 => PB (!c) h1 := by simp [sNot]
@[simp] theorem W_sVal (a : ST) (e : Env') (h : OH) : (sVal a e h).W PD = (a e h).W fun c h1 => PD (.bl c) h1 := by simp [sVal]
@[simp] theorem W_sYes (e : Env') (h : OH) : (sYes e h).W PB = PB true h := rfl
@[simp] theorem W_sIf (c : ST) (a b : SE) (e : Env') (h : OH) : (sIf c a b e h).W PD = (c e h).W fun t h1 => if t then (a e h1).W PD else (b e h1).W PD := by simp [sIf]
@[simp] theorem W_sAndV (a b : SE) (e : Env') (h : OH) : (sAndV a b e h).W PD = (a e h).W fun d h1 => isBl d fun t => if t then (b e h1).W PD else PD (.bl false) h1 := by
  unfold sAndV; rw [W_bind]; congr; funext d h1
  cases d with
  | bl b => cases b <;> rfl
  | _ => rfl
@[simp] theorem W_sOrV (a b : SE) (e : Env') (h : OH) : (sOrV a b e h).W PD = (a e h).W fun d h1 => isBl d fun t => if t then PD (.bl true) h1 else (b e h1).W PD := by
  unfold sOrV; rw [W_bind]; congr; funext d h1
  cases d with
  | bl b => cases b <;> rfl
  | _ => rfl
@[simp] theorem W_sNotV (a : SE) (e : Env') (h : OH) : (sNotV a e h).W PD = (a e h).W fun d h1 => isBl d fun t => PD (.bl (!t)) h1 := by
  unfold sNotV; rw [W_bind]; congr; funext d h1
  cases d <;> rfl
@[simp] theorem W_frzE (f : SE) (e : Env') (h : OH) : (frzE f e h).W PD = (f e h).W fun d h1 => match d with
  | .ref i => (match h1[i]? with
    | some (.lst xs) => PD (.lst xs) (h1.set i .dead)
    | _ => False)
  | _ => False := by
  unfold frzE; rw [W_bind]; congr; funext d h1
  cases d with
  | ref i => dsimp only; split <;> simp_all
  | _ => rfl
/-! operators -/
@[simp] theorem W_opI2 (f : Int → Int → D) (c : Int → Int → Bool) (i j : Int) (h : OH) : (opI2 f c (.int i) (.int j) h).W PD = if c i j then PD (f i j) h else False := by simp [opI2]
@[simp] theorem W_addI (i j : Int) (h : OH) : (opAdd (.int i) (.int j) h).W PD = PD (.int (i + j)) h := rfl
@[simp] theorem W_mulI (i j : Int) (h : OH) : (opMul (.int i) (.int j) h).W PD = if mulOk i j then PD (.int (i * j)) h else False := by simp [opMul]
@[simp] theorem W_negI (i : Int) (h : OH) : (opNeg (.int i) h).W PD = PD (.int (-i)) h := rfl
@[simp] theorem W_absI (i : Int) (h : OH) : (opAbs (.int i) h).W PD = PD (.int (if i < 0 then -i else i)) h := rfl
@[simp] theorem W_divmod (i j : Int) (h : OH) : (opDivmod (.int i) (.int j) h).W PD = if divOk i j then PD (.tup [.int (i / j), .int (i % j)]) h else False := by simp [opDivmod]
@[simp] theorem W_b1 (f : D → OH → Res D) (d : D) (h : OH) : (b1 f [d] h).W PD = (f d h).W PD := rfl
@[simp] theorem W_b2 (f : D → D → OH → Res D) (d d2 : D) (h : OH) : (b2 f [d, d2] h).W PD = (f d d2 h).W PD := rfl
@[simp] theorem W_lenL (xs : List D) (h : OH) : (opLen (.lst xs) h).W PD = PD (.int xs.length) h := rfl
@[simp] theorem W_lenT (xs : List D) (h : OH) : (opLen (.tup xs) h).W PD = PD (.int xs.length) h := rfl
@[simp] theorem W_lenC (xs : List D) (h : OH) : (opLen (.scr xs) h).W PD = PD (.int xs.length) h := rfl
theorem W_lenS (x : Str) (h : OH) : (opLen (.str x) h).W PD = if x.length ≤ big then PD (.int x.length) h else False := by
  show (if x.length ≤ big then Res.ok (D.int x.length) h else Res.bad).W PD = _
  rw [W_ite]; rfl
@[simp] theorem W_withD (dd : List D) (g : FN) (xs : List D) (h : OH) : (withD dd g xs h).W PD = (g (xs ++ dd) h).W PD := rfl
theorem W_fn (n : Nat) (b : SS) (ds : List D) (h : OH) : (fnOf n b ds h).W PD = (b (ds.map some ++ List.replicate (n - ds.length) none) h).W (fun _ h1 => PD .non h1) nov nov PD := by
  unfold fnOf
  cases b (ds.map some ++ List.replicate (n - ds.length) none) h <;> rfl
/-! statements -/
@[simp] theorem SW_nx (e : Env') (h : OH) : (SRes.nx e h).W N C B R = N e h := rfl
@[simp] theorem SW_bad : SRes.bad.W N C B R = False := rfl
@[simp] theorem SW_rt (d : D) (h : OH) : (SRes.rt d h).W N C B R = R d h := rfl
@[simp] theorem SW_next (e : Env') (h : OH) : (sNext e h).W N C B R = N e h := rfl
@[simp] theorem SW_seq (f g : SS) (e : Env') (h : OH) : (sSeq f g e h).W N C B R = (f e h).W (fun e h => (g e h).W N C B R) C B R := by
  unfold sSeq; cases f e h <;> rfl
@[simp] theorem SW_set (i : Nat) (f : SE) (e : Env') (h : OH) : (sSet i f e h).W N C B R = (f e h).W fun d h1 => N (e.set i (some d)) h1 := by unfold sSet; rw [W_toS]; rfl
@[simp] theorem SW_ret (f : SE) (e : Env') (h : OH) : (sRet f e h).W N C B R = (f e h).W R := by unfold sRet; rw [W_toS]; rfl
@[simp] theorem SW_retN (e : Env') (h : OH) : (sRetN e h).W N C B R = R .non h := rfl
@[simp] theorem SW_expr (f : SE) (e : Env') (h : OH) : (sExpr f e h).W N C B R = (f e h).W fun _ h1 => N e h1 := by unfold sExpr; rw [W_toS]; rfl
@[simp] theorem SW_if (c : ST) (a b : SS) (e : Env') (h : OH) : (sIfS c a b e h).W N C B R = (c e h).W fun t h1 => if t then (a e h1).W N C B R else (b e h1).W N C B R := by
  unfold sIfS; rw [W_toS]; simp
@[simp] theorem SW_for (it : SA) (g : TF) (b : SS) (e : Env') (h : OH) : (sFor it g b e h).W N C B R = (it e h).W fun ds h1 => (forL g b ds e h1).W N C B R := by unfold sFor; rw [W_toS]
@[simp] theorem SW_asg (g : TF) (f : SE) (e : Env') (h : OH) : (sAsg g f e h).W N C B R = (f e h).W fun d h1 => match g d e h1 with
  | some e1 => N e1 h1
  | none => False := by
  unfold sAsg; rw [W_toS]; congr; funext d h1; split <;> simp_all
@[simp] theorem SW_brk (e : Env') (h : OH) : (sBreak e h).W N C B R = B e h := rfl
@[simp] theorem SW_cont (e : Env') (h : OH) : (sCont e h).W N C B R = C e h := rfl
@[simp] theorem gN_ev (i : Nat) (d : D) (e : Env') (h : OH) : gN i d e h = some (e.set i (some d)) := rfl
theorem W_forL {g : TF} {b : SS} (I : Nat → Env' → OH → Prop) : ∀ (ds : List D) (e : Env') (h : OH), I 0 e h → (∀ k d, ds[k]? = some d → ∀ e h, I k e h → ∃ e1, g d e h = some e1 ∧ (b e1 h).W (I (k + 1)) (I (k + 1)) N R) → (∀ e h, I ds.length e h → N e h) → (forL g b ds e h).W N C B R
  | [], e, h, i0, _, fin => fin e h i0
  | d :: ds, e, h, i0, st, fin => by
    obtain ⟨e1, q, w⟩ := st 0 d rfl e h i0
    have rest := fun e2 h2 (z : I 1 e2 h2) => W_forL (fun k => I (k + 1)) ds e2 h2 z (fun k d q => st (k + 1) d q) fin
    unfold forL
    rw [q]
    dsimp only
    cases q2 : b e1 h with
    | nx e2 h2 => rw [q2] at w; exact rest e2 h2 w
    | ct e2 h2 => rw [q2] at w; exact rest e2 h2 w
    | bk e2 h2 => rw [q2] at w; exact w
    | rt d h2 => rw [q2] at w; exact w
    | exc _ _ _ _ => rw [q2] at w; exact w.elim
    | bad => rw [q2] at w; exact w.elim
/-! reading the own heap -/
def lkL (o : Option OO) (P : List D → Prop) : Prop := match o with
  | some (.lst xs) => P xs
  | _ => False
@[simp] theorem lkL_lst (xs : List D) (P : List D → Prop) : lkL (some (.lst xs)) P = P xs := rfl
def lkS {α : Type} (o : Option α) (P : α → Prop) : Prop := match o with
  | some x => P x
  | none => False
@[simp] theorem lkS_some {α : Type} (x : α) (P : α → Prop) : lkS (some x) P = P x := rfl
theorem lkS_of {α : Type} {o : Option α} {x : α} {P : α → Prop} (e : o = some x) (p : P x) : lkS o P := by rw [e]; exact p
@[simp] theorem W_ixL (xs : List D) (i : Int) (h : OH) : (opIx (.lst xs) (.int i) h).W PD = lkS (atI xs i) fun d => PD d h := by
  simp only [opIx, seqAt]; split <;> simp_all [lkS]
@[simp] theorem W_ixT (xs : List D) (i : Int) (h : OH) : (opIx (.tup xs) (.int i) h).W PD = lkS (atI xs i) fun d => PD d h := by
  simp only [opIx, seqAt]; split <;> simp_all [lkS]
@[simp] theorem W_ixC (xs : List D) (i : Int) (h : OH) : (opIx (.scr xs) (.int i) h).W PD = lkS (atI xs i) fun d => PD d h := by
  simp only [opIx, seqAt]; split <;> simp_all [lkS]
@[simp] theorem W_ixR (n : Nat) (i : Int) (h : OH) : (opIx (.ref n) (.int i) h).W PD = lkL h[n]? fun xs => lkS (atI xs i) fun d => PD d h := by
  simp only [opIx, seqAt]
  cases h[n]? with
  | none => rfl
  | some o => cases o with
    | lst xs => simp only [lkL_lst]; split <;> simp_all [lkS]
    | _ => rfl
@[simp] theorem W_lenR (n : Nat) (h : OH) : (opLen (.ref n) h).W PD = lkL h[n]? fun xs => PD (.int xs.length) h := by
  simp only [opLen, seqAt]
  cases h[n]? with
  | none => rfl
  | some o => cases o <;> rfl
theorem ixN_z {n : Nat} {j : Int} (h0 : 0 ≤ j) (h : j < n) : ixN n j = some j.toNat := by simp [ixN, h0, h]
theorem atI_z {α : Type} {xs : List α} {j : Int} (h0 : 0 ≤ j) (h : j < xs.length) : atI xs j = xs[j.toNat]? := by simp [atI, ixN_z h0 h]
@[simp] theorem atI_0 {α : Type} (x : α) (xs : List α) : atI (x :: xs) 0 = some x := by rw [atI_z (by omega) (by simp)]; rfl
@[simp] theorem atI_1 {α : Type} (x y : α) (xs : List α) : atI (x :: y :: xs) 1 = some y := by rw [atI_z (by omega) (by simp; omega)]; rfl
@[simp] theorem atI_2 {α : Type} (x y z : α) (xs : List α) : atI (x :: y :: z :: xs) 2 = some z := by rw [atI_z (by omega) (by simp; omega)]; rfl
@[simp] theorem atI_3 {α : Type} (x y z u : α) (xs : List α) : atI (x :: y :: z :: u :: xs) 3 = some u := by rw [atI_z (by omega) (by simp; omega)]; rfl
@[simp] theorem ixN_0 (n : Nat) : ixN (n + 1) 0 = some 0 := ixN_z (by omega) (by omega)
@[simp] theorem ixN_1 (n : Nat) : ixN (n + 1 + 1) 1 = some 1 := ixN_z (by omega) (by omega)
@[simp] theorem ixN_2 (n : Nat) : ixN (n + 1 + 1 + 1) 2 = some 2 := ixN_z (by omega) (by omega)
@[simp] theorem SW_ixS (o i v : SE) (e : Env') (h : OH) : (sIxS o i v e h).W N C B R = (v e h).W fun y h1 => (o e h1).W fun x h2 => (i e h2).W fun k h3 => match x, k with
  | .ref n, .int j => lkL h3[n]? fun xs => lkS (ixN xs.length j) fun q => N e (h3.set n (.lst (xs.set q y)))
  | _, _ => False := by
  unfold sIxS
  simp only [W_toS]
  congr; funext y h1; congr; funext x h2; congr; funext k h3
  cases x <;> cases k <;> first | rfl | skip
  rename_i n j
  dsimp only
  cases h3[n]? with
  | none => rfl
  | some o => cases o with
    | lst xs => simp only [lkL_lst]; cases ixN xs.length j <;> rfl
    | _ => rfl
/-! sizes of numbers -/
def Small (i : Int) : Prop := i.natAbs < 2 ^ 4000
theorem log2_small {n k : Nat} (h : n < 2 ^ k) (hk : 0 < k) : n.log2 < k := by
  rcases Nat.eq_zero_or_pos n with h0 | h0
  · subst h0; simpa using hk
  · exact (Nat.log2_lt (by omega)).mpr h
theorem mulOk_small {i j : Int} (a : Small i) (b : Small j) : mulOk i j = true := by
  have h1 := log2_small a (by decide)
  have h2 := log2_small b (by decide)
  simp only [mulOk, Bool.or_eq_true, decide_eq_true_eq]
  omega
theorem mulOk_r {i j : Int} (a : j.natAbs < 2 ^ 64) : mulOk i j = true := by simp [mulOk, a]
theorem divOk_small {i j : Int} (a : Small j) (b : 0 < j) : divOk i j = true := by
  have h1 := log2_small a (by decide)
  simp only [divOk, Bool.and_eq_true, decide_eq_true_eq]
  omega
theorem small_of {i : Int} {k : Nat} (h : i.natAbs < 2 ^ k) (hk : k ≤ 4000) : Small i := Nat.lt_of_lt_of_le h (Nat.pow_le_pow_right (by decide) hk)
theorem small_64 {i : Int} (h : i.natAbs < 18446744073709551616) : Small i := small_of (k := 64) h (by decide)
theorem small_lt {i : Int} (k : Nat) (h0 : 0 ≤ i) (h : i < (2 ^ k : Nat)) (hk : k ≤ 4000 := by decide) : Small i := small_of (k := k) (by omega) hk
/-! parts -/
def isI (d : D) (P : Int → Prop) : Prop := match d with
  | .int b => P b
  | _ => False
@[simp] theorem isI_int (b : Int) (P : Int → Prop) : isI (.int b) P = P b := rfl
@[simp] theorem W_rng1 (a : SE) (e : Env') (h : OH) : (sRng1 a e h).W PL = (a e h).W fun d h1 => isI d fun j => if rngOk j then PL (rngD 0 j.toNat) h1 else False := by
  unfold sRng1; rw [W_bind]; congr; funext d h1
  cases d <;> first | rfl | simp
@[simp] theorem W_rng2 (a b : SE) (e : Env') (h : OH) : (sRng2 a b e h).W PL = (a e h).W fun d h1 => (b e h1).W fun d2 h2 => isI d fun i => isI d2 fun j => if rngOk i && rngOk j then PL (rngD i (j - i).toNat) h2 else False := by
  unfold sRng2; rw [W_bind]; congr; funext d h1; rw [W_bind]; congr; funext d2 h2
  cases d <;> cases d2 <;> first | rfl | simp
@[simp] theorem W_it (f : SE) (e : Env') (h : OH) : (sIt f e h).W PL = (f e h).W fun d h1 => lkS (itAt d) fun xs => PL xs h1 := by
  unfold sIt; rw [W_bind]; congr; funext d h1
  cases itAt d <;> rfl
@[simp] theorem itAt_lst (xs : List D) : itAt (.lst xs) = some xs := rfl
@[simp] theorem itAt_tup (xs : List D) : itAt (.tup xs) = some xs := rfl
@[simp] theorem itAt_scr (xs : List D) : itAt (.scr xs) = some xs := rfl
@[simp] theorem itAt_str (x : Str) : itAt (.str x) = some (signsD x) := rfl
theorem rngD_at {lo : Int} {n k : Nat} {d : D} (h : (rngD lo n)[k]? = some d) : k < n ∧ d = .int (lo + k) := by
  simp only [rngD, List.getElem?_map, Option.map_eq_some_iff] at h
  obtain ⟨j, e1, e2⟩ := h
  obtain ⟨h1, h2⟩ := List.getElem?_eq_some_iff.mp e1
  rw [List.getElem_range] at h2
  rw [List.length_range] at h1
  subst h2
  exact ⟨h1, e2.symm⟩
@[simp] theorem rngD_len (lo : Int) (n : Nat) : (rngD lo n).length = n := by simp [rngD]
variable {PO : Option Int → OH → Prop}
@[simp] theorem W_noPart (e : Env') (h : OH) : (sNoPart e h).W PO = PO none h := rfl
@[simp] theorem W_part (f : SE) (e : Env') (h : OH) : (sPart f e h).W PO = (f e h).W fun d h1 => isI d fun j => PO (some j) h1 := by
  unfold sPart; rw [W_bind]; congr; funext d h1
  cases d <;> rfl
@[simp] theorem W_sCut (own : Bool) (a : SE) (lo hi : SO) (e : Env') (h : OH) : (sCut own a lo hi e h).W PD = (a e h).W fun x h1 => (lo e h1).W fun l h2 => (hi e h2).W fun u h3 => (opCut own x l u h3).W PD := by simp [sCut]
@[simp] theorem W_cutL (own : Bool) (xs : List D) (lo hi : Option Int) (h : OH) : (opCut own (.lst xs) lo hi h).W PD = if own then PD (.ref h.length) (h ++ [.lst (cutD xs lo hi)]) else PD (.lst (cutD xs lo hi)) h := by
  simp [opCut, lsqAt, seqAt]
@[simp] theorem W_cutC (own : Bool) (xs : List D) (lo hi : Option Int) (h : OH) : (opCut own (.scr xs) lo hi h).W PD = if own then PD (.ref h.length) (h ++ [.lst (cutD xs lo hi)]) else PD (.lst (cutD xs lo hi)) h := by
  simp [opCut, lsqAt, seqAt]
theorem cutD_take (xs : List D) (k : Int) (hk : 0 ≤ k) : cutD xs none (some k) = xs.take k.toNat := by
  have e : ¬ k < 0 := by omega
  simp only [cutD, HT.sIx, e, if_false, List.drop_zero, Nat.sub_zero]
  rw [List.take_eq_take_iff]
  omega
theorem cutD_drop (xs : List D) (k : Int) (hk : 0 ≤ k) : cutD xs (some k) none = xs.drop k.toNat := by
  have e : ¬ k < 0 := by omega
  simp only [cutD, HT.sIx, e, if_false]
  rw [List.take_of_length_le (by simp)]
  rcases Nat.le_total k.toNat xs.length with h | h
  · rw [Nat.min_eq_left h]
  · rw [Nat.min_eq_right h, List.drop_length, List.drop_eq_nil_of_le h]
/-! methods of own lists -/
@[simp] theorem W_sMtO (g : Nat → List D → List D → OH → Res D) (o : SE) (a : SA) (e : Env') (h : OH) : (sMtO g o a e h).W PD = (o e h).W fun x h1 => match x with
  | .ref i => lkL h1[i]? fun _ => (a e h1).W fun ys h2 => lkL h2[i]? fun xs => (g i xs ys h2).W PD
  | _ => False := by
  unfold sMtO
  rw [W_bind]; congr; funext x h1
  cases x with
  | ref i =>
    rcases q : h1[i]? with _ | o
    · simp [isOwn, q, lkL]
    · cases o with
      | lst xs =>
        simp only [isOwn, q, lkL_lst, if_true, W_bind]
        congr; funext ys h2
        rcases q2 : h2[i]? with _ | o
        · rfl
        · cases o <;> rfl
      | _ => simp [isOwn, q, lkL]
  | _ => rfl
@[simp] theorem W_append (i : Nat) (xs : List D) (y : D) (h : OH) : (gAppend i xs [y] h).W PD = if xs.length < 1000000 then PD .non (h.set i (.lst (xs ++ [y]))) else False := by simp [gAppend, big]
theorem W_popAt {i : Nat} {xs : List D} {k : Int} {h : OH} {y : D} (h0 : 0 ≤ k) (hy : xs[k.toNat]? = some y) (hb : k < 2 ^ 63) (p : PD y (h.set i (.lst (xs.eraseIdx k.toNat)))) : (gPopAt i xs [.int k] h).W PD := by
  have hl := (List.getElem?_eq_some_iff.mp hy).1
  have e : seqIndex? k xs.length = some k.toNat := by
    have : ¬ k < 0 := by omega
    have : k < xs.length := by omega
    simp [seqIndex?, *]
  have b : -(2 ^ 63) ≤ k ∧ k < 2 ^ 63 := ⟨by omega, hb⟩
  simp only [gPopAt, if_pos b, e, hy]
  exact p
/-! comprehensions -/
@[simp] theorem W_sLc (own : Bool) (it : SA) (g : TF) (tt : ST) (el : SE) (vs : List Nat) (e : Env') (h : OH) : (sLc own it g tt el vs e h).W PD = (it e h).W fun ds h1 => (lcGo g tt el (wipeD e vs) ds h1 []).W fun acc h2 => if own then PD (.ref h2.length) (h2 ++ [.lst acc]) else PD (.lst acc) h2 := by
  simp [sLc]
theorem W_lcGo {g : TF} {tt : ST} {el : SE} {e : Env'} (I : Nat → List D → OH → Prop) : ∀ (ds : List D) (h : OH) (acc : List D), I 0 acc h → (∀ k d, ds[k]? = some d → ∀ acc h, I k acc h → ∃ e1, g d e h = some e1 ∧ (tt e1 h).W fun b h1 => if b then (el e1 h1).W fun y h2 => acc.length < 1000000 ∧ I (k + 1) (acc ++ [y]) h2 else I (k + 1) acc h1) →
    (∀ acc h, I ds.length acc h → PL acc h) → (lcGo g tt el e ds h acc).W PL
  | [], h, acc, i0, _, fin => fin acc h i0
  | d :: ds, h, acc, i0, st, fin => by
    obtain ⟨e1, q, w⟩ := st 0 d rfl acc h i0
    have rest := fun acc2 h2 (z : I 1 acc2 h2) => W_lcGo (fun k => I (k + 1)) ds h2 acc2 z (fun k d q => st (k + 1) d q) fin
    unfold lcGo
    rw [q]
    dsimp only
    rw [W_bind, W_noX]
    refine w.mono fun b h1 hw => ?_
    cases b with
    | true =>
      simp only [if_true] at hw ⊢
      rw [W_bind, W_noX]
      refine hw.mono fun y h2 hw2 => ?_
      rw [if_pos hw2.1]
      exact rest _ _ hw2.2
    | false => exact rest _ _ hw
/-- nothing is changed on the way -/
theorem W_lcMap {ξ : Type} {g : TF} {tt : ST} {el : SE} {e : Env'} (xs : List ξ) (emb : ξ → D) (p : ξ → Bool) (f : ξ → D) (h : OH) (hb : xs.length ≤ big)
    (st : ∀ x ∈ xs, ∃ e1, g (emb x) e h = some e1 ∧ (tt e1 h).W fun b h1 => b = p x ∧ h1 = h ∧ (p x = true → (el e1 h1).W fun y h2 => y = f x ∧ h2 = h)) (fin : PL ((xs.filter p).map f) h) : (lcGo g tt el e (xs.map emb) h []).W PL := by
  refine W_lcGo (fun k acc h' => h' = h ∧ acc = ((xs.take k).filter p).map f) _ _ _ ⟨rfl, rfl⟩ (fun k d hd acc h' hI => ?_) (fun acc h' hI => ?_)
  · obtain ⟨rfl, rfl⟩ := hI
    rw [List.getElem?_map, Option.map_eq_some_iff] at hd
    obtain ⟨x, hx, rfl⟩ := hd
    have hk := (List.getElem?_eq_some_iff.mp hx).1
    obtain ⟨e1, q, w⟩ := st x (List.mem_of_getElem? hx)
    refine ⟨e1, q, w.mono fun b h1 z => ?_⟩
    obtain ⟨rfl, rfl, z⟩ := z
    have ht : xs.take (k + 1) = xs.take k ++ [x] := by
      rw [List.take_succ, hx]; rfl
    cases hp : p x with
    | true =>
      rw [if_pos rfl]
      refine (z hp).mono fun y h2 z => ?_
      obtain ⟨rfl, rfl⟩ := z
      refine ⟨?_, rfl, ?_⟩
      · have a1 := List.length_filter_le p (xs.take k)
        have a2 : (xs.take k).length ≤ k := List.length_take_le ..
        have hb' : xs.length ≤ 1000000 := hb
        rw [List.length_map]
        omega
      · rw [ht]; simp [hp]
    | false => exact ⟨rfl, by rw [ht]; simp [hp]⟩
  · obtain ⟨rfl, rfl⟩ := hI
    simpa using fin
end
end HR
set_option Elab.async false
set_option linter.all false
set_option maxRecDepth 20000
set_option maxHeartbeats 1000000
/-! more of what the plain functions give -/
namespace HR
open PySem L2
section
variable {α β : Type} {P : α → OH → Prop} {N C B : Env' → OH → Prop} {R : D → OH → Prop} {PD : D → OH → Prop} {PL : List D → OH → Prop} {PB : Bool → OH → Prop}
theorem pure_eq {f : FN} {ds : List D} {x : D} (h : OH) (hp : D.pureL ds = true) (hx : x.pure = true) (w : (f ds []).W fun d _ => d = x) : pureF f ds h = .ok x h := by
  obtain ⟨a, h', e, rfl⟩ := w.out
  simp [pureF, hp, e, hx]
theorem pureL_map {ξ : Type} (f : ξ → D) (hf : ∀ x, (f x).pure = true) : ∀ l : List ξ, D.pureL (l.map f) = true
  | [] => rfl
  | x :: l => by simp [D.pureL, hf x, pureL_map f hf l]
@[simp] theorem pureL_nil : D.pureL [] = true := rfl
@[simp] theorem pureL_cons (x : D) (l : List D) : D.pureL (x :: l) = (x.pure && D.pureL l) := rfl
@[simp] theorem pureF_nil : D.pureF [] = true := rfl
@[simp] theorem pureF_cons (x : String × D) (l : List (String × D)) : D.pureF (x :: l) = (x.2.pure && D.pureF l) := rfl
@[simp] theorem pure_non : D.non.pure = true := rfl
@[simp] theorem pure_int (i : Int) : (D.int i).pure = true := rfl
@[simp] theorem pure_str (i : Str) : (D.str i).pure = true := rfl
@[simp] theorem pure_bl (i : Bool) : (D.bl i).pure = true := rfl
@[simp] theorem pure_lst (l : List D) : (D.lst l).pure = D.pureL l := rfl
@[simp] theorem pure_tup (l : List D) : (D.tup l).pure = D.pureL l := rfl
@[simp] theorem pure_scr (l : List D) : (D.scr l).pure = D.pureL l := rfl
@[simp] theorem pure_obj (C : String) (l : List (String × D)) : (D.obj C l).pure = D.pureF l := rfl
@[simp] theorem pureL_ints (l : List Int) : D.pureL (l.map D.int) = true := pureL_map _ (fun _ => rfl) l
@[simp] theorem pureL_strs (l : List Str) : D.pureL (l.map D.str) = true := pureL_map _ (fun _ => rfl) l
/-! == -/
@[simp] theorem W_eqI (neg : Bool) (i j : Int) (h : OH) : (opEq neg (.int i) (.int j) h).W PD = PD (.bl (if neg then !(i == j) else i == j)) h := by
  simp [opEq, SeqAt.shaped, PyData.canLay0, PyData.depth, PyData.eqv]
theorem W_eqS (neg : Bool) (x y : Str) (h : OH) (hx : PyData.strOk x = true) (hy : PyData.strOk y = true) : (opEq neg (.str x) (.str y) h).W PD = PD (.bl (if neg then !(x == y) else x == y)) h := by
  simp [opEq, SeqAt.shaped, PyData.canLay0, PyData.depth, PyData.eqv, hx, hy]
@[simp] theorem W_nilL (neg : Bool) (xs : List D) (h : OH) : (opNil neg (.lst xs) (.lst []) h).W PD = PD (.bl (if neg then !xs.isEmpty else xs.isEmpty)) h := by simp [opNil, lsqAt, seqAt]
@[simp] theorem W_isNon (neg : Bool) (h : OH) : (opIs neg .non .non h).W PD = PD (.bl (!neg)) h := by simp [opIs]
@[simp] theorem W_isInt (neg : Bool) (i : Int) (h : OH) : (opIs neg (.int i) .non h).W PD = PD (.bl neg) h := by simp [opIs]
@[simp] theorem W_isStr (neg : Bool) (i : Str) (h : OH) : (opIs neg (.str i) .non h).W PD = PD (.bl neg) h := by simp [opIs]
@[simp] theorem W_isLst (neg : Bool) (i : List D) (h : OH) : (opIs neg (.lst i) .non h).W PD = PD (.bl neg) h := by simp [opIs]
@[simp] theorem W_isTup (neg : Bool) (i : List D) (h : OH) : (opIs neg (.tup i) .non h).W PD = PD (.bl neg) h := by simp [opIs]
@[simp] theorem W_sChain (g g' : D → D → OH → Res D) (a b c : SE) (e : Env') (h : OH) : (sChain g g' a b c e h).W PD = (a e h).W fun x h1 => (b e h1).W fun y h2 => (g x y h2).W fun z h3 => isBl z fun t => if t then (c e h3).W fun u h4 => (g' y u h4).W PD else PD (.bl false) h3 := by
  unfold sChain
  rw [W_bind]; congr; funext x h1; rw [W_bind]; congr; funext y h2; rw [W_bind]; congr; funext z h3
  cases z with
  | bl t => cases t <;> simp
  | _ => rfl
@[simp] theorem W_sIsi (ts : List String) (f : SE) (e : Env') (h : OH) : (sIsi ts f e h).W PD = (f e h).W fun d h1 => lkS (tyAt h1 d) fun t => PD (.bl (ts.any fun T => isiB t T)) h1 := by
  unfold sIsi; rw [W_bind]; congr; funext d h1
  cases tyAt h1 d <;> rfl
@[simp] theorem ty_non (h : OH) : tyAt h .non = some "NoneType" := rfl
@[simp] theorem ty_bl (h : OH) (b : Bool) : tyAt h (.bl b) = some "bool" := rfl
@[simp] theorem ty_int (h : OH) (i : Int) : tyAt h (.int i) = some "int" := rfl
@[simp] theorem ty_str (h : OH) (x : Str) : tyAt h (.str x) = some "str" := rfl
@[simp] theorem ty_lst (h : OH) (xs : List D) : tyAt h (.lst xs) = some "list" := rfl
@[simp] theorem ty_scr (h : OH) (xs : List D) : tyAt h (.scr xs) = some "list" := rfl
@[simp] theorem ty_tup (h : OH) (xs : List D) : tyAt h (.tup xs) = some "tuple" := rfl
@[simp] theorem isi_ss : isiB "str" "str" = true := by decide
@[simp] theorem isi_ii : isiB "int" "int" = true := by decide
@[simp] theorem isi_bi : isiB "bool" "int" = true := by decide
@[simp] theorem isi_ib : isiB "int" "bool" = false := by decide
@[simp] theorem isi_ll : isiB "list" "list" = true := by decide
@[simp] theorem isi_lt : isiB "list" "tuple" = false := by decide
@[simp] theorem isi_tl : isiB "tuple" "list" = false := by decide
@[simp] theorem isi_tt : isiB "tuple" "tuple" = true := by decide
@[simp] theorem isi_si : isiB "str" "int" = false := by decide
@[simp] theorem isi_is : isiB "int" "str" = false := by decide
@[simp] theorem isi_sl : isiB "str" "list" = false := by decide
@[simp] theorem isi_st : isiB "str" "tuple" = false := by decide
@[simp] theorem isi_il : isiB "int" "list" = false := by decide
@[simp] theorem isi_it : isiB "int" "tuple" = false := by decide
@[simp] theorem W_inS (neg : Bool) (c : Nat) (z : Str) (h : OH) : (opInS neg (.str ⟨#[c]⟩) (.str z) h).W PD = PD (.bl (if neg then !decide (c ∈ z.cps.toList) else decide (c ∈ z.cps.toList))) h := by simp [opInS]
/-! all, any, sum, tuple, list -/
@[simp] theorem W_allL (xs : List D) (h : OH) : (opAll (.lst xs) h).W PD = lkS (bsOf xs) fun bs => PD (.bl (bs.all id)) h := by
  simp only [opAll, lsqAt, seqAt, Option.bind_some]; split <;> simp_all [lkS]
@[simp] theorem W_anyL (xs : List D) (h : OH) : (opAny (.lst xs) h).W PD = lkS (bsOf xs) fun bs => PD (.bl (bs.any id)) h := by
  simp only [opAny, lsqAt, seqAt, Option.bind_some]; split <;> simp_all [lkS]
@[simp] theorem W_sumL (xs : List D) (h : OH) : (opSum (.lst xs) h).W PD = lkS (intsOf xs) fun ns => PD (.int ns.sum) h := by
  simp only [opSum, lsqAt, seqAt, Option.bind_some]; split <;> simp_all [lkS]
@[simp] theorem bs_nil : bsOf [] = some [] := rfl
@[simp] theorem bs_cons (b : Bool) (l : List D) : bsOf (.bl b :: l) = (bsOf l).map (b :: ·) := rfl
theorem bs_mapF {ξ : Type} (f : ξ → Bool) : ∀ l : List ξ, bsOf (l.map fun x => .bl (f x)) = some (l.map f)
  | [] => rfl
  | x :: l => by simp [bs_mapF f l]
@[simp] theorem W_tupT (xs : List D) (h : OH) : (opTuple (.tup xs) h).W PD = PD (.tup xs) h := rfl
@[simp] theorem W_tupL (xs : List D) (h : OH) : (opTuple (.lst xs) h).W PD = PD (.tup xs) h := rfl
/-! comprehensions over what is written -/
@[simp] theorem W_lc_nil (g : TF) (tt : ST) (el : SE) (e : Env') (h : OH) (acc : List D) : (lcGo g tt el e [] h acc).W PL = PL acc h := rfl
@[simp] theorem W_lc_cons (g : TF) (tt : ST) (el : SE) (e : Env') (d : D) (ds : List D) (h : OH) (acc : List D) : (lcGo g tt el e (d :: ds) h acc).W PL = lkS (g d e h) fun e1 => (tt e1 h).W fun b h1 => if b then (el e1 h1).W fun y h2 => if acc.length < 1000000 then (lcGo g tt el e ds h2 (acc ++ [y])).W PL else False else (lcGo g tt el e ds h1 acc).W PL := by
  rw [lcGo]
  cases g d e h with
  | none => rfl
  | some e1 =>
    simp only [lkS_some, W_bind, W_noX]
    congr; funext b h1
    cases b <;> simp [big]
theorem W_lcMap1 {ξ : Type} {g : TF} {tt : ST} {el : SE} {e : Env'} (xs : List ξ) (emb : ξ → D) (f : ξ → D) (h : OH) (hb : xs.length ≤ big)
    (st : ∀ x ∈ xs, ∃ e1, g (emb x) e h = some e1 ∧ (tt e1 h).W fun b h1 => b = true ∧ h1 = h ∧ (el e1 h1).W fun y h2 => y = f x ∧ h2 = h) (fin : PL (xs.map f) h) : (lcGo g tt el e (xs.map emb) h []).W PL :=
  W_lcMap xs emb (fun _ => true) f h hb (fun x hx => by
    obtain ⟨e1, q, w⟩ := st x hx
    exact ⟨e1, q, w.mono fun b h1 z => ⟨z.1, z.2.1, fun _ => z.2.2⟩⟩) (by rw [List.filter_eq_self.mpr (fun _ _ => rfl)]; exact fin)
/-! objects -/
@[simp] theorem W_fld (f : String) (d : D) (h : OH) : (opFld f d h).W PD = lkS (insAt h d) fun q => lkS (q.2.lookup f) fun x => PD x h := by
  unfold opFld
  cases insAt h d with
  | none => rfl
  | some q => simp only [lkS_some]; cases q.2.lookup f <;> rfl
@[simp] theorem ins_obj (C : String) (fs : List (String × D)) (h : OH) : insAt h (.obj C fs) = some (C, fs) := rfl
@[simp] theorem ins_ref0 (C : String) (fs : List (String × D)) (h : OH) : insAt (.ins C fs :: h) (.ref 0) = some (C, fs) := rfl
def lkI (o : Option OO) (P : String → List (String × D) → Prop) : Prop := match o with
  | some (.ins C fs) => P C fs
  | _ => False
@[simp] theorem lkI_ins (C : String) (fs : List (String × D)) (P : String → List (String × D) → Prop) : lkI (some (.ins C fs)) P = P C fs := rfl
def isR (d : D) (P : Nat → Prop) : Prop := match d with
  | .ref i => P i
  | _ => False
@[simp] theorem isR_ref (i : Nat) (P : Nat → Prop) : isR (.ref i) P = P i := rfl
@[simp] theorem SW_fldS (K f : String) (o v : SE) (e : Env') (h : OH) : (sFldS K f o v e h).W N C B R = (v e h).W fun y h1 => (o e h1).W fun x h2 => isR x fun i => lkI h2[i]? fun K' fs => if K' = K ∧ fs.length < 900 then N e (h2.set i (.ins K (putS f y fs))) else False := by
  unfold sFldS
  simp only [W_toS]
  congr; funext y h1; congr; funext x h2
  cases x <;> first | rfl | skip
  rename_i i
  simp only [isR_ref]
  rcases h2[i]? with _ | o
  · rfl
  · cases o <;> first | rfl | simp
@[simp] theorem putS_nil (f : String) (d : D) : putS f d [] = [(f, d)] := rfl
@[simp] theorem putS_cons (f : String) (d : D) (q : String × D) (r : List (String × D)) : putS f d (q :: r) = if q.1 = f then (q.1, d) :: r else q :: putS f d r := by
  obtain ⟨g, x⟩ := q; rfl
theorem W_makeP {K : String} {g : FN} {a : SA} {e : Env'} {h : OH} (w : (a e h).W fun ys h1 => D.pureL ys = true ∧ (g (.ref 0 :: ys) [.ins K []]).W fun d h2 => d = .non ∧ ∃ fs t, h2 = .ins K fs :: t ∧ D.pureF fs = true ∧ PD (.obj K fs) h1) : (sMakeP K g a e h).W PD := by
  unfold sMakeP
  rw [W_bind]
  refine w.mono fun ys h1 z => ?_
  obtain ⟨hp, z⟩ := z
  obtain ⟨d, h2, q, rfl, fs, t, rfl, hf, p⟩ := z.out
  rw [if_pos hp, q]
  simp [hf, p]
/-- no field hides the method -/
def hasNo (fs : List (String × D)) (mt : String) : Prop := fs.lookup mt = none
@[simp] theorem W_sMeth (K mt : String) (g : FN) (o : SE) (a : SA) (e : Env') (h : OH) : (sMeth K mt g o a e h).W PD = (o e h).W fun x h1 => lkS (insAt h1 x) fun q => q.1 = K ∧ hasNo q.2 mt ∧ (a e h1).W fun ys h2 => (g (x :: ys) h2).W PD := by
  unfold sMeth
  rw [W_bind]; congr; funext x h1
  cases insAt h1 x with
  | none => rfl
  | some q =>
    simp only [lkS_some]
    by_cases hz : q.1 = K ∧ q.2.lookup mt = none
    · have h1 : q.1 = K := hz.1
      have h2 : hasNo q.2 mt := hz.2
      rw [if_pos hz]
      simp [h1, h2]
    · rw [if_neg hz]
      exact propext ⟨fun z => z.elim, fun z => absurd ⟨z.1, z.2.1⟩ hz⟩
end
/-! keys -/
theorem ddK_nodup : ∀ (ks acc : List Key), ks.Nodup → (∀ x ∈ ks, x ∉ acc) → ddK acc ks = acc ++ ks
  | [], acc, _, _ => by simp [ddK]
  | x :: r, acc, nd, hn => by
    have n1 : inK acc x = false := by
      simp only [inK, List.any_eq_false, decide_eq_true_eq]
      intro y hy e
      exact hn x List.mem_cons_self (e ▸ hy)
    have nd' := List.nodup_cons.mp nd
    rw [ddK, n1, ddK_nodup r _ nd'.2]
    · simp
    · intro y hy hm
      simp only [Bool.false_eq_true, if_false, List.mem_append, List.mem_singleton] at hm
      rcases hm with hm | hm
      · exact hn y (List.mem_cons_of_mem _ hy) hm
      · subst hm; exact nd'.1 hy
theorem keys_strs : ∀ l : List Str, keysOf (l.map D.str) = some (l.map Sum.inr)
  | [] => rfl
  | x :: l => by simp [keysOf, keys_strs l]
end HR
set_option Elab.async false
set_option linter.all false
set_option maxRecDepth 20000
set_option maxHeartbeats 1000000
/-! range with the step -1, enumerate, zip -/
namespace HR
open PySem L2 RZ
section
variable {X : Cx} {W : WX}
def rngS (lo c : Int) (n : Nat) : List D := (List.range n).map fun (k : Nat) => D.int (lo + k * c)
@[simp] theorem rngS_len (lo c : Int) (n : Nat) : (rngS lo c n).length = n := by simp [rngS]
theorem rngS_at {lo c : Int} {n k : Nat} {d : D} (h : (rngS lo c n)[k]? = some d) : k < n ∧ d = .int (lo + k * c) := by
  simp only [rngS, List.getElem?_map, Option.map_eq_some_iff] at h
  obtain ⟨j, e1, e2⟩ := h
  obtain ⟨h1, h2⟩ := List.getElem?_eq_some_iff.mp e1
  rw [List.getElem_range] at h2
  rw [List.length_range] at h1
  subst h2
  exact ⟨h1, e2.symm⟩
theorem walks_rngS {K : PySem.W.Frag} {F : Hp} {m : List Addr} (lo c : Int) (n : Nat) : Walks K F m (Itc lo c n) (rngS lo c n) := by
  intro P F2 m2 h H i x S
  rw [rngS_len]
  refine ⟨fun hi => ⟨hi, fun y H' yl => ?_⟩, fun hi => hi⟩
  obtain ⟨rfl, rfl⟩ := yl
  exact ⟨F2, .refl, S, .int (lo + i * c), by simp [rngS, hi], .int _⟩
/-- range(a, b, -1) -/
def sRngN (a : SA) : SA := fun e h => (a e h).bind fun ds h1 => match ds with
  | [.int i, .int j, .int k] => if rngOk i && (rngOk j && decide (k = -1)) then .ok (rngS i (-1) (i - j).toNat) h1 else .bad
  | _ => .bad
theorem denL3 {K : PySem.W.Frag} {F : Hp} {m : List Addr} {vs : List V} {x y z : D} (r : DenL K F m vs [x, y, z]) : ∃ u v w, vs = [u, v, w] ∧ Den K F m u x ∧ Den K F m v y ∧ Den K F m w z := by
  cases r with
  | cons a t => cases t with
    | cons b t => cases t with
      | cons c t => cases t; exact ⟨_, _, _, rfl, a, b, c⟩
theorem di_rngN {tg a b c : Expr} {f g k : SE} {p pos : Pos} (hg : Gl X "range") (hm : X.mg "range" = none) (ha : DE X W a f) (hb : DE X W b g) (hc : DE X W c k) (he : starEach [a, b, c] X.env = (false, eval a X.env) :: starEach [b, c] X.env := by rfl) (he2 : starEach [b, c] X.env = (false, eval b X.env) :: starEach [c] X.env := by rfl) (he3 : starEach [c] X.env = (false, eval c X.env) :: starEach [] X.env := by rfl)
    (hpl : (backTo pos (starEach [b, c] X.env)).any (·.1) = false := by rfl) : DI X W tg (.Call (.Name "range" p) [a, b, c] [] pos) (sRngN (sCons f (sCons g (sCons k sNil)))) :=
  PI.of (pi_range3 hg hm (da_cons ha (da_cons hb (da_cons hc da_nil he3) he2) he) he hpl) fun σ H R => by
    rintro ⟨P, F, m, e, h, S, E, fin⟩
    refine ⟨P, F, m, e, h, S, E, ?_⟩
    unfold sRngN at fin
    cases q : (sCons f (sCons g (sCons k sNil))) e h with
    | bad => rw [q] at fin; exact fin.elim
    | exc C p h1 => rw [q] at fin; exact fin
    | ok ds h1 =>
      rw [q] at fin
      simp only [Res.bind_ok] at fin
      intro vs F1 m1 H1 x S1 r
      match ds, fin, r with
      | [.int i, .int j, .int l], fin, r =>
        obtain ⟨u, v, w, rfl, r1, r2, r3⟩ := denL3 r
        cases den_int r1
        cases den_int r2
        cases den_int r3
        dsimp only at fin
        by_cases hk : (rngOk i && (rngOk j && decide (l = -1))) = true
        · rw [if_pos hk] at fin
          obtain ⟨k1, k2⟩ := and2 hk
          obtain ⟨k4, k3⟩ := and2 k2
          have k1 := rngOk_ok k1
          have k4 := rngOk_ok k4
          have k3 : l = -1 := of_decide_eq_true k3
          subst k3
          exact ⟨i, j, -1, _, rfl, RgC.neg k1.1 k1.2 k4.1 k4.2, FinG.okX fin x S1 (walks_rngS i (-1) _)⟩
        · rw [if_neg hk] at fin
          exact fin.elim
/-! enumerate(list), zip(a, b) -/
def enumD (xs : List D) : List D := xs.mapIdx fun i x => .tup [.int (i : Nat), x]
def sEnum (f : SA) : SA := fun e h => (f e h).bind fun ds h1 => match ds with
  | [d] => (match frzAt d with
    | some xs => .ok (enumD xs) h1
    | none => .bad)
  | _ => .bad
def zipD (xs ys : List D) : List D := List.zipWith (fun x y => D.tup [x, y]) xs ys
theorem zipD_at {xs ys : List D} {i : Nat} {x y : D} (hx : xs[i]? = some x) (hy : ys[i]? = some y) : (zipD xs ys)[i]? = some (.tup [x, y]) := by simp [zipD, List.getElem?_zipWith, hx, hy]
theorem walks_zip {K : PySem.W.Frag} {F : Hp} {m : List Addr} {a b : Addr} {vs ws : List V} {xs ys : List D} (q : SqL K F a vs) (r : DenL K F m vs xs) (q' : SqL K F b ws) (r' : DenL K F m ws ys) : Walks K F m (Itz K a b) (zipD xs ys) := by
  intro P F2 m2 h H i x S
  have q2 : SqL K H a vs := S.sub.seq (x.s.seq q)
  have q3 : SqL K H b ws := S.sub.seq (x.s.seq q')
  have l1 := r.length
  have l2 := r'.length
  have hl : (zipD xs ys).length = min xs.length ys.length := by simp [zipD]
  rw [hl]
  refine ⟨fun hi => ?_, fun hi => ⟨vs, ws, q2, q3, by omega⟩⟩
  have hv : i < vs.length := by omega
  have hw : i < ws.length := by omega
  refine ⟨⟨vs, ws, vs[i], ws[i], q2, q3, List.getElem?_eq_getElem hv, List.getElem?_eq_getElem hw⟩, fun y H' yl => ?_⟩
  obtain ⟨T, z, z2, rfl, hT, rfl, yl, yl2⟩ := yl
  obtain ⟨d, e1, r1⟩ := r.getV (yl vs q2)
  obtain ⟨d2, e2, r2⟩ := r'.getV (yl2 ws q3)
  have x2 := S.extF (o := .tup [z, z2]) hT
  exact ⟨_, x2, S.frozen hT, .tup [d, d2], zipD_at e1 e2, .tup (.inl (.inl upd_same)) (.cons (r1.mono (x.trans x2)) (.cons (r2.mono (x.trans x2)) .nil))⟩
theorem walks_zipT {K : PySem.W.Frag} {F : Hp} {m : List Addr} {a b : Addr} {vs ws : List V} {xs ys : List D} (q : SqT K F a vs) (r : DenL K F m vs xs) (q' : SqT K F b ws) (r' : DenL K F m ws ys) : Walks K F m (ItzT K a b) (zipD xs ys) := by
  intro P F2 m2 h H i x S
  have q2 : SqT K H a vs := Same.sqT S.sub (Same.sqT x.s q)
  have q3 : SqT K H b ws := Same.sqT S.sub (Same.sqT x.s q')
  have l1 := r.length
  have l2 := r'.length
  have hl : (zipD xs ys).length = min xs.length ys.length := by simp [zipD]
  rw [hl]
  refine ⟨fun hi => ?_, fun hi => ⟨vs, ws, q2, q3, by omega⟩⟩
  have hv : i < vs.length := by omega
  have hw : i < ws.length := by omega
  refine ⟨⟨vs, ws, vs[i], ws[i], q2, q3, List.getElem?_eq_getElem hv, List.getElem?_eq_getElem hw⟩, fun y H' yl => ?_⟩
  obtain ⟨T, z, z2, rfl, hT, rfl, yl, yl2⟩ := yl
  obtain ⟨d, e1, r1⟩ := r.getV (yl vs q2)
  obtain ⟨d2, e2, r2⟩ := r'.getV (yl2 ws q3)
  have x2 := S.extF (o := .tup [z, z2]) hT
  exact ⟨_, x2, S.frozen hT, .tup [d, d2], zipD_at e1 e2, .tup (.inl (.inl upd_same)) (.cons (r1.mono (x.trans x2)) (.cons (r2.mono (x.trans x2)) .nil))⟩
def zipAt : D → D → Option (List D)
  | .tup xs, .tup ys => some (zipD xs ys)
  | a, b => match frzAt a, frzAt b with
    | some xs, some ys => some (zipD xs ys)
    | _, _ => none
def sZip (f : SA) : SA := fun e h => (f e h).bind fun ds h1 => match ds with
  | [d, d2] => (match zipAt d d2 with
    | some xs => .ok xs h1
    | none => .bad)
  | _ => .bad
theorem di_zip {elts : List Expr} {kk : Nat} {tpos : Pos} {a b : Expr} {f g : SE} {p pos : Pos} (hg : Gl X "zip") (hm : X.mg "zip" = none) (ha : DE X W a f) (hb : DE X W b g) (he : starEach [a, b] X.env = (false, eval a X.env) :: starEach [b] X.env := by rfl) (he2 : starEach [b] X.env = (false, eval b X.env) :: starEach [] X.env := by rfl) (hpl : (backTo pos (starEach [b] X.env)).any (·.1) = false := by rfl) :
    DI X W (.Tuple elts kk tpos) (.Call (.Name "zip" p) [a, b] [] pos) (sZip (sCons f (sCons g sNil))) :=
  PI.of (pi_zipA hg hm (da_cons ha (da_cons hb da_nil he2) he) he hpl) fun σ H R => by
    rintro ⟨P, F, m, e, h, S, E, fin⟩
    refine ⟨P, F, m, e, h, S, E, ?_⟩
    unfold sZip at fin
    cases q : (sCons f (sCons g sNil)) e h with
    | bad => rw [q] at fin; exact fin.elim
    | exc C p h1 => rw [q] at fin; exact fin
    | ok ds h1 =>
      rw [q] at fin
      simp only [Res.bind_ok] at fin
      intro vs F1 m1 H1 x S1 r
      match ds, fin, r with
      | [d, d2], fin, r =>
        obtain ⟨v, v2, rfl, r1, r2⟩ := denL2 r
        dsimp only at fin
        have lists : ∀ xs ys, frzAt d = some xs → frzAt d2 = some ys → zipAt d d2 = some (zipD xs ys) → ∃ a b xs ys, [v, v2] = [.ref a, .ref b] ∧ ((SqL X.K H1 a xs ∧ SqL X.K H1 b ys ∧ R (Itz X.K a b) H1) ∨ (SqT X.K H1 a xs ∧ SqT X.K H1 b ys ∧ R (ItzT X.K a b) H1)) := fun xs ys q1 q2 q3 => by
          rw [q3] at fin
          obtain ⟨b, ws, rfl, hb, rl⟩ := den_sq r1 q1
          obtain ⟨b2, ws2, rfl, hb2, rl2⟩ := den_sq r2 q2
          exact ⟨b, b2, ws, ws2, rfl, .inl ⟨S1.sub.seq hb, S1.sub.seq hb2, FinG.okX fin x S1 (walks_zip hb rl hb2 rl2)⟩⟩
        cases q4 : zipAt d d2 with
        | none => rw [q4] at fin; exact fin.elim
        | some zs =>
          unfold zipAt at q4
          split at q4
          · cases r1 with
            | @tup a1 _ _ e1 t1 => cases r2 with
              | @tup a2 _ _ e2 t2 => exact ⟨a1, a2, _, _, rfl, .inr ⟨Same.sqT S1.sub e1, Same.sqT S1.sub e2, FinG.okX fin x S1 (walks_zipT e1 t1 e2 t2)⟩⟩
          · rename_i hno
            split at q4
            · rename_i xs ys q1 q2
              refine lists xs ys q1 q2 ?_
              unfold zipAt
              split
              · cases q1
              · rw [q1, q2]
            · cases q4
end
section
variable {PL : List D → OH → Prop}
theorem W_rngN (a : SA) (e : Env') (h : OH) : (sRngN a e h).W PL = (a e h).W fun ds h1 => match ds with
  | [.int i, .int j, .int k] => if rngOk i && (rngOk j && decide (k = -1)) then PL (rngS i (-1) (i - j).toNat) h1 else False
  | _ => False := by
  unfold sRngN; rw [W_bind]; congr; funext ds h1
  split
  · split <;> rfl
  · rfl
@[simp] theorem W_rngN3 (f g k : SE) (e : Env') (h : OH) : (sRngN (sCons f (sCons g (sCons k sNil))) e h).W PL = (f e h).W fun a h1 => (g e h1).W fun b h2 => (k e h2).W fun c h3 => isI a fun i => isI b fun j => isI c fun l => if rngOk i && (rngOk j && decide (l = -1)) then PL (rngS i (-1) (i - j).toNat) h3 else False := by
  rw [W_rngN]; simp only [W_sCons, W_sNil]
  congr; funext a h1; congr; funext b h2; congr; funext c h3
  cases a <;> cases b <;> cases c <;> rfl
@[simp] theorem W_enum (f : SE) (e : Env') (h : OH) : (sEnum (sCons f sNil) e h).W PL = (f e h).W fun d h1 => lkS (frzAt d) fun xs => PL (enumD xs) h1 := by
  unfold sEnum; rw [W_bind]; simp only [W_sCons, W_sNil]; congr; funext d h1
  cases frzAt d <;> rfl
@[simp] theorem W_zip (f g : SE) (e : Env') (h : OH) : (sZip (sCons f (sCons g sNil)) e h).W PL = (f e h).W fun d h1 => (g e h1).W fun d2 h2 => lkS (zipAt d d2) fun xs => PL xs h2 := by
  unfold sZip; rw [W_bind]; simp only [W_sCons, W_sNil]; congr; funext d h1; congr; funext d2 h2
  cases zipAt d d2 <;> rfl
@[simp] theorem frz_lst (xs : List D) : frzAt (.lst xs) = some xs := rfl
@[simp] theorem frz_scr (xs : List D) : frzAt (.scr xs) = some xs := rfl
@[simp] theorem zipAt_ll (xs ys : List D) : zipAt (.lst xs) (.lst ys) = some (zipD xs ys) := rfl
@[simp] theorem zipAt_tt (xs ys : List D) : zipAt (.tup xs) (.tup ys) = some (zipD xs ys) := rfl
end
/-! ### while -/
def fuel : Nat := 1000000
def sWhile (c : ST) (b : SS) : SS := fun e h => whileF c b fuel e h
section
variable {X : Cx} {W : WX}
theorem ds_whileA {c : Expr} {body : List Stmt} {fc : ST} {fb : SS} {pos : Pos} (hp : PassesOwn (model X.prog X.w) X.A X.env X.xe) (hc : DT X W c fc) (hb : DSs X W body fb) : DS X W (.While c body [] pos) (sWhile fc fb) := ds_while hp (fun _ _ => fuel) hc hb
end
section
variable {N C B : Env' → OH → Prop} {R : D → OH → Prop}
theorem W_whileF {c : ST} {b : SS} {I : Env' → OH → Prop} (μ : Env' → OH → Nat) (st : ∀ e h, I e h → (c e h).W fun t h1 => if t then (b e h1).W (fun e2 h2 => I e2 h2 ∧ μ e2 h2 < μ e h) (fun e2 h2 => I e2 h2 ∧ μ e2 h2 < μ e h) N R else N e h1) :
    ∀ (n : Nat) (e : Env') (h : OH), I e h → μ e h < n → (whileF c b n e h).W N C B R
  | 0, _, _, _, hf => absurd hf (Nat.not_lt_zero _)
  | n + 1, e, h, i0, hf => by
    have w := st e h i0
    have rest := fun e2 h2 (z : I e2 h2 ∧ μ e2 h2 < μ e h) => W_whileF μ st n e2 h2 z.1 (by have := z.2; omega)
    obtain ⟨t, h1, q, w⟩ := w.out
    unfold whileF
    rw [q]
    simp only [Res.toS_ok]
    cases t with
    | false => exact w
    | true =>
      rw [if_pos rfl] at w
      rw [if_pos rfl]
      cases q2 : b e h1 with
      | nx e2 h2 => rw [q2] at w; exact rest e2 h2 w
      | ct e2 h2 => rw [q2] at w; exact rest e2 h2 w
      | bk e2 h2 => rw [q2] at w; exact w
      | rt d h2 => rw [q2] at w; exact w
      | exc _ _ _ _ => rw [q2] at w; exact w.elim
      | bad => rw [q2] at w; exact w.elim
theorem W_while {c : ST} {b : SS} {I : Env' → OH → Prop} (μ : Env' → OH → Nat) {e : Env'} {h : OH} (h0 : I e h) (hf : μ e h < 1000000) (st : ∀ e h, I e h → (c e h).W fun t h1 => if t then (b e h1).W (fun e2 h2 => I e2 h2 ∧ μ e2 h2 < μ e h) (fun e2 h2 => I e2 h2 ∧ μ e2 h2 < μ e h) N R else N e h1) : (sWhile c b e h).W N C B R :=
  W_whileF μ st fuel e h h0 hf
end
end HR
set_option Elab.async false
set_option linter.all false
set_option maxRecDepth 100000
set_option maxHeartbeats 2000000
/-! repr; a law's end where the def is called with no guards -/
set_option Elab.async false
set_option linter.all false
set_option maxRecDepth 20000
set_option maxHeartbeats 1000000
/-! recursion: no call at all -/
set_option Elab.async false
set_option linter.all false
set_option maxRecDepth 20000
set_option maxHeartbeats 1000000
/-! lending: own lists are read as frozen trees for a call that changes nothing -/
set_option Elab.async false
set_option linter.all false
set_option maxRecDepth 100000
set_option maxHeartbeats 2000000
/-! exceptions: raise, a try whose except clause keeps what it caught, isinstance of what was kept -/
namespace HR
open PySem L2 PySem.Spec PyProof.Rows
/-! ### a caught exception becomes an object of ours -/
/-! ### as plain functions -/
/-- raise C('..') -/
def sRaise (C : String) : SS := fun e h => .exc C none e h
section
variable {X : Cx} {W : WX}
theorem ds_raise {C : String} {m : Str} {k : Nat} {p p2 p3 pos : Pos} (tk : Takes X W) (hcm : X.calm = true) (q : PySem.W.excIn X.K (He.ga X.K (Str.ofString C)) He.veBase "ValueError.__new__" = true) (kC : PySem.W.keepIn X.K (.ref (He.ga X.K (Str.ofString C))) = true)
    (sC : PySem.W.subIn X.K (.ref (He.ga X.K (Str.ofString C))) (.type "BaseException") = some true) (tC : PySem.W.typeIn X.K (.ref (He.ga X.K (Str.ofString C))) = some (.type "type")) (gC : X.mg (Str.ofString C) = some (.ref (He.ga X.K (Str.ofString C)))) (hg : Gl X (Str.ofString C))
    (hdb : (Str.ofString C == ("__debug__" : Str)) = false := by decide) : DS X W (.Raise (some (.Call (.Name (Str.ofString C) p) [.Constant (.str m) k p2] [] p3)) none pos) (sRaise C) :=
  PS.of (ps_raise hcm tk (pmk_own PySem.F.excBase_ValueError q gC kC (raises_own sC tC) hg hdb)) fun Dn σ H => by
    rintro ⟨P, F, m, e, h, S, E, fin⟩
    exact fin none σ F m H .refl S rfl E
end
/-! ### isinstance of a kept exception -/
/-- what the class at D must say -/
def excCB (K : PySem.W.Frag) (D : Addr) : Bool :=
  decide (PySem.W.findIn K (.ref D) "__getattribute__" = some (some (.builtin "BaseException.__getattribute__"))) && (decide (PySem.W.findIn K (.ref D) "__getattr__" = some none) && (decide (PySem.W.subIn K (.ref D) (.type "BaseException") = some true) && (PySem.W.hasDictIn K D &&
  (decide (PySem.W.findIn K (.ref D) "__class__" = some (some (.builtin "object.__class__"))) && (decide (PySem.W.specialIn K (.builtin "object.__class__") "__get__" = some (some (.builtin "getset_descriptor.__get__"))) && (decide (PySem.W.takesIn K (.builtin "object.__class__") = some true) &&
  decide (PySem.W.mroIn K D (.type "object") = some true)))))))
/-- is the class C below the class c, as names -/
def excB (C c : String) : Bool := C == c || (c == "HushError" || c == "ValueError")
/-! ### what is asked of a class with its own __init__ -/
def oexK (K : PySem.W.Frag) (C : Addr) : Bool := match K.lookup C with
  | some ⟨.type "type", _, .cls cd, sl⟩ => (match cd.mro, sl.toList with
    | .ref C2 :: bm, [_, _, _, _, some (.builtin n), _] => decide (C2 = C) && (decide (n = "ValueError.__new__") && (!cd.hasDel && (cd.hasDict && PySem.HandSPX.refsVE bm)))
    | _, _ => false)
  | _ => false
/-- the facts of one class C with the field f -/
def oexF (K : PySem.W.Frag) (C f : String) : Bool :=
  oexK K (He.ga K (Str.ofString C)) && (decide (PySem.W.findIn K (.ref (He.ga K (Str.ofString C))) "__setattr__" = some (some (.builtin "object.__setattr__"))) && (decide (PySem.W.subIn K (.ref (He.ga K (Str.ofString C))) (.type "BaseException") = some true) &&
  (decide (PySem.W.typeIn K (.ref (He.ga K (Str.ofString C))) = some (.type "type")) && (PySem.W.keepIn K (.ref (He.ga K (Str.ofString C))) && (decide (PySem.W.findIn K (.ref (He.ga K (Str.ofString C))) "__init__" = some (some (.ref (He.ma K (He.ga K (Str.ofString C)) "__init__")))) &&
  (decide (PySem.W.typeIn K (.ref (He.ma K (He.ga K (Str.ofString C)) "__init__")) = some (.type "function")) && (decide (PySem.W.findIn K (.ref (He.ga K (Str.ofString C))) (Str.ofString f) = some none) &&
  (PySem.W.readsIn K (He.ga K (Str.ofString "HushError")) (.type "type") && (decide (PySem.W.specialIn K (.ref (He.ga K (Str.ofString "HushError"))) "__getattribute__" = some (some (.builtin "type.__getattribute__"))) &&
  (match PySem.W.findCls K (.ref (He.ga K (Str.ofString "HushError"))) (.type "type") "__init__" with
    | some (.val v) => decide (v = .builtin "ValueError.__init__")
    | _ => false))))))))))
/-- the field of a class with its own __init__ -/
def fieldOf (C : String) : Option String := if C = "TooMany" then some "count" else if C = "Inconsistent" then some "tick" else if C = "InvalidText" then some "line" else none
/-- facts of the classes xs (caught) and ys (asked for) -/
def excFacts (K : PySem.W.Frag) (xs ys : List String) : Bool :=
  xs.all fun C => excCB K (He.ga K (Str.ofString C)) && (decide (PySem.W.exmOne K (.ref (He.ga K (Str.ofString C))) (.ref (He.ga K (Str.ofString "HushError"))) = some true) &&
    (decide (PySem.W.kitOne K (.ref (He.ga K (Str.ofString C))) (.type "ValueError") = some true) && ((ys.all fun c => decide (PySem.W.kitOne K (.ref (He.ga K (Str.ofString C))) (.ref (He.ga K (Str.ofString c))) = some (excB C c))) && (match fieldOf C with
    | some f => oexF K C f
    | none => true))))
/-! ### a def that lets nothing out -/
def noXF (g : FN) : FN := fun ds h => (g ds h).noX
@[simp] theorem noX_ok {α : Type} (a : α) (h : OH) : (Res.ok a h).noX = .ok a h := rfl
@[simp] theorem noXF_at (g : FN) (ds : List D) (h : OH) : noXF g ds h = (g ds h).noX := rfl
theorem noX_sp {K : PySem.W.Frag} {np : Nat} {g : FN} {vs : List V} {H : Hp} {Q : VK} {E : XK} (q : spN K np (noXF g) vs H Q E) : spN K np g vs H Q E0 := by
  obtain ⟨hl, P, F, m, ds, h, S, r, fin⟩ := q
  refine ⟨hl, P, F, m, ds, h, S, r, ?_⟩
  unfold noXF at fin
  cases e : g ds h with
  | ok d h1 => rw [e] at fin; exact fin
  | exc C p h1 => rw [e] at fin; exact fin.elim
  | bad => rw [e] at fin; exact fin.elim
section
variable {P : Program} {w : World} {K : PySem.W.Frag} {mg : Str → Option Value} {base : Heap} {k : Nat} {f : Addr} {fd : FuncData} {ps : List Str} {g : FN} {dvs : List V}
theorem FnOk.shut (Fk : FnOk P w K mg base (L2.CX P w) k f fd ps (spN K ps.length g)) : FnOk P w K mg base CX0 k f fd ps (spN K ps.length (noXF g)) where
  len := fun vs H Q E q => q.1
  run := fun A out s H args us vs Q E hr e0 hb r q => codeAny_mono (Fk.run A out s H args us vs Q E0 hr e0 hb r (noX_sp q)) fun res s1 hq => by
    cases res with
    | error e =>
      obtain ⟨_, _, _, _, _, _, _, _, _, _, _, _, z⟩ := hq
      exact z.elim
    | ok fl => cases fl <;> exact hq
theorem Def.shut (d : Def P w K mg base (L2.CX P w) k f ps dvs g) : Def P w K mg base CX0 k f ps dvs (noXF g) := let ⟨fd, dus, a, b, c⟩ := d.ex; ⟨⟨fd, dus, FnOk.shut a, b, c⟩, d.kp⟩
end
/-! ### {} -/
/-! ### a + b, to be an own list -/
end HR
set_option Elab.async false
set_option linter.all false
set_option maxRecDepth 100000
set_option maxHeartbeats 2000000
/-! repr of values in which an empty dict may stand; the head's facts for laws with exceptions -/
namespace HR
open PySem L2 RZ PySem.Spec PyProof.Rows
/-! ### facts of the head -/
def modOk (K : PySem.W.Frag) : Bool := match K.lookup sysModules with
  | some o => decide (o.cls = .type "dict")
  | none => false
def obsX (fa : List He.Fa) (fn : List He.DefD) (xs ys : List String) (K : PySem.W.Frag) : He.AlD × Bool := (He.obsD fa fn K, excFacts K xs ys && modOk K)
def SaysX (fa : List He.Fa) (fn : List He.DefD) (xs ys : List String) (K : PySem.W.Frag) : Prop := obsX fa fn xs ys K = (He.valD fn, true)
section
variable {fa : List He.Fa} {fn : List He.DefD} {xs ys : List String} {K : PySem.W.Frag}
theorem SaysX.d (c : SaysX fa fn xs ys K) : He.SaysD fa fn K := congrArg (fun z : He.AlD × Bool => z.1) c
theorem SaysX.fact (c : SaysX fa fn xs ys K) (i : Nat) {f : He.Fa} (h : fa[i]? = some f := by rfl) : f.ok K = true := c.d.fact i h
theorem SaysX.def_ (c : SaysX fa fn xs ys K) (i : Nat) {d : He.DefD} (h : fn[i]? = some d := by rfl) : ∃ fd, FunD K d.name d.qual d.params d.body d.scope (d.dvs K) (d.kws K) (He.fAd K d.at_) fd := c.d.def_ i h
end
/-! ### what is read of a value, as data -/
/-! ### repr -/
/-! ### texts of any signs compared -/
def opEqT (neg : Bool) : D → D → OH → Res D := fun a b h => match a, b with
  | .str x, .str y => .ok (.bl (if neg then !(x == y) else x == y)) h
  | _, _ => opEq neg a b h
section
variable {X : Cx} {W : WX}
variable {PD : D → OH → Prop}
@[simp] theorem W_eqT (neg : Bool) (x y : Str) (h : OH) : (opEqT neg (.str x) (.str y) h).W PD = PD (.bl (if neg then !(x == y) else x == y)) h := rfl
end
end HR
set_option Elab.async false
set_option linter.all false
set_option maxRecDepth 20000
set_option maxHeartbeats 1000000
/-! what the head of a text with live halls tells; early, since its run wants room -/
namespace HR
open PySem PySem.Spec PyProof.Rows L2
/-! what the module's names reach, a mark for each address that was seen: cheaper than He.asD -/
/-- an empty tuple that stands in the written part -/
def tup0 (K : PySem.W.Frag) (a : Addr) : Bool := match K.lookup a with
  | some ⟨.type t, _, .seq its _, _⟩ => decide (t = "tuple") && decide (its.size = 0)
  | _ => false
def tysB : List String := ["NoneType", "bool", "int", "str", "list", "tuple", "dict"]
def insB (K : PySem.W.Frag) (C : Addr) : Bool := decide (PySem.W.findIn K (.ref C) "__class__" = some (some (.builtin "object.__class__"))) && decide (PySem.W.specialIn K (.builtin "object.__class__") "__get__" = some (some (.builtin "getset_descriptor.__get__"))) &&
  (decide (PySem.W.takesIn K (.builtin "object.__class__") = some true) && (decide (PySem.W.mroIn K C (.type "object") = some true) && (decide (PySem.W.findIn K (.ref C) "__ne__" = some (some (.builtin "object.__ne__"))) && tysB.all fun t => decide (PySem.W.kitOne K (.type t) (.ref C) = some false))))
/-! ### the head's facts with a default that is the empty tuple -/
def SaysL (fa : List He.Fa) (fn : List He.DefD) (xs ys : List String) (p : PySem.W.Frag → Addr) (K : PySem.W.Frag) : Prop := SaysX fa fn xs ys K ∧ tup0 K (p K) = true
section
variable {fa : List He.Fa} {fn : List He.DefD} {xs ys : List String} {p : PySem.W.Frag → Addr} {K : PySem.W.Frag}
theorem SaysL.fact (c : SaysL fa fn xs ys p K) (i : Nat) {f : He.Fa} (h : fa[i]? = some f := by rfl) : f.ok K = true := c.1.fact i h
theorem SaysL.def_ (c : SaysL fa fn xs ys p K) (i : Nat) {d : He.DefD} (h : fn[i]? = some d := by rfl) : ∃ fd, FunD K d.name d.qual d.params d.body d.scope (d.dvs K) (d.kws K) (He.fAd K d.at_) fd := c.1.def_ i h
end
/-! the head's facts with those of the class LiveHall -/
def clsL (K : PySem.W.Frag) : Addr := He.ga K (Str.ofString "LiveHall")
def SaysM (fa : List He.Fa) (fn : List He.DefD) (xs ys : List String) (p : PySem.W.Frag → Addr) (K : PySem.W.Frag) : Prop := SaysL fa fn xs ys p K ∧ insB K (clsL K) = true
section
variable {fa : List He.Fa} {fn : List He.DefD} {xs ys : List String} {p : PySem.W.Frag → Addr} {K : PySem.W.Frag}
theorem SaysM.fact (c : SaysM fa fn xs ys p K) (i : Nat) {f : He.Fa} (h : fa[i]? = some f := by rfl) : f.ok K = true := c.1.fact i h
theorem SaysM.def_ (c : SaysM fa fn xs ys p K) (i : Nat) {d : He.DefD} (h : fn[i]? = some d := by rfl) : ∃ fd, FunD K d.name d.qual d.params d.body d.scope (d.dvs K) (d.kws K) (He.fAd K d.at_) fd := c.1.def_ i h
end
end HR
set_option Elab.async false
set_option linter.all false
set_option maxRecDepth 100000
set_option maxHeartbeats 2000000
/-! texts: join, split -/
namespace HR
open PySem L2
def strsOf : List D → Option (List Str)
  | [] => some []
  | .str x :: r => (strsOf r).map (x :: ·)
  | _ => none
@[simp] theorem strsOf_map : ∀ ys : List Str, strsOf (ys.map D.str) = some ys
  | [] => rfl
  | y :: ys => by simp [strsOf, strsOf_map ys]
end HR
set_option Elab.async false
set_option linter.all false
set_option maxRecDepth 100000
set_option maxHeartbeats 2000000
/-! instances that change: C(..) as an own object, o.f += e -/
set_option Elab.async false
set_option linter.all false
set_option maxRecDepth 100000
set_option maxHeartbeats 2000000
/-! exceptions as values: C('..'), C(e) where C keeps e in one field, raise C(e), x.f -/
set_option Elab.async false
set_option linter.all false
set_option maxRecDepth 20000
set_option maxHeartbeats 1000000
/-! walks over an own list, which keeps its length meanwhile -/
namespace HR
open PySem L2 RZ
section
variable {X : Cx} {W : WX}
/-- the place of an own list -/
def sRefL (f : SE) : Env' → OH → Res Nat := fun e h => (f e h).bind fun d h1 => match d with
  | .ref i => (match h1[i]? with
    | some (.lst _) => .ok i h1
    | _ => .bad)
  | _ => .bad
/-- j rounds are left of n -/
def forO (g : TF) (b : SS) (i n : Nat) : Nat → SS
  | 0 => fun e h => match h[i]? with
    | some (.lst ys) => if ys.length = n then .nx e h else .bad
    | _ => .bad
  | j + 1 => fun e h => match h[i]? with
    | some (.lst ys) => if ys.length = n then (match ys[n - (j + 1)]? with
      | some d => (match g d e h with
        | none => .bad
        | some e1 => (match b e1 h with
          | .nx e2 h2 => forO g b i n j e2 h2
          | .ct e2 h2 => forO g b i n j e2 h2
          | .bk e2 h2 => .nx e2 h2
          | r => r))
      | none => .bad) else .bad
    | _ => .bad
def sForO (f : SE) (g : TF) (b : SS) : SS := fun e h => (sRefL f e h).toS e fun i h1 => match h1[i]? with
  | some (.lst xs) => forO g b i xs.length xs.length e h1
  | _ => .bad
/-! comprehensions -/
end
section
variable {α β : Type} {N C B : Env' → OH → Prop} {R : D → OH → Prop} {PD : D → OH → Prop} {PL : List D → OH → Prop} {PN : Nat → OH → Prop}
def lkO (o : Option OO) (P : List D → Prop) : Prop := match o with
  | some (.lst xs) => P xs
  | _ => False
@[simp] theorem lkO_lst (xs : List D) (P : List D → Prop) : lkO (some (.lst xs)) P = P xs := rfl
@[simp] theorem W_refL (f : SE) (e : Env') (h : OH) : (sRefL f e h).W PN = (f e h).W fun d h1 => isR d fun i => lkO h1[i]? fun _ => PN i h1 := by
  unfold sRefL; rw [W_bind]; congr; funext d h1
  cases d <;> first | rfl | skip
  rename_i i
  simp only [isR_ref]
  rcases h1[i]? with _ | o
  · rfl
  · cases o <;> rfl
@[simp] theorem SW_forO (f : SE) (g : TF) (b : SS) (e : Env') (h : OH) : (sForO f g b e h).W N C B R = (f e h).W fun d h1 => isR d fun i => lkO h1[i]? fun xs => (forO g b i xs.length xs.length e h1).W N C B R := by
  unfold sForO
  rw [W_toS, W_refL]
  congr; funext d h1; congr; funext i
  rcases h1[i]? with _ | o
  · rfl
  · cases o <;> rfl
end
end HR
set_option Elab.async false
set_option linter.all false
set_option maxRecDepth 20000
set_option maxHeartbeats 1000000
/-! a call without arguments -/
set_option Elab.async false
set_option linter.all false
set_option maxRecDepth 20000
set_option maxHeartbeats 1000000
/-! a block, statement by statement: what follows is out of sight meanwhile -/
namespace HR
open PySem L2 RZ
section
variable {N C B : Env' → OH → Prop} {R : D → OH → Prop}
theorem SW_seqK {f g : SS} {e : Env'} {h : OH} (q : ∀ K : Env' → OH → Prop, (∀ e h, (g e h).W N C B R → K e h) → (f e h).W K C B R) : (sSeq f g e h).W N C B R := by
  rw [SW_seq]
  exact q _ fun _ _ z => z
end
end HR
set_option Elab.async false
set_option linter.all false
set_option maxRecDepth 20000
set_option maxHeartbeats 1000000
/-! range(a, b) of numbers of any size -/
namespace HR
open PySem L2 RZ PySem.Spec PyProof.Rows
section
variable {X : Cx} {tg : Expr} {W : WX}
def sRng2W (a b : SE) : SA := fun e h => (a e h).bind fun d h1 => (b e h1).bind fun d2 h2 => match d, d2 with
  | .int i, .int j => .ok (rngD i (j - i).toNat) h2
  | _, _ => .bad
end
section
variable {PL : List D → OH → Prop}
@[simp] theorem W_rng2W (f g : SE) (e : Env') (h : OH) : (sRng2W f g e h).W PL = (f e h).W fun a h1 => (g e h1).W fun b h2 => isI a fun i => isI b fun j => PL (rngD i (j - i).toNat) h2 := by
  unfold sRng2W; rw [W_bind]; congr; funext a h1; rw [W_bind]; congr; funext b h2
  cases a <;> cases b <;> rfl
end
end HR
set_option Elab.async false
set_option linter.all false
set_option maxRecDepth 20000
set_option maxHeartbeats 1000000
/-! x is True, x is not False, of bools -/
namespace HR
open PySem L2 RZ PySem.Spec PyProof.Rows
section
variable {X : Cx} {W : WX}
def opIsB (neg : Bool) : D → D → OH → Res D
  | .bl a, .bl b, h => .ok (.bl (if neg then !decide (a = b) else decide (a = b))) h
  | _, _, _ => .bad
end
@[simp] theorem W_isB (neg a b : Bool) (h : OH) {PD : D → OH → Prop} : (opIsB neg (.bl a) (.bl b) h).W PD = PD (.bl (if neg then !decide (a = b) else decide (a = b))) h := rfl
end HR
set_option Elab.async false
set_option linter.all false
set_option maxRecDepth 20000
set_option maxHeartbeats 1000000
/-! repr of any value -/
set_option Elab.async false
set_option linter.all false
set_option maxRecDepth 20000
set_option maxHeartbeats 1000000
/-! clear and insert of own lists -/
namespace HR
open PySem L2 RZ PySem.Spec PyProof.Rows
section
variable {X : Cx} {W : WX}
def gClear (i : Nat) (xs ys : List D) (h : OH) : Res D := match ys with
  | [] => .ok .non (h.set i (.lst []))
  | _ => .bad
def gInsert (i : Nat) (xs ys : List D) (h : OH) : Res D := match ys with
  | [.int k, y] => if xs.length < big ∧ 0 ≤ k ∧ k < 2 ^ 63 then .ok .non (h.set i (.lst (xs.take k.toNat ++ [y] ++ xs.drop k.toNat))) else .bad
  | _ => .bad
end
section
variable {PD : D → OH → Prop}
@[simp] theorem W_clear (i : Nat) (xs : List D) (h : OH) : (gClear i xs [] h).W PD = PD .non (h.set i (.lst [])) := rfl
@[simp] theorem W_insert (i : Nat) (xs : List D) (k : Int) (y : D) (h : OH) : (gInsert i xs [.int k, y] h).W PD = if xs.length < 1000000 ∧ 0 ≤ k ∧ k < 9223372036854775808 then PD .non (h.set i (.lst (xs.take k.toNat ++ [y] ++ xs.drop k.toNat))) else False := by
  simp [gInsert, big]
end
end HR
set_option Elab.async false
set_option linter.all false
set_option maxRecDepth 100000
set_option maxHeartbeats 4000000
/-! sorted(set(xs)), xs a list of ints, fewer than 64 -/
namespace HR
open PySem L2
section
variable {prog : Program} {w : World} {A : Around} {E : Value → Shared → Prop} {s : Shared}
theorem set_of_ints {l : Addr} {items : Array Value} {ns : List Int} {Q : Value → Shared → Prop} (hh : A.handled = none) (hl : s.heap.IsList l items) (hlen : items.size = ns.length) (hi : ∀ (i : Nat) (v : Value), items[i]? = some v → ∃ k t, ns[i]? = some k ∧ v = .int k t) (hb : ns.length + 1 < scanBound)
    (h : ∀ (h' : Heap) (tk c : Nat), SetR w h' s.heap.objs.size (fun j => decide (j ∈ ns)) c → c ≤ ns.length → (∀ b o, b < s.heap.objs.size → s.heap.get? b = some o → h'.get? b = some o) → Q (.ref s.heap.objs.size) { s with heap := h', toks := tk }) :
    wpAny (model prog w) A (call (.type "set") [.ref l]) Q E s := by
  let fresh : Obj := { cls := .type "set", dict := none, data := .set #[] 0 (.fresh 0 0 (!w.params.followText "set-order")) }
  obtain ⟨c, tl, hmro⟩ := PySem.F.called_set.mro
  have f1 := PySem.F.called_set.made; have f2 := PySem.F.called_set.sub
  refine wpAny_call (codeAny_of_tree ?_)
  show wpAny _ _ (callAny (.type "set") ⟨[.ref l], []⟩) _ _ _
  refine wpAny_pure ⟨Code.quiet_builtin _ (by decide +kernel), codeAny_builtin (PySem.F.entry_type_call) ?_⟩
  rw [Around.under_plain (weight_type_call_type "set" [.ref l] []) rfl]
  have f3 := PySem.F.called_set.notType; have f4 := PySem.F.called_set.canCreate; have f5 := PySem.F.typeCall_set_1 (.ref l)
  repeat (any_goals (first | assumption | wp_step))
  refine codeAny_mono (code_set_led1 (.ref l) (E := E) (Q₁ := fun ob t => ob = .ref s.heap.objs.size ∧ t = { s with heap := s.heap.push fresh }) ⟨rfl, rfl⟩) fun r t hr => ?_
  cases r with
  | error e => exact hr
  | ok fl =>
    cases fl with
    | ret ob =>
      obtain ⟨rfl, rfl⟩ := hr
      have gS : (s.heap.push fresh).get? s.heap.objs.size = some fresh := Heap.get?_push_size _ rfl
      have tS : Shared.TypeIs { s with heap := s.heap.push fresh } (.ref s.heap.objs.size) "set" := ⟨_, gS, rfl⟩
      have f6 := PySem.F.called_set.init.lookup; have f7 := PySem.F.called_set.init.bind (.ref s.heap.objs.size)
      repeat (any_goals (first | assumption | wp_step))
      let Done : Value → Shared → Prop := fun r t => r = .none ∧ ∃ h' tk c, t = { s with heap := h', toks := tk } ∧ SetR w h' s.heap.objs.size (fun j => decide (j ∈ ns)) c ∧ c ≤ ns.length ∧ ∀ b o, b < s.heap.objs.size → s.heap.get? b = some o → h'.get? b = some o
      refine codeAny_mono (codeAny_call_builtin (R := wants Done E) PySem.F.called_set.init.plain PySem.F.entry_set_init (check_set_init_1 tS ?_)) fun r₂ t₂ hr₂ => ?_
      · obtain ⟨ol, hol, hcl, nl, hdl⟩ := hl
        obtain ⟨c0, d0, dt0, sl0⟩ := ol
        simp only at hcl hdl; subst hcl hdl
        have hol' : (s.heap.push fresh).get? l = some { cls := .type "list", dict := d0, data := .seq items nl, slots := sl0 } := Heap.get?_push_of_some _ hol
        have g1 := PySem.F.sub_list_set; have g2 := PySem.F.sub_list_frozenset; have g3 : (Value.type "list" == Value.type "dict") = false := by decide
        have hl1 : (s.heap.push fresh).IsList l items := ⟨_, hol', rfl, nl, rfl⟩
        unfold Builtin.«set.__init__»; unfold noKeywords Builtin.Frozenset.updateFrom
        generalize hPI : pyIter = PI
        wp_walk
        subst hPI
        refine wpAny_pyIter_list hl1 (?_)
        refine wpAny_bind (wpAny_runValue (?_))
        have lS : l < s.heap.objs.size := Heap.lt_size hol
        have hh3 : A.in1.in1.in1.handled = none := by rw [show A.in1.in1.in1.handled = A.handled from by simp]; exact hh
        have sz : (s.heap.push fresh).objs.size = s.heap.objs.size + 1 := Heap.size_push _ _
        have nI : l ≠ (s.heap.push fresh).objs.size := by rw [sz]; exact Nat.ne_of_lt (Nat.lt_succ_of_lt lS)
        have nS : s.heap.objs.size ∉ [(s.heap.push fresh).objs.size, l] := by
          rw [sz]
          intro z
          simp only [List.mem_cons, List.not_mem_nil, or_false] at z
          rcases z with z | z
          · exact absurd z (Nat.ne_of_lt (Nat.lt_succ_self _))
          · exact absurd z (Nat.ne_of_gt lS)
        refine set_update_ints ((Walks.list hh3 _ l nI items).toS) s.heap.objs.size nS ns hlen hb hi (items.size - 0) 0 _ (by omega) (Nat.zero_le _) ⟨⟨_, Heap.get?_push_size _ rfl, rfl, rfl⟩, (hl1.push _)⟩ ?hS0 ?hR
        case hS0 =>
          exact ⟨0, Nat.le_refl 0, setR_new_at (Heap.get?_push_of_some _ gS)⟩
        case hR =>
          intro t' c' mv hc' hS'
          obtain ⟨h', g', d', tk', os'⟩ := t'
          obtain rfl : g' = s.gens := mv.gens
          obtain rfl : d' = s.drawn := mv.drawn
          obtain rfl : os' = s.os := mv.os
          refine wpAny_pure ?_
          show wpAny _ _ (ret .none) _ _ _
          refine wpAny_pure ⟨rfl, h', tk', c', rfl, hS', (by rw [← hlen]; exact hc'), fun b o hb e => ?_⟩
          refine mv.heap b o (fun z => ?_) (Heap.get?_push_of_some _ (Heap.get?_push_of_some _ e))
          rcases List.mem_cons.mp z with z | z
          · exact absurd z (Nat.ne_of_lt hb)
          · rw [sz] at z
            rcases List.mem_singleton.mp z with rfl
            exact absurd (Nat.lt_of_lt_of_le hb (Nat.le_succ _)) (Nat.lt_irrefl _)
      · cases r₂ with
        | error e => exact hr₂
        | ok fl₂ =>
          cases fl₂ with
          | ret r =>
            obtain ⟨rfl, h', tk, c', rfl, hS', hc', hk'⟩ := hr₂
            repeat (any_goals (first | assumption | wp_step))
            exact h _ _ _ hS' hc' hk'
          | _ => exact hr₂.elim
    | _ => exact hr.elim
end
end HR
set_option Elab.async false
set_option linter.all false
set_option maxRecDepth 20000
set_option maxHeartbeats 1000000
/-! sorted(set(xs)), xs a list of ints, fewer than 64 -/
namespace HR
open PySem L2 RZ PySem.Spec PyProof.Rows
def insU (x : Int) : List Int → List Int
  | [] => [x]
  | y :: r => if x < y then x :: y :: r else if x = y then y :: r else y :: insU x r
def sortU (l : List Int) : List Int := l.foldr insU []
theorem insU_mem (x k : Int) : ∀ l : List Int, k ∈ insU x l ↔ k = x ∨ k ∈ l
  | [] => by simp [insU]
  | y :: r => by
    unfold insU
    split
    · simp
    · split
      · rename_i h
        subst h
        simp
      · simp only [List.mem_cons, insU_mem x k r]
        constructor
        · rintro (h | h | h)
          · exact .inr (.inl h)
          · exact .inl h
          · exact .inr (.inr h)
        · rintro (h | h | h)
          · exact .inr (.inl h)
          · exact .inl h
          · exact .inr (.inr h)
theorem insU_lt (x : Int) : ∀ l : List Int, l.Pairwise (· < ·) → (insU x l).Pairwise (· < ·)
  | [], _ => by simp [insU]
  | y :: r, h => by
    obtain ⟨h1, h2⟩ := List.pairwise_cons.mp h
    unfold insU
    split
    · rename_i q
      refine List.pairwise_cons.mpr ⟨fun z hz => ?_, h⟩
      rcases List.mem_cons.mp hz with rfl | hz
      · exact q
      · have := h1 z hz
        omega
    · split
      · exact h
      · refine List.pairwise_cons.mpr ⟨fun z hz => ?_, insU_lt x r h2⟩
        rcases (insU_mem x z r).mp hz with rfl | hz
        · omega
        · exact h1 z hz
theorem sortU_mem (k : Int) : ∀ l : List Int, k ∈ sortU l ↔ k ∈ l
  | [] => Iff.rfl
  | x :: r => by
    show k ∈ insU x (sortU r) ↔ _
    rw [insU_mem, sortU_mem k r, List.mem_cons]
theorem sortU_lt : ∀ l : List Int, (sortU l).Pairwise (· < ·)
  | [] => List.Pairwise.nil
  | x :: r => insU_lt x _ (sortU_lt r)
theorem lt_uniq : ∀ {a b : List Int}, a.Pairwise (· < ·) → b.Pairwise (· < ·) → (∀ k, k ∈ a ↔ k ∈ b) → a = b
  | [], [], _, _, _ => rfl
  | [], y :: b, _, _, h => absurd ((h y).mpr List.mem_cons_self) List.not_mem_nil
  | x :: a, [], _, _, h => absurd ((h x).mp List.mem_cons_self) List.not_mem_nil
  | x :: a, y :: b, ha, hb, h => by
    obtain ⟨a1, a2⟩ := List.pairwise_cons.mp ha
    obtain ⟨b1, b2⟩ := List.pairwise_cons.mp hb
    have e : x = y := by
      have h1 := (h x).mp List.mem_cons_self
      have h2 := (h y).mpr List.mem_cons_self
      rcases List.mem_cons.mp h1 with h1 | h1
      · exact h1
      · rcases List.mem_cons.mp h2 with h2 | h2
        · exact h2.symm
        · have := a1 y h2
          have := b1 x h1
          omega
    subst e
    rw [lt_uniq a2 b2 fun k => ?_]
    constructor
    · intro hk
      rcases List.mem_cons.mp ((h k).mp (List.mem_cons_of_mem _ hk)) with rfl | q
      · exact absurd (a1 k hk) (Int.lt_irrefl _)
      · exact q
    · intro hk
      rcases List.mem_cons.mp ((h k).mpr (List.mem_cons_of_mem _ hk)) with rfl | q
      · exact absurd (b1 k hk) (Int.lt_irrefl _)
      · exact q
section
variable {X : Cx} {W : WX}
def sSortSet (f : SE) : SE := fun e h => (f e h).bind fun d h1 => match (lsqAt h1 d).bind intsOf with
  | some ns => if ns.length < 64 then .ok (.lst ((sortU ns).map .int)) h1 else .bad
  | none => .bad
theorem boot_sorted_ : bootBuiltins "sorted" = some (.builtin "sorted") := by decide +kernel
theorem de_sortset {a : Expr} {fa : SE} {p p2 q pos : Pos} (hc : X.calm = true) (hg : Gl X "sorted") (hm : X.mg "sorted" = none) (hg2 : Gl X "set") (hm2 : X.mg "set" = none) (ha : DE X W a fa) (na : starEach [a] X.env = (false, eval a X.env) :: starEach [] X.env := by rfl) :
    DE X W (.Call (.Name "sorted" p) [.Call (.Name "set" p2) [a] [] q] [] pos) (sSortSet fa) := by
  refine ⟨fun pins s σ H Q I z => PyProof.Rows.Call_ (ld_blt I hg hm boot_sorted_ (PyProof.Rows.callWith_builtin1 (PyProof.Rows.args_cons (PyProof.Rows.Call_ (ld_blt I hg2 hm2 bootSet (PyProof.Rows.callWith_type1 (PyProof.Rows.args_cons ?_ na) na rfl))) rfl) rfl rfl))⟩
  obtain ⟨P, F, m, e, h, S, E, fin⟩ := z
  have key : rdG X.K W (Den X.K) fa σ H (fun x H1 => ∃ (l : Addr) (ns : List Int), x = .ref l ∧ SqL X.K H1 l (ns.map V.int) ∧ ns.length < 64 ∧ ∀ p, H1 p = none → Q (.ref p) (upd H1 p (.lst ((sortU ns).map V.int)))) := by
    refine rd_seq S E fin fun F1 m1 h1 H1 x dx x1 S1 E1 r1 fin1 => ?_
    cases q1 : lsqAt h1 dx with
    | none => rw [q1] at fin1; exact fin1.bad_elim
    | some xs =>
      rw [q1] at fin1
      simp only [Option.bind_some] at fin1
      cases q2 : intsOf xs with
      | none => rw [q2] at fin1; exact fin1.bad_elim
      | some ns =>
        rw [q2] at fin1
        dsimp only at fin1
        by_cases hz : ns.length < 64
        · rw [if_pos hz] at fin1
          obtain ⟨b, vs, rfl, hb, rl⟩ := lsqAt_ok S1 r1 q1
          rw [intsOf_ok rl q2] at hb
          refine ⟨b, ns, rfl, hb, hz, fun p hp => FinG.newL fin1 S1 ?_ hp⟩
          generalize sortU ns = us
          induction us with
          | nil => exact .nil
          | cons u us ih => exact .cons (.int u) ih
        · rw [if_neg hz] at fin1
          exact fin1.bad_elim
  refine thn (ha.run pins s σ H _ I key) fun v s1 ⟨x, H1, I1, r1, l, ns, ex, hq, hl, q1⟩ => PyProof.Rows.args_nil ?_
  subst ex
  cases r1
  obtain ⟨its, r, pl, hz⟩ := I1.list hq
  have hlen : its.toArray.size = ns.length := by rw [List.size_toArray, ← r.length, List.length_map]
  refine set_of_ints (I1.ok.hd hc) pl.isList hlen (fun i v hv => ?_) (by unfold scanBound; omega) fun h' tk c hS hc' hk => PyProof.Rows.args_nil ?_
  · have hi : i < ns.length := by
      rw [← hlen]
      exact (Array.getElem?_eq_some_iff.mp hv).1
    obtain ⟨u, e1, ru⟩ := r.get (i := i) (x := V.int ns[i]) (by simp [hi])
    have hv2 : its[i]? = some v := by simpa using hv
    rw [hv2] at e1
    obtain rfl : v = u := Option.some.inj e1
    obtain ⟨t, rfl⟩ := ru
    exact ⟨ns[i], t, List.getElem?_eq_getElem hi, rfl⟩
  · have I2 : Inv X pins σ H1 { s1 with heap := h', toks := tk } := I1.kept fun b o e => hk b o (Heap.lt_size e) e
    refine sorted_set hS (I1.ok.hd hc) (by omega) fun s' p out c2 us k g o hp hgt hit hs hmm hll => ?_
    have eu : us = sortU ns := lt_uniq hs (sortU_lt ns) fun k => by rw [hmm k, sortU_mem]; simp
    have hlen2 : (us.map V.int).length ≤ sizeLine := by rw [List.length_map, hll, sizeLine_eq]; omega
    have hn : H1 p = none := I2.hok.fresh hp
    have J : Inv X pins σ (upd H1 p (.lst (us.map V.int))) { ({ s1 with heap := h', toks := tk } : Shared) with heap := s'.heap, gens := s'.gens, drawn := s'.drawn, toks := s'.toks } :=
      I2.call (ch := []) (Un.laid k hp hn) (I2.hok.laid k hp ⟨hlen2, out.toList, c2, vals_of_ints hit, hgt⟩) (by rw [g]; exact I2.bare) (fun _ z => nomatch z)
    have e : s' = { s1 with heap := s'.heap, gens := s'.gens, drawn := s'.drawn, toks := s'.toks } := by
      cases s'
      cases s1
      cases o
      rfl
    rw [e]
    subst eu
    exact ⟨.ref p, _, J, rfl, q1 p hn⟩
end
section
variable {PD : D → OH → Prop}
@[simp] theorem W_sSortSet (f : SE) (e : Env') (h : OH) : (sSortSet f e h).W PD = (f e h).W fun d h1 => match (lsqAt h1 d).bind intsOf with
  | some ns => if ns.length < 64 then PD (.lst ((sortU ns).map .int)) h1 else False
  | none => False := by
  unfold sSortSet; rw [W_bind]; congr; funext d h1
  cases (lsqAt h1 d).bind intsOf with
  | none => rfl
  | some ns => dsimp only; split <;> rfl
end
end HR
set_option Elab.async false
set_option linter.all false
set_option maxRecDepth 20000
set_option maxHeartbeats 1000000
/-! min(xs, default=None), xs a list of ints -/
set_option Elab.async false
set_option linter.all false
set_option maxRecDepth 20000
set_option maxHeartbeats 1000000
/-! a comprehension over a list, own or frozen -/
set_option Elab.async false
set_option linter.all false
set_option maxRecDepth 100000
set_option maxHeartbeats 1000000
/-! zip of a list and a tuple -/
namespace HR
open PySem L2 RZ PySem.Spec PyProof.Rows
open PySem.Sem (wp)
/-! the call zip(l1, l2) -/
/-! the loop over it -/
section
variable {X : Cx} {W : WX}
/-- zip of lists, of tuples, or of a list and a tuple -/
def sZipX (f : SA) : SA := fun e h => match f e h with
  | .ok [.lst xs, .tup ys] h1 => .ok (zipD xs ys) h1
  | _ => sZip f e h
end
section
variable {PL : List D → OH → Prop}
def zipAtX : D → D → Option (List D)
  | .lst xs, .tup ys => some (zipD xs ys)
  | a, b => zipAt a b
theorem W_zipXa (f : SA) (e : Env') (h : OH) : (sZipX f e h).W PL = (f e h).W fun ds h1 => match ds with
  | [d, d2] => lkS (zipAtX d d2) fun xs => PL xs h1
  | _ => False := by
  unfold sZipX
  split
  · rename_i xs ys h1 q
    rw [q]
    rfl
  · rename_i no
    unfold sZip
    rw [W_bind]
    cases q : f e h with
    | bad => rfl
    | exc C p h1 => rfl
    | ok ds h1 =>
      simp only [W_ok]
      match ds, q with
      | [], _ => rfl
      | [_], _ => rfl
      | _ :: _ :: _ :: _, _ => rfl
      | [d, d2], q =>
        have e2 : zipAtX d d2 = zipAt d d2 := by
          unfold zipAtX
          split
          · exact absurd q (no _ _ _)
          · rfl
        simp only [e2]
        cases zipAt d d2 <;> rfl
@[simp] theorem W_zipX (f g : SE) (e : Env') (h : OH) : (sZipX (sCons f (sCons g sNil)) e h).W PL = (f e h).W fun d h1 => (g e h1).W fun d2 h2 => lkS (zipAtX d d2) fun xs => PL xs h2 := by
  rw [W_zipXa]; simp only [W_sCons, W_sNil]
@[simp] theorem zipAtX_lt (xs ys : List D) : zipAtX (.lst xs) (.tup ys) = some (zipD xs ys) := rfl
@[simp] theorem zipAtX_ll (xs ys : List D) : zipAtX (.lst xs) (.lst ys) = some (zipD xs ys) := rfl
end
end HR
set_option Elab.async false
set_option linter.all false
set_option maxRecDepth 20000
/-! a <= b < c -/
set_option Elab.async false
set_option linter.all false
set_option maxRecDepth 20000
set_option maxHeartbeats 1000000
/-! dict(pairs), the keys apart; d[k] -/
namespace HR
open PySem L2 RZ
def getK (ks : List (Key × D)) (k : Key) : Option D := (ks.find? fun kv => decide (kv.1 = k)).map (·.2)
def keyD : D → Option Key
  | .int i => some (.inl i)
  | .str x => some (.inr x)
  | _ => none
section
variable {K : PySem.W.Frag} {F : Hp} {m : List Addr}
theorem keyD_den {v : V} {d : D} {k : Key} (r : Den K F m v d) (e : keyD d = some k) : v = kV k := by
  cases r <;> simp only [keyD, Option.some.injEq, reduceCtorEq] at e <;> subst e <;> rfl
theorem denK_get : ∀ {kvs : List (Key × V)} {ks : List (Key × D)} (r : DenK K F m kvs ks) {k : Key} {d : D}, getK ks k = some d → ∃ v, valV kvs k = some v ∧ Den K F m v d
  | _, _, .nil, k, d, e => by simp [getK] at e
  | _, _, .cons (k := k0) (v := v0) (ds := ds0) h t, k, d, e => by
    by_cases c : k0 = k
    · subst c
      simp [getK] at e
      subst e
      exact ⟨_, valV_pos rfl, h⟩
    · have e2 : getK ds0 k = some d := by simpa [getK, c] using e
      obtain ⟨v, h1, h2⟩ := denK_get t e2
      exact ⟨v, by rw [valV_neg c]; exact h1, h2⟩
theorem DenK.keys : ∀ {kvs : List (Key × V)} {ks : List (Key × D)} (r : DenK K F m kvs ks), kvs.map (·.1) = ks.map (·.1)
  | _, _, .nil => rfl
  | _, _, .cons h t => by simp [t.keys]
end
end HR
set_option Elab.async false
set_option linter.all false
set_option maxRecDepth 20000
/-! xs[lo:hi:step] of a list -/
namespace HR
open PySem PySem.Spec PyProof.Rows L2 RZ
def stepIx (n : Nat) (lo hi st : Option Int) : List Nat := sliceRange (sliceBounds lo hi st n).1 (sliceBounds lo hi st n).2.1 (sliceBounds lo hi st n).2.2
def pickA {α : Type} (xs : List α) (ix : List Nat) : List α := ix.filterMap (xs[·]?)
def stepD (xs : List D) (lo hi st : Option Int) : List D := pickA xs (stepIx xs.length lo hi st)
def stepV (xs : List V) (lo hi st : Option Int) : List V := pickA xs (stepIx xs.length lo hi st)
theorem pickA_cons_some {α : Type} {xs : List α} {i : Nat} {ix : List Nat} {x : α} (e : xs[i]? = some x) : pickA xs (i :: ix) = x :: pickA xs ix := by
  unfold pickA
  rw [List.filterMap_cons, e]
theorem pickA_cons_none {α : Type} {xs : List α} {i : Nat} {ix : List Nat} (e : xs[i]? = none) : pickA xs (i :: ix) = pickA xs ix := by
  unfold pickA
  rw [List.filterMap_cons, e]
theorem vals_pick {vs : List V} {us : List Value} (r : Vals vs us) : ∀ ix : List Nat, Vals (pickA vs ix) (pickA us ix)
  | [] => .nil
  | i :: ix => by
    cases e : vs[i]? with
    | none =>
      have e2 : us[i]? = none := by
        rw [List.getElem?_eq_none_iff] at e ⊢
        rw [← r.length]
        exact e
      rw [pickA_cons_none e, pickA_cons_none e2]
      exact vals_pick r ix
    | some v =>
      obtain ⟨u, hu, rv⟩ := r.get e
      rw [pickA_cons_some e, pickA_cons_some hu]
      exact .cons rv (vals_pick r ix)
theorem denL_get {K : PySem.W.Frag} {F : Hp} {m : List Addr} : ∀ {vs : List V} {ds : List D}, DenL K F m vs ds → ∀ {i : Nat} {v : V}, vs[i]? = some v → ∃ d, ds[i]? = some d ∧ Den K F m v d
  | _, _, .nil, i, v, e => by simp at e
  | _, _, .cons h t, 0, v, e => by
    simp at e
    subst e
    exact ⟨_, rfl, h⟩
  | _, _, .cons h t, i + 1, v, e => by
    obtain ⟨d, a, b⟩ := denL_get t (i := i) (v := v) (by simpa using e)
    exact ⟨d, by simpa using a, b⟩
theorem pick_den {K : PySem.W.Frag} {F : Hp} {m : List Addr} {vs : List V} {ds : List D} (r : DenL K F m vs ds) : ∀ ix : List Nat, DenL K F m (pickA vs ix) (pickA ds ix)
  | [] => .nil
  | i :: ix => by
    cases e : vs[i]? with
    | none =>
      have e2 : ds[i]? = none := by
        rw [List.getElem?_eq_none_iff] at e ⊢
        rw [← r.length]
        exact e
      rw [pickA_cons_none e, pickA_cons_none e2]
      exact pick_den r ix
    | some v =>
      obtain ⟨d, hd, rd⟩ := denL_get r e
      rw [pickA_cons_some e, pickA_cons_some hd]
      exact .cons rd (pick_den r ix)
theorem step_den {K : PySem.W.Frag} {F : Hp} {m : List Addr} {vs : List V} {ds : List D} (r : DenL K F m vs ds) (lo hi st : Option Int) : DenL K F m (stepV vs lo hi st) (stepD ds lo hi st) := by
  unfold stepV stepD
  rw [r.length]
  exact pick_den r _
theorem slicePick_step (its : List Value) (lo hi st : Option Int) : slicePick its.toArray lo hi st = (pickA its (stepIx its.length lo hi st)).toArray := by
  unfold slicePick pickA stepIx
  simp
theorem stepV_len (xs : List V) (lo hi st : Option Int) : (stepV xs lo hi st).length ≤ xs.length := by
  have := slicePick_size_le (xs.map fun _ => Value.none).toArray lo hi st
  rw [slicePick_step] at this
  have key : ∀ ix : List Nat, (pickA xs ix).length = (pickA (xs.map fun _ => Value.none) ix).length := by
    intro ix
    induction ix with
    | nil => rfl
    | cons i ix ih =>
      cases e : xs[i]? with
      | none => rw [pickA_cons_none e, pickA_cons_none (by simp [e]), ih]
      | some x => rw [pickA_cons_some e, pickA_cons_some (x := Value.none) (by simp [e]), List.length_cons, List.length_cons, ih]
  unfold stepV
  rw [key]
  simpa using this
def tSlS (K : PySem.W.Frag) (te : TE) (tl th ts : TO) : TE := fun σ H Q => te σ H fun x H1 => tl σ H1 fun l H2 => th σ H2 fun u H3 => ts σ H3 fun k H4 => k ≠ some 0 ∧ ∃ a xs, x = .ref a ∧ SqL K H4 a xs ∧ ∀ p, H4 p = none → Q (.ref p) (upd H4 p (.lst (stepV xs l u k)))
theorem pe_sliceS {X : Cx} {e st : Expr} {te : TE} {lo hi : Option Expr} {tl th ts : TO} {pos p2 : Pos} (he : PE X e te) (hl : PO X lo tl) (hu : PO X hi th) (hst : PO X (some st) ts) : PE X (.Subscript e (.Slice lo hi (some st) p2) pos) (tSlS X.K te tl th ts) := by
  refine ⟨fun pins s σ H Q I h => ?_⟩
  refine Subscript_ (thn (he.run pins s σ H _ I h) fun v s1 ⟨x, H1, I1, r1, q1⟩ => ?_)
  refine wpAny_Slice (thn (hl.run pins s1 σ H1 _ I1 q1) fun vl s2 ⟨l, H2, I2, pl, q2⟩ => thn (hu.run pins s2 σ H2 _ I2 q2) fun vu s3 ⟨u, H3, I3, pu, q3⟩ => thn (hst.run pins s3 σ H3 _ I3 q3) fun vk s4 ⟨k, H4, I4, pk, q4⟩ => ?_)
  obtain ⟨k0, a, xs, rfl, hx, q⟩ := q4
  cases r1
  have I5 : Inv X pins σ H4 { s4 with heap := s4.heap.push { cls := .type "slice", data := .fields #[vl, vu, vk] } } := I4.kept (t' := s4.toks) fun b ob q => Heap.get?_push_of_some _ q
  obtain ⟨its, r, ht, hz⟩ := I5.list hx
  have hlen := r.length
  show wpAny (model X.prog X.w) X.A (subscriptTail e (.Slice lo hi (some st) p2) (.ref a) (.ref s4.heap.objs.size)) (EP X pins σ Q) X.xe { s4 with heap := s4.heap.push { cls := .type "slice", data := .fields #[vl, vu, vk] } }
  refine tail_any (T := "list") (ops := [.ref a, .ref s4.heap.objs.size]) ht.isList.typeIs slot_list_getitem.lookup ?_ (by with_unfolding_all rfl)
  refine wpAny_getItem_list_slice ht.isList (Heap.IsSliceOf.new ..) pl pu pk k0 ?_ (by rw [List.size_toArray] <;> omega)
  rw [slicePick_step, ← hlen]
  refine ⟨.ref _, _, I5.laid (t' := s4.toks) (o := .lst (stepV xs l u k)) (fun b ob q => Heap.get?_push_of_some _ q) (Nat.le_refl _) ?_, rfl, q _ (I5.hok.fresh (Nat.le_refl _))⟩
  refine ⟨Nat.le_trans (stepV_len xs l u k) hz, _, 0, vals_pick r _, Heap.get?_push_size _ rfl⟩
def opCutS (own : Bool) (a : D) (lo hi st : Option Int) (h : OH) : Res D := if st = some 0 then .bad else match lsqAt h a with
  | some xs => if own then .ok (.ref h.length) (h ++ [.lst (stepD xs lo hi st)]) else .ok (.lst (stepD xs lo hi st)) h
  | none => .bad
def sCutS (own : Bool) (a : SE) (lo hi st : SO) : SE := fun e h => (a e h).bind fun x h1 => (lo e h1).bind fun l h2 => (hi e h2).bind fun u h3 => (st e h3).bind fun k h4 => opCutS own x l u k h4
section
variable {X : Cx} {W : WX}
theorem de_cutS {a st : Expr} {lo hi : Option Expr} {p2 pos : Pos} {fa : SE} {fl fu fk : SO} (own : Bool) (ha : DE X W a fa) (hl : DO X W lo fl) (hh : DO X W hi fu) (hk : DO X W (some st) fk) : DE X W (.Subscript a (.Slice lo hi (some st) p2) pos) (sCutS own fa fl fu fk) :=
  PE.of (pe_sliceS ha hl hh hk) fun σ H Q => by
    rintro ⟨P, F, m, e, h, S, E, fin⟩
    refine rd_seq S E fin fun F1 m1 h1 H1 x dx x1 S1 E1 r1 fin1 => ?_
    refine rd_seq S1 E1 fin1 fun F2 m2 h2 H2 l dl x2 S2 E2 r2 fin2 => ?_
    refine rd_seq S2 E2 fin2 fun F3 m3 h3 H3 u du x3 S3 E3 r3 fin3 => ?_
    refine rd_seq S3 E3 fin3 fun F4 m4 h4 H4 k dk x4 S4 E4 r4 fin4 => ?_
    have r2 : l = dl := r2
    have r3 : u = du := r3
    have r4 : k = dk := r4
    subst r2 r3 r4
    have r5 := r1.mono ((x2.trans x3).trans x4)
    unfold opCutS at fin4
    by_cases k0 : k = some 0
    · rw [if_pos k0] at fin4
      exact fin4.bad_elim
    · rw [if_neg k0] at fin4
      refine ⟨k0, ?_⟩
      cases q : lsqAt h4 dx with
      | some xs =>
        rw [q] at fin4
        obtain ⟨c, vs, rfl, hc, rc⟩ := lsqAt_ok S4 r5 q
        refine ⟨c, vs, rfl, hc, fun p hp => ?_⟩
        cases own with
        | true => exact FinG.ownL fin4 S4 (step_den rc l u k) hp
        | false => exact FinG.newL fin4 S4 (step_den rc l u k) hp
      | none =>
        rw [q] at fin4
        exact fin4.bad_elim
end
section
variable {PD : D → OH → Prop}
@[simp] theorem W_cutSL (own : Bool) (xs : List D) (lo hi : Option Int) (k : Int) (h : OH) : (opCutS own (.lst xs) lo hi (some k) h).W PD = if k = 0 then False else if own then PD (.ref h.length) (h ++ [.lst (stepD xs lo hi (some k))]) else PD (.lst (stepD xs lo hi (some k))) h := by
  unfold opCutS
  by_cases k0 : k = 0
  · simp [k0]
  · simp [k0, lsqAt, seqAt]
end
end HR
set_option Elab.async false
set_option linter.all false
set_option maxRecDepth 20000
/-! str(i), int(text), xs.index(x), x in xs for deep values -/
namespace HR
open PySem L2 RZ
/-- the first place of a flat value -/
def idxV (x : V) : List V → Option Nat
  | [] => none
  | y :: ys => if eqV y x then some 0 else (idxV x ys).map (· + 1)
theorem idxV_ok {x : V} : ∀ {ys : List V} {j : Nat}, idxV x ys = some j → ∃ z, ys[j]? = some z ∧ eqV z x = true ∧ ∀ (m : Nat) z', m < j → ys[m]? = some z' → eqV z' x = false
  | [], j, h => by cases h
  | y :: ys, j, h => by
    unfold idxV at h
    by_cases e : eqV y x = true
    · rw [if_pos e] at h
      cases h
      exact ⟨y, rfl, e, fun m z' hm => by omega⟩
    · rw [if_neg e, Option.map_eq_some_iff] at h
      obtain ⟨k, hk, rfl⟩ := h
      obtain ⟨z, h1, h2, h3⟩ := idxV_ok hk
      refine ⟨z, by simpa using h1, h2, fun m z' hm hz => ?_⟩
      cases m with
      | zero =>
        simp at hz
        subst hz
        simpa using e
      | succ m => exact h3 m z' (by omega) (by simpa using hz)
def opIdx : D → D → OH → Res D := fun a b h => match (lsqAt h a).bind flatsD, flatD b with
  | some xs, some x => if flatV x && xs.all flatV then (match idxV x xs with
    | some j => .ok (.int (j : Nat)) h
    | none => .bad) else .bad
  | _, _ => .bad
def sIdx (o : SE) (a : SA) : SE := fun e h => (o e h).bind fun x h1 => if (lsqAt h1 x).isSome then (a e h1).bind fun ys h2 => (match ys with
  | [y] => opIdx x y h2
  | _ => .bad) else .bad
section
variable {X : Cx} {W : WX}
theorem de_index {o a : Expr} {fo fa : SE} {apos cpos : Pos} (ho : DE X W o fo) (ha : DE X W a fa) (hbase : attributeBase o "index" X.env (eval o X.env) = eval o X.env := by rfl)
    (hfew : ((backTo cpos (starEach [a] X.env)).all (fun x => !x.1) && (backToKw cpos (keywordEach [] X.env)).all (fun x => x.1.isSome) && decide (([a] : List Expr).length + ([] : List Keyword).length + (if ([] : List Keyword).isEmpty then 0 else 1) < 30)) = true := by rfl)
    (hline : (apos.endLine == cpos.line) = true := by rfl) (hs : starEach [a] X.env = (false, eval a X.env) :: starEach [] X.env := by rfl) (hplain : (backTo cpos (starEach [] X.env)).any (·.1) = false := by rfl) : DE X W (.Call (.Attribute o "index" apos) [a] [] cpos) (sIdx fo (sCons fa sNil)) :=
  PE.of (pe_bm PySem.F.plainAttrs_list PySem.F.slot_list_index PySem.F.type_list_index mt_index ho (da_cons ha da_nil hs) hbase hfew hline hs hplain) fun σ H Q => by
    rintro ⟨P, F, m, e, h, S, E, fin⟩
    refine rd_seq S E fin fun F1 m1 h1 H1 x dx x1 S1 E1 r1 fin1 => ?_
    by_cases hi : (lsqAt h1 dx).isSome = true
    · rw [if_pos hi] at fin1
      obtain ⟨xs, q⟩ := Option.isSome_iff_exists.mp hi
      obtain ⟨c, vs, rfl, hc, rc⟩ := lsqAt_ok S1 r1 q
      refine ⟨.inl ⟨rfl, vs, hc⟩, rd_seq S1 E1 fin1 fun F2 m2 h2 H2 ws ys x2 S2 E2 r2 fin2 => ?_⟩
      have r3 := r1.mono x2
      cases r2 with
      | nil => exact fin2.bad_elim
      | cons ra rr =>
        cases rr with
        | cons _ _ => exact fin2.bad_elim
        | nil =>
          dsimp only at fin2
          unfold opIdx at fin2
          cases q1 : lsqAt h2 dx with
          | none => rw [q1] at fin2; exact fin2.bad_elim
          | some ys =>
            rw [q1, Option.bind_some] at fin2
            cases q2 : flatsD ys with
            | none => rw [q2] at fin2; exact fin2.bad_elim
            | some zs =>
              rw [q2] at fin2
              rename_i vy dy
              cases q3 : flatD dy with
              | none => rw [q3] at fin2; exact fin2.bad_elim
              | some y =>
                rw [q3] at fin2
                dsimp only at fin2
                obtain ⟨c2, us, ec, hc2, rl⟩ := lsqAt_ok S2 r3 q1
                cases ec
                by_cases hz : (flatV y && zs.all flatV) = true
                · rw [if_pos hz] at fin2
                  obtain ⟨z1, z2⟩ := and2 hz
                  obtain rfl := flatD_ok ra q3
                  obtain rfl := flatsD_ok rl q2
                  cases q4 : idxV vy us with
                  | none => rw [q4] at fin2; exact fin2.bad_elim
                  | some j =>
                    rw [q4] at fin2
                    obtain ⟨z, j1, j2, j3⟩ := idxV_ok q4
                    exact ⟨c, us, vy, j, z, rfl, rfl, hc2, z1, z2, j1, j2, j3, fin2.ok S2 (.int _)⟩
                · rw [if_neg hz] at fin2
                  exact fin2.bad_elim
    · rw [if_neg hi] at fin1
      exact fin1.bad_elim
end
end HR
set_option Elab.async false
set_option linter.all false
set_option maxRecDepth 20000
set_option maxHeartbeats 1000000
/-! own dicts whose keys are ints and texts: a comprehension, d[k] = v, d[k] -/
namespace HR
open PySem L2 RZ
def putD (ks : List (Key × D)) (k : Key) (d : D) : List (Key × D) := if (ks.any fun kv => decide (kv.1 = k)) = true then ks.map (fun kv => if kv.1 = k then (kv.1, d) else kv) else ks ++ [(k, d)]
def dctAt (h : OH) : D → Option (List (Key × D))
  | .dct ks => some ks
  | .ref i => (match h[i]? with
    | some (.dct ks) => some ks
    | _ => none)
  | _ => none
def sIxK (o i v : SE) : SS := fun e h => (v e h).toS e fun y h1 => (o e h1).toS e fun x h2 => (i e h2).toS e fun k h3 => match x, keyD k with
  | .ref n, some q => (match h3[n]? with
    | some (.dct ks) => if ks.length < big then .nx e (h3.set n (.dct (putD ks q y))) else .bad
    | _ => .bad)
  | _, _ => .bad
def dcGo (g : TF) (tt : ST) (kx vx : SE) (e : Env') : List D → OH → List (Key × D) → Res (List (Key × D))
  | [], h, acc => .ok acc h
  | d :: ds, h, acc => match g d e h with
    | none => .bad
    | some e1 => (tt e1 h).noX.bind fun b h1 => if b then (kx e1 h1).noX.bind fun y h2 => (vx e1 h2).noX.bind fun z h3 => (match keyD y with
        | some k => if acc.length < big then dcGo g tt kx vx e ds h3 (putD acc k z) else .bad
        | none => .bad) else dcGo g tt kx vx e ds h1 acc
def sDcO (it : SA) (g : TF) (tt : ST) (kx vx : SE) (vs : List Nat) : SE := fun e h => (it e h).bind fun ds h1 => (dcGo g tt kx vx (wipeD e vs) ds h1 []).bind fun acc h2 => .ok (.ref h2.length) (h2 ++ [.dct acc])
def sDctO : SE := fun _ h => .ok (.ref h.length) (h ++ [.dct []])
section
variable {K : PySem.W.Frag} {P : Pins} {F : Hp} {m : List Addr} {h : OH} {H : Hp}
theorem denK_any {k : Key} : ∀ {kvs : List (Key × V)} {ks : List (Key × D)}, DenK K F m kvs ks → (kvs.any fun kv => decide (kv.1 = k)) = (ks.any fun kv => decide (kv.1 = k))
  | _, _, .nil => rfl
  | _, _, .cons h t => by rw [List.any_cons, List.any_cons, denK_any t]
theorem denK_map {k : Key} {v : V} {d : D} (r : Den K F m v d) : ∀ {kvs : List (Key × V)} {ks : List (Key × D)}, DenK K F m kvs ks → DenK K F m (kvs.map fun kv => if kv.1 = k then (kv.1, v) else kv) (ks.map fun kv => if kv.1 = k then (kv.1, d) else kv)
  | _, _, .nil => .nil
  | _, _, .cons (k := k0) h t => by
    simp only [List.map_cons]
    by_cases c : k0 = k
    · rw [if_pos c, if_pos c]
      exact .cons r (denK_map r t)
    · rw [if_neg c, if_neg c]
      exact .cons h (denK_map r t)
theorem denK_end {k : Key} {v : V} {d : D} (r : Den K F m v d) : ∀ {kvs : List (Key × V)} {ks : List (Key × D)}, DenK K F m kvs ks → DenK K F m (kvs ++ [(k, v)]) (ks ++ [(k, d)])
  | _, _, .nil => .cons r .nil
  | _, _, .cons h t => .cons h (denK_end r t)
theorem denK_put {k : Key} {v : V} {d : D} (r : Den K F m v d) {kvs : List (Key × V)} {ks : List (Key × D)} (q : DenK K F m kvs ks) : DenK K F m (putK kvs k v) (putD ks k d) := by
  unfold putK putD
  rw [denK_any q]
  split
  · exact denK_map r q
  · exact denK_end r q
theorem DenK.length {kvs : List (Key × V)} {ks : List (Key × D)} (r : DenK K F m kvs ks) : kvs.length = ks.length := by
  have := congrArg List.length r.keys
  simpa using this
theorem putD_len (ks : List (Key × D)) (k : Key) (d : D) : (putD ks k d).length ≤ ks.length + 1 := by
  unfold putD
  split <;> simp
end
section
variable {X : Cx} {W : WX}
theorem ds_ixK {o i a : Expr} {fo fi fa : SE} {pos pos' : Pos} (hu : X.A.units + 64 < cLine) (ho : DE X W o fo) (hi : DE X W i fi) (ha : DE X W a fa) (hs : swapsWith a (some (.Subscript o i pos')) pos.line X.env = pure false := by rfl) :
    DS X W (.Assign [.Subscript o i pos'] a pos) (sIxK fo fi fa) := PS.of (ps_dput (by omega) ho hi ha hs) fun Dn σ H => by
  rintro ⟨P, F, m, e, h, S, E, fin⟩
  refine st_seq S E fin fun F1 m1 h1 H1 y dy x1 S1 E1 ry fin1 => ?_
  refine st_seq S1 E1 fin1 fun F2 m2 h2 H2 x dx x2 S2 E2 rx fin2 => ?_
  refine st_seq S2 E2 fin2 fun F3 m3 h3 H3 z dz x3 S3 E3 rz fin3 => ?_
  cases rx with
  | @ref b n e1 =>
    cases ek : keyD dz with
    | none => simp only [ek] at fin3; exact fin3.elim
    | some q =>
      have e2 := pre_get x3.p e1
      obtain ⟨ob, k1, k2⟩ := S3.own e2
      simp only [ek, k1] at fin3
      cases ob with
      | dct ks =>
        dsimp only at fin3
        obtain ⟨kvs, k3, k4, k5⟩ := k2
        by_cases hl : ks.length < big
        · rw [if_pos hl] at fin3
          have := keyD_den rz ek
          subst this
          exact ⟨b, _, rfl, DPut.k k3 (by rw [k4.length]; exact big_lt hl), fin3 σ F3 m3 _ .refl (S3.write e2 k1 k5 ⟨_, upd_same, denK_put (ry.mono (x2.trans x3)) k4, k5⟩) E3⟩
        · rw [if_neg hl] at fin3
          exact fin3.elim
      | _ => exact fin3.elim
  | _ => exact fin3.elim
theorem de_dctO {pos : Pos} : DE X W (.Dict [] [] pos) sDctO := PE.of pe_dnewK fun σ H Q => by
  rintro ⟨P, F, m, e, h, S, E, fin⟩
  intro p hp
  exact fin.okX ext_new (S.alloc hp ⟨_, upd_same, .nil, S.free hp⟩) (.ref (by rw [← S.len]; simp))
end
section
variable {PD : D → OH → Prop} {N C B : Env' → OH → Prop} {R : D → OH → Prop}
def lkD (o : Option OO) (P : List (Key × D) → Prop) : Prop := match o with
  | some (.dct ks) => P ks
  | _ => False
@[simp] theorem lkD_dct (ks : List (Key × D)) (P : List (Key × D) → Prop) : lkD (some (.dct ks)) P = P ks := rfl
@[simp] theorem SW_ixK (o i v : SE) (e : Env') (h : OH) : (sIxK o i v e h).W N C B R = (v e h).W fun y h1 => (o e h1).W fun x h2 => (i e h2).W fun k h3 => isR x fun n => lkS (keyD k) fun q => lkD h3[n]? fun ks => if ks.length < big then N e (h3.set n (.dct (putD ks q y))) else False := by
  unfold sIxK
  simp only [W_toS]
  congr; funext y h1; congr; funext x h2; congr; funext k h3
  cases x with
  | ref n =>
    simp only [isR_ref]
    cases keyD k with
    | none => rfl
    | some q =>
      simp only [lkS_some]
      cases h3[n]? with
      | none => rfl
      | some ob => cases ob <;> first | rfl | (simp only [lkD_dct]; split <;> rfl)
  | _ => rfl
@[simp] theorem dctAt_dct (h : OH) (ks : List (Key × D)) : dctAt h (.dct ks) = some ks := rfl
@[simp] theorem keyD_int (i : Int) : keyD (.int i) = some (.inl i) := rfl
@[simp] theorem keyD_str (x : Str) : keyD (.str x) = some (.inr x) := rfl
@[simp] theorem W_dctO (e : Env') (h : OH) : (sDctO e h).W PD = PD (.ref h.length) (h ++ [.dct []]) := rfl
@[simp] theorem W_dcO (it : SA) (g : TF) (tt : ST) (kx vx : SE) (vs : List Nat) (e : Env') (h : OH) : (sDcO it g tt kx vx vs e h).W PD = (it e h).W fun ds h1 => (dcGo g tt kx vx (wipeD e vs) ds h1 []).W fun acc h2 => PD (.ref h2.length) (h2 ++ [.dct acc]) := by
  unfold sDcO
  simp only [W_bind, W_ok]
end
end HR
set_option Elab.async false
set_option linter.all false
set_option maxRecDepth 20000
set_option maxHeartbeats 1000000
/-! == of instances whose class has no __eq__ of its own; an except suite of any form -/
namespace HR
open PySem L2 RZ PySem.Spec PyProof.Rows
/-! ### x == y, x an instance, y of the same class or None -/
def eqcOk (K : PySem.W.Frag) (es : List String) : Bool := es.all fun C => decide (PySem.W.mroIn K (He.ga K (Str.ofString C)) (.type "object") = some true) && decide (PySem.W.findIn K (.ref (He.ga K (Str.ofString C))) "__eq__" = some (some (.builtin "object.__eq__")))
/-! ### facts of the head -/
def SaysE (fa : List He.Fa) (fn : List He.DefD) (xs ys es : List String) (K : PySem.W.Frag) : Prop := SaysX fa fn xs ys K ∧ eqcOk K es = true
section
variable {fa : List He.Fa} {fn : List He.DefD} {xs ys es : List String} {K : PySem.W.Frag}
theorem SaysE.fact (c : SaysE fa fn xs ys es K) (i : Nat) {f : He.Fa} (h : fa[i]? = some f := by rfl) : f.ok K = true := c.1.fact i h
theorem SaysE.def_ (c : SaysE fa fn xs ys es K) (i : Nat) {d : He.DefD} (h : fn[i]? = some d := by rfl) : ∃ fd, FunD K d.name d.qual d.params d.body d.scope (d.dvs K) (d.kws K) (He.fAd K d.at_) fd := c.1.def_ i h
end
/-! ### try: .. except X as n: a suite that reads n -/
end HR
set_option Elab.async false
set_option linter.all false
set_option maxRecDepth 20000
set_option maxHeartbeats 1000000
/-! extend of own lists -/
namespace HR
open PySem L2 RZ PySem.Spec PyProof.Rows
section
variable {X : Cx} {W : WX}
def gExtend (i : Nat) (xs ys : List D) (h : OH) : Res D := match ys with
  | [d] => (match lstAt h d with
    | some zs => if xs.length + zs.length ≤ big then .ok .non (h.set i (.lst (xs ++ zs))) else .bad
    | none => .bad)
  | _ => .bad
end
section
variable {PD : D → OH → Prop}
@[simp] theorem W_extend (i : Nat) (xs : List D) (y : D) (h : OH) : (gExtend i xs [y] h).W PD = lkS (lstAt h y) fun zs => if xs.length + zs.length ≤ 1000000 then PD .non (h.set i (.lst (xs ++ zs))) else False := by
  unfold gExtend
  dsimp only
  rcases lstAt h y with _ | zs
  · rfl
  · simp only [lkS_some, big]
    split <;> rfl
end
end HR
set_option Elab.async false
set_option linter.all false
set_option maxRecDepth 20000
set_option maxHeartbeats 1000000
/-! own dicts with text keys: a display, update, two items set at once; remove of texts -/
namespace HR
open PySem L2 RZ PySem.Spec PyProof.Rows
/-! ### a display -/
def sPrs : List (Str × SE) → Env' → OH → Res (List (Key × D))
  | [], _, h => .ok [] h
  | kf :: r, e, h => (kf.2 e h).bind fun d h1 => (sPrs r e h1).bind fun ps h2 => .ok ((.inr kf.1, d) :: ps) h2
def sDispO (fs : List (Str × SE)) : SE := fun e h => (sPrs fs e h).bind fun ps h1 => if (ps.map (·.1)).Nodup ∧ ps.length ≤ 15 then .ok (.ref h1.length) (h1 ++ [.dct ps]) else .bad
section
variable {X : Cx} {W : WX}
/-! ### update -/
def mergeD (ks more : List (Key × D)) : List (Key × D) := more.foldl (fun acc kd => putD acc kd.1 kd.2) ks
def isOwnD (h : OH) : D → Bool
  | .ref i => (match h[i]? with
    | some (.dct _) => true
    | _ => false)
  | _ => false
def sUpd (fo : SE) (fa : SA) : SE := fun e h => (fo e h).bind fun x h1 => if isOwnD h1 x then (fa e h1).bind fun ys h2 => (match x, ys with
  | .ref i, [.ref j] => if i ≠ j then (match h2[i]?, h2[j]? with
    | some (.dct ks), some (.dct more) => if ks.length + more.length ≤ big then .ok .non (h2.set i (.dct (mergeD ks more))) else .bad
    | _, _ => .bad) else .bad
  | _, _ => .bad) else .bad
/-! ### two items set at once -/
def putC (o i : SE) (y : D) (k : SS) : SS := fun e h => (o e h).toS e fun x h2 => (i e h2).toS e fun kk h3 => match x, keyD kk with
  | .ref n, some q => (match h3[n]? with
    | some (.dct ks) => if ks.length < big then k e (h3.set n (.dct (putD ks q y))) else .bad
    | _ => .bad)
  | _, _ => .bad
def sSub2 (o1 i1 o2 i2 v : SE) : SS := fun e h => (v e h).toS e fun y h1 => match y with
  | .tup [y1, y2] => putC o1 i1 y1 (putC o2 i2 y2 fun e h => .nx e h) e h1
  | _ => .bad
/-! ### remove of texts -/
end
section
variable {PD : D → OH → Prop} {N C B : Env' → OH → Prop} {R : D → OH → Prop}
@[simp] theorem W_dispO (fs : List (Str × SE)) (e : Env') (h : OH) : (sDispO fs e h).W PD = (sPrs fs e h).W fun ps h1 => if (ps.map (·.1)).Nodup ∧ ps.length ≤ 15 then PD (.ref h1.length) (h1 ++ [.dct ps]) else False := by
  unfold sDispO
  simp only [W_bind]
  congr; funext ps h1
  split <;> rfl
@[simp] theorem W_prs0 (e : Env') (h : OH) {Q : List (Key × D) → OH → Prop} : (sPrs [] e h).W Q = Q [] h := rfl
@[simp] theorem W_prs (x : Str) (f : SE) (r : List (Str × SE)) (e : Env') (h : OH) {Q : List (Key × D) → OH → Prop} : (sPrs ((x, f) :: r) e h).W Q = (f e h).W fun d h1 => (sPrs r e h1).W fun ps h2 => Q ((.inr x, d) :: ps) h2 := by
  simp only [sPrs, W_bind, W_ok]
@[simp] theorem W_upd (fo : SE) (fa : SA) (e : Env') (h : OH) : (sUpd fo fa e h).W PD = (fo e h).W fun x h1 => if isOwnD h1 x = true then (fa e h1).W fun ys h2 => (match x, ys with
  | .ref i, [.ref j] => if i ≠ j then lkD h2[i]? fun ks => lkD h2[j]? fun more => if ks.length + more.length ≤ 1000000 then PD .non (h2.set i (.dct (mergeD ks more))) else False else False
  | _, _ => False) else False := by
  unfold sUpd
  simp only [W_bind]
  congr; funext x h1
  split
  · simp only [W_bind]
    congr; funext ys h2
    split
    · split
      · rename_i i j _ _
        cases h2[i]? with
        | none => rfl
        | some o1 =>
          cases o1 with
          | dct ks =>
            cases h2[j]? with
            | none => rfl
            | some o2 =>
              cases o2 with
              | dct more =>
                simp only [lkD_dct, big]
                split <;> rfl
              | _ => rfl
          | _ => rfl
      · rfl
    · rfl
  · rfl
@[simp] theorem SW_putC (o i : SE) (y : D) (k : SS) (e : Env') (h : OH) : (putC o i y k e h).W N C B R = (o e h).W fun x h2 => (i e h2).W fun kk h3 => isR x fun n => lkS (keyD kk) fun q => lkD h3[n]? fun ks => if ks.length < 1000000 then (k e (h3.set n (.dct (putD ks q y)))).W N C B R else False := by
  unfold putC
  simp only [W_toS]
  congr; funext x h2; congr; funext kk h3
  cases x with
  | ref n =>
    simp only [isR_ref]
    cases keyD kk with
    | none => rfl
    | some q =>
      simp only [lkS_some]
      cases h3[n]? with
      | none => rfl
      | some ob => cases ob <;> first | rfl | (simp only [lkD_dct, big]; split <;> rfl)
  | _ => rfl
@[simp] theorem SW_sub2 (o1 i1 o2 i2 v : SE) (e : Env') (h : OH) : (sSub2 o1 i1 o2 i2 v e h).W N C B R = (v e h).W fun y h1 => match y with
  | .tup [y1, y2] => (putC o1 i1 y1 (putC o2 i2 y2 fun e h => .nx e h) e h1).W N C B R
  | _ => False := by
  unfold sSub2
  simp only [W_toS]
  congr; funext y h1
  split <;> rfl
end
end HR
set_option Elab.async false
set_option linter.all false
set_option maxRecDepth 20000
set_option maxHeartbeats 1000000
/-! lending, with an answer of new own lists: the answer is read as a frozen tree -/
set_option Elab.async false
set_option linter.all false
set_option maxRecDepth 100000
set_option maxHeartbeats 1000000
/-! enumerate of a tuple -/
namespace HR
open PySem L2 RZ PySem.Spec PyProof.Rows
open PySem.Sem (wp)
/-- enumerate of a list or a tuple -/
def sEnumX (f : SA) : SA := fun e h => match f e h with
  | .ok [.tup xs] h1 => .ok (enumD xs) h1
  | _ => sEnum f e h
section
variable {PL : List D → OH → Prop}
def enumAtX : D → Option (List D)
  | .tup xs => some (enumD xs)
  | d => (frzAt d).map enumD
@[simp] theorem W_enumX (f : SE) (e : Env') (h : OH) : (sEnumX (sCons f sNil) e h).W PL = (f e h).W fun d h1 => lkS (enumAtX d) fun xs => PL xs h1 := by
  unfold sEnumX
  split
  · rename_i xs h1 q
    cases qf : f e h with
    | bad => simp [sCons, qf] at q
    | exc C p h2 => simp [sCons, qf] at q
    | ok d h2 =>
      simp [sCons, qf, sNil] at q
      obtain ⟨rfl, rfl⟩ := q
      rfl
  · rename_i no
    rw [W_enum]
    cases qf : f e h with
    | bad => rfl
    | exc C p h2 => rfl
    | ok d h2 =>
      simp only [W_ok]
      have e2 : enumAtX d = (frzAt d).map enumD := by
        unfold enumAtX
        split
        · rename_i xs
          exact absurd (by simp [sCons, qf, sNil] : sCons f sNil e h = .ok [.tup xs] h2) (no xs h2)
        · rfl
      rw [e2]
      cases frzAt d <;> rfl
@[simp] theorem enumAtX_t (xs : List D) : enumAtX (.tup xs) = some (enumD xs) := rfl
@[simp] theorem enumAtX_l (xs : List D) : enumAtX (.lst xs) = some (enumD xs) := rfl
end
end HR
set_option Elab.async false
set_option linter.all false
set_option maxRecDepth 20000
set_option maxHeartbeats 1000000
/-! a def that reads no own objects and answers new ones: run on an empty heap -/
namespace HR
open PySem L2 RZ
mutual
def shD (n : Nat) : D → D
  | .non => .non
  | .bl b => .bl b
  | .int i => .int i
  | .str x => .str x
  | .lst xs => .lst (shL n xs)
  | .tup xs => .tup (shL n xs)
  | .dct ks => .dct (shK n ks)
  | .obj C fs => .obj C (shF n fs)
  | .ref i => .ref (n + i)
  | .scr xs => .scr (shL n xs)
  | .exc C => .exc C
  | .excf C f d => .excf C f (shD n d)
  | .fn x => .fn x
  | .dcl ks => .dcl (shK n ks)
def shL (n : Nat) : List D → List D
  | [] => []
  | d :: ds => shD n d :: shL n ds
def shK (n : Nat) : List (Key × D) → List (Key × D)
  | [] => []
  | (k, d) :: ks => (k, shD n d) :: shK n ks
def shF (n : Nat) : List (String × D) → List (String × D)
  | [] => []
  | (f, d) :: fs => (f, shD n d) :: shF n fs
end
def shO (n : Nat) : OO → OO
  | .lst xs => .lst (shL n xs)
  | .ins C fs => .ins C (shF n fs)
  | .dct ks => .dct (shK n ks)
  | .dead => .dead
  | .nd ψ ks d => .nd ψ (shK n ks) (shD n d)
def aliveO : OO → Bool
  | .dead => false
  | _ => true
section
variable {K : PySem.W.Frag} {F : Hp} {m m1 : List Addr}
theorem shF_names (n : Nat) : ∀ (fs : List (String × D)) (P : String → Prop), (∀ q ∈ fs, P q.1) → ∀ q ∈ shF n fs, P q.1
  | [], _, _, q, hq => by simp [shF] at hq
  | (f, d) :: fs, P, h, q, hq => by
    simp only [shF, List.mem_cons] at hq
    rcases hq with rfl | hq
    · exact h (f, d) List.mem_cons_self
    · exact shF_names n fs P (fun q hq => h q (List.mem_cons_of_mem _ hq)) q hq
theorem ObT.sh {C : String} {fs : List (String × D)} (n : Nat) (t : ObT K C fs) : ObT K C (shF n fs) := ⟨t.1, shF_names n fs (fun x => NoAttr K (He.ga K (Str.ofString C)) (Str.ofString x)) t.2⟩
theorem Den.sh {v : V} {d : D} (r : Den K F m1 v d) : Den K F (m ++ m1) v (shD m.length d) :=
  Den.rec (motive_1 := fun v d _ => Den K F (m ++ m1) v (shD m.length d)) (motive_2 := fun vs ds _ => DenL K F (m ++ m1) vs (shL m.length ds)) (motive_3 := fun vs ds _ => DenK K F (m ++ m1) vs (shK m.length ds)) (motive_4 := fun vs ds _ => DenF K F (m ++ m1) vs (shF m.length ds))
    .non .bl .int .str (fun q _ r => .lst q r) (fun q _ r => .scr q r) (fun q _ r => .tup q r) (fun q _ r => .dct q r) (fun q t _ r => .obj q (t.sh _) r)
    (fun {a i} q => .ref (by rw [List.getElem?_append_right (Nat.le_add_right _ _), Nat.add_sub_cancel_left]; exact q)) (fun q => .exc q) (fun q q2 _ r => .excf q q2 r) .fn (fun q _ r => .dcl q r)
    .nil (fun _ _ a b => .cons a b) .nil (fun _ _ a b => .cons a b) .nil (fun _ _ a b => .cons a b) r
theorem DenL.sh : ∀ {vs : List V} {ds : List D}, DenL K F m1 vs ds → DenL K F (m ++ m1) vs (shL m.length ds)
  | _, _, .nil => .nil
  | _, _, .cons a b => .cons a.sh b.sh
theorem DenK.sh : ∀ {vs : List (Key × V)} {ds : List (Key × D)}, DenK K F m1 vs ds → DenK K F (m ++ m1) vs (shK m.length ds)
  | _, _, .nil => .nil
  | _, _, .cons a b => .cons a.sh b.sh
theorem DenF.sh : ∀ {vs : List (Str × V)} {ds : List (String × D)}, DenF K F m1 vs ds → DenF K F (m ++ m1) vs (shF m.length ds)
  | _, _, .nil => .nil
  | _, _, .cons a b => .cons a.sh b.sh
theorem OOk.sh {H : Hp} {a : Addr} {o : OO} (ok : OOk K F m1 H a o) : OOk K F (m ++ m1) H a (shO m.length o) := by
  cases o with
  | lst xs =>
    obtain ⟨vs, h1, h2, h3⟩ := ok
    exact ⟨vs, h1, h2.sh, h3⟩
  | ins C fs =>
    obtain ⟨dx, fv, h1, h2, h3, h4⟩ := ok
    exact ⟨dx, fv, h1, h2.sh _, h3.sh, h4⟩
  | dct ks =>
    obtain ⟨kv, h1, h2, h3⟩ := ok
    exact ⟨kv, h1, h2.sh, h3⟩
  | dead => trivial
  | nd ψ ks d =>
    obtain ⟨kvs, v, h1, h2, h3, h4⟩ := ok
    exact ⟨kvs, v, h1, h2.sh, h3.sh, h4⟩
theorem OOk.none_ {H : Hp} {a : Addr} {o : OO} (ok : OOk K F m1 H a o) (al : aliveO o = true) : F a = none := by
  cases o with
  | lst xs => obtain ⟨vs, h1, h2, h3⟩ := ok; exact h3
  | ins C fs => obtain ⟨dx, fv, h1, h2, h3, h4⟩ := ok; exact h4
  | dct ks => obtain ⟨kv, h1, h2, h3⟩ := ok; exact h3
  | dead => cases al
  | nd ψ ks d => obtain ⟨kvs, v, h1, h2, h3, h4⟩ := ok; exact h4
end
section
variable {K : PySem.W.Frag} {P : Pins} {F : Hp} {m : List Addr} {h : OH} {H : Hp}
theorem Sim.join {F' : Hp} {m1 : List Addr} {h1 : OH} {H' : Hp} (S : Sim K P F m h H) (s : Same F F') (S' : Sim K (hidP F m H ++ P) F' m1 h1 H') (al : h1.all aliveO = true) : Sim K P F' (m ++ m1) (h ++ h1.map (shO h.length)) H' := by
  have U := S.unhide s S'
  have dis : ∀ a, a ∈ m → a ∉ m1 := fun a ha hb => by
    cases e : F a with
    | none =>
      obtain ⟨o, q⟩ := S.live a ha
      exact (S'.pin (a, o) (List.mem_append_left _ (mem_hidP.mpr ⟨ha, e, q⟩))).2.2 hb
    | some o =>
      obtain ⟨i, hi, ei⟩ := List.mem_iff_getElem.mp hb
      have e1 : m1[i]? = some a := by rw [List.getElem?_eq_getElem hi, ei]
      have hi2 : i < h1.length := by rw [← S'.len]; exact hi
      have e2 : h1[i]? = some h1[i] := List.getElem?_eq_getElem hi2
      have z := (S'.at_ i a _ e1 e2).none_ (List.all_eq_true.mp al _ (List.getElem_mem hi2))
      rw [s a o e] at z
      cases z
  refine ⟨S'.sub, by simp [S.len, S'.len], List.nodup_append.mpr ⟨S.nd, S'.nd, fun a ha b hb z => dis a ha (z ▸ hb)⟩, fun a ha => ?_, fun i a o e1 e2 => ?_, fun p hp => ?_, S.pnd⟩
  · rcases List.mem_append.mp ha with ha | ha
    · exact U.live a ha
    · exact S'.live a ha
  · by_cases hi : i < m.length
    · rw [List.getElem?_append_left hi] at e1
      rw [List.getElem?_append_left (by rw [← S.len]; exact hi)] at e2
      exact (U.at_ i a o e1 e2).mono ⟨fun _ _ q => q, List.prefix_append _ _⟩ rfl id
    · have hi : m.length ≤ i := Nat.le_of_not_lt hi
      rw [List.getElem?_append_right hi] at e1
      rw [List.getElem?_append_right (by rw [← S.len]; exact hi), List.getElem?_map, Option.map_eq_some_iff] at e2
      obtain ⟨o1, q1, rfl⟩ := e2
      rw [← S.len] at q1 ⊢
      exact (S'.at_ _ a o1 e1 q1).sh
  · obtain ⟨h1, h2, h3⟩ := S'.pin p (List.mem_append_right _ hp)
    refine ⟨h1, h2, fun z => ?_⟩
    rcases List.mem_append.mp z with z | z
    · exact (S.pin p hp).2.2 z
    · exact h3 z
def freshF (f : FN) : FN := fun ds h => if D.pureL ds then (match f ds [] with
  | .ok d h1 => if h1.all aliveO then .ok (shD h.length d) (h ++ h1.map (shO h.length)) else .bad
  | .exc C none _ => .exc C none h
  | .exc C (some q) _ => if q.2.pure then .exc C (some q) h else .bad
  | .bad => .bad) else .bad
theorem fresh_sp {np : Nat} {f : FN} {vs : List V} {Q : VK} {E : XK} (q : spN K np (freshF f) vs H Q E) : spN K np f vs H Q E := by
  obtain ⟨hl, P, F, m, ds, h, S, r, fin⟩ := q
  unfold freshF at fin
  by_cases hp : D.pureL ds = true
  · rw [if_pos hp] at fin
    refine ⟨hl, _, F, [], ds, [], S.hide, r.pureM hp, ?_⟩
    cases q : f ds [] with
    | ok d h' =>
      rw [q] at fin
      dsimp only at fin
      by_cases hd : h'.all aliveO = true
      · rw [if_pos hd] at fin
        intro v F' m' H' x S' rv
        have rv' := rv.sh (m := m)
        rw [S.len] at rv'
        exact fin v F' (m ++ m') H' ⟨x.s, List.prefix_append _ _⟩ (S.join x.s S' hd) rv'
      · rw [if_neg hd] at fin
        exact fin.elim
    | exc C p h' =>
      rw [q] at fin
      cases p with
      | none =>
        intro od F' m' H' x S' pd
        exact fin od F' m H' ⟨x.s, List.prefix_rfl⟩ (S.unhide x.s S') pd
      | some z =>
        dsimp only at fin
        by_cases hd : z.2.pure = true
        · rw [if_pos hd] at fin
          intro od F' m' H' x S' pd
          obtain ⟨a, v, e1, e2, e3⟩ := pd
          exact fin od F' m H' ⟨x.s, List.prefix_rfl⟩ (S.unhide x.s S') ⟨a, v, e1, e2, e3.pureM hd⟩
        · rw [if_neg hd] at fin
          exact fin.elim
    | bad => rw [q] at fin; exact fin
  · rw [if_neg hp] at fin
    exact fin.elim
end
theorem FnOk.fresh {P : Program} {w : World} {K : PySem.W.Frag} {mg : Str → Option Value} {base : Heap} {CX : CXT} {k : Nat} {f : Addr} {fd : FuncData} {ps : List Str} {g : FN} (F : FnOk P w K mg base CX k f fd ps (spN K ps.length g)) : FnOk P w K mg base CX k f fd ps (spN K ps.length (freshF g)) := L2.FnOk.imp F fun _ _ _ _ h => fresh_sp h
theorem Def.fresh {P : Program} {w : World} {K : PySem.W.Frag} {mg : Str → Option Value} {base : Heap} {CX : CXT} {k : Nat} {f : Addr} {ps : List Str} {dvs : List V} {g : FN} (d : Def P w K mg base CX k f ps dvs g) : Def P w K mg base CX k f ps dvs (freshF g) := let ⟨fd, dus, a, b, c⟩ := d.ex; ⟨⟨fd, dus, FnOk.fresh a, b, c⟩, d.kp⟩
end HR
set_option Elab.async false
set_option linter.all false
set_option maxRecDepth 100000
set_option maxHeartbeats 2000000
/-! while an exception is handled: the ends of walks, tuples taken apart, comprehensions over own lists, a def called in an except suite -/
set_option Elab.async false
set_option linter.all false
set_option maxRecDepth 100000
set_option maxHeartbeats 2000000
set_option Elab.async false
set_option linter.all false
set_option maxRecDepth 100000
set_option maxHeartbeats 2000000
namespace HR
open PySem L2 RZ PySem.Spec PyProof.Rows HotX
/-! ### defs called while an exception is handled -/
structure FnHot (P : Program) (w : World) (K : PySem.W.Frag) (mg : Str → Option Value) (base : Heap) (k : Nat) (f : Addr) (fd : FuncData) (ps : List Str) (sp : Sp) : Prop where
  len : ∀ vs H Q E, sp vs H Q E → vs.length = ps.length
  run : ∀ (A : Around) (outer : List Env) (s : Shared) (H : Hp) (args : Args) (us : List Value) (vs : List V) (Q : VK) (E : XK) (a : Addr) (ob : Obj) (u : HO) (ws : Array Value), L2H.RoomH k A → A.handled = some (.ref a) → H a = some (.frz ob u) → ob.data = .fields ws → ws[2]? = some .none →
    Env0 P w K mg base A outer s H → BindsTo s fd args (ps.zip us) → Vals vs us → sp vs H Q E → codeAny (model P w) A (.call (.ref f) args) (CR CX0 outer P w H s Q E) s
structure DefHot (P : Program) (w : World) (K : PySem.W.Frag) (mg : Str → Option Value) (base : Heap) (k : Nat) (f : Addr) (ps : List Str) (g : FN) : Prop where
  ex : ∃ fd, FnHot P w K mg base k f fd ps (spN K ps.length g) ∧ Binds K fd ps []
  kp : PySem.W.keepIn K (.ref f) = true
/-! ### try: body, except X as n: m = f(n) -/
/-! ### raise, where the context is known to be None -/
section
variable {P : Program} {w : World} {K : PySem.W.Frag} {mg : Str → Option Value} {base : Heap} {k j : Nat} {f : Addr} {fd : FuncData} {ps : List Str} {g : FN}
theorem FnHot.mono {sp : Sp} (F : FnHot P w K mg base j f fd ps sp) (h : j ≤ k) : FnHot P w K mg base k f fd ps sp := ⟨F.len, fun A out s H args us vs Q E a ob u ws hr => F.run A out s H args us vs Q E a ob u ws (hr.mono h)⟩
theorem DefHot.up (d : DefHot P w K mg base j f ps g) (h : j ≤ k) : DefHot P w K mg base k f ps g := let ⟨fd, a, b⟩ := d.ex; ⟨⟨fd, a.mono h, b⟩, d.kp⟩
end
end HR
set_option Elab.async false
set_option linter.all false
set_option maxRecDepth 20000
set_option exponentiation.threshold 5000
set_option Elab.async false
set_option linter.all false
set_option maxRecDepth 20000
set_option exponentiation.threshold 5000
namespace HR
open PySem PySem.Spec PyProof.Rows L2
/-! ### sorted(ints); list(range(a, b)) -/
def insI (x : Int) : List Int → List Int
  | [] => [x]
  | y :: ys => if x ≤ y then x :: y :: ys else y :: insI x ys
def sortI : List Int → List Int
  | [] => []
  | x :: xs => insI x (sortI xs)
def opSortI : D → OH → Res D := fun d h => match (lsqAt h d).bind intsOf with
  | some ns => .ok (.lst ((sortI ns).map .int)) h
  | none => .bad
section
variable {X : Cx} {W : WX}
/-- list(range(a, b)) -/
def sLstRg (fa fb : SE) : SE := fun e h => (fa e h).bind fun x h1 => (fb e h1).bind fun y h2 => match x, y with
  | .int i, .int j => if 0 ≤ i ∧ i ≤ 1000000 ∧ 0 ≤ j ∧ j ≤ 1000000 then .ok (.lst ((List.range (j - i).toNat).map fun k => .int (i + (k : Nat)))) h2 else .bad
  | _, _ => .bad
end
section
variable {PD : D → OH → Prop}
@[simp] theorem W_sortI (d : D) (h : OH) : (opSortI d h).W PD = match (lsqAt h d).bind intsOf with
  | some ns => PD (.lst ((sortI ns).map .int)) h
  | none => False := by
  unfold opSortI
  cases (lsqAt h d).bind intsOf <;> rfl
end
end HR
set_option Elab.async false
set_option linter.all false
set_option maxRecDepth 100000
namespace HR
open PySem
/-! ### list(zip(a, b)), two lists: on the heap -/
section
variable {prog : Program} {w : World} {A : Around}
/-- the pairs that lie in the list -/
def ZipAcc (z TO i1 i2 S B : Addr) (xs ys : Array Value) (acc : Array Value) (i : Nat) (h : Heap) : Prop :=
  acc.size = i ∧ ∀ (j : Nat) (v : Value), acc[j]? = some v → ∃ (T : Addr) (x y : Value), v = Value.ref T ∧ xs[j]? = some x ∧ ys[j]? = some y ∧ IsPair h T x y ∧ B ≤ T ∧ T ≠ z ∧ T ≠ TO ∧ T ≠ i1 ∧ T ≠ i2 ∧ T ≠ S ∧ ∀ k : Nat, acc[k]? = some v → k = j
variable {z TI TO i1 i2 l1 l2 S B : Addr} {xs ys : Array Value}
theorem ZipAcc.at {i : Nat} {acc : Array Value} {h h' : Heap} (q : ZipAcc z TO i1 i2 S B xs ys acc i h) (hk : ∀ b o, b ≠ z → b ≠ TO → b ≠ i1 → b ≠ i2 → b ≠ S → h.get? b = some o → h'.get? b = some o) : ZipAcc z TO i1 i2 S B xs ys acc i h' :=
  ⟨q.1, fun j v e => by
    obtain ⟨T, x, y, a1, a2, a3, a4, a5, a6, a7, a8, a9, a10, a11⟩ := q.2 j v e
    exact ⟨T, x, y, a1, a2, a3, hk _ _ a6 a7 a8 a9 a10 a4, a5, a6, a7, a8, a9, a10, a11⟩⟩
theorem ZipAcc.push {i : Nat} {acc : Array Value} {h : Heap} {T : Addr} {x y : Value} (q : ZipAcc z TO i1 i2 S B xs ys acc i h) (hx : xs[i]? = some x) (hy : ys[i]? = some y) (hp : IsPair h T x y) (hB : B ≤ T) (hT : T ≠ z ∧ T ≠ TO ∧ T ≠ i1 ∧ T ≠ i2 ∧ T ≠ S) (hn : ∀ k : Nat, acc[k]? ≠ some (Value.ref T)) : ZipAcc z TO i1 i2 S B xs ys (acc.push (.ref T)) (i + 1) h := by
  obtain ⟨q1, q2⟩ := q
  refine ⟨by rw [Array.size_push, q1], fun j v e => ?_⟩
  rw [Array.getElem?_push] at e
  split at e
  · rename_i ej
    cases e
    rw [q1] at ej
    subst ej
    refine ⟨T, x, y, rfl, hx, hy, hp, hB, hT.1, hT.2.1, hT.2.2.1, hT.2.2.2.1, hT.2.2.2.2, fun k ek => ?_⟩
    rw [Array.getElem?_push] at ek
    split at ek
    · rename_i e2
      rw [e2, q1]
    · exact absurd ek (hn k)
  · obtain ⟨T2, x2, y2, a1, a2, a3, a4, a5, a6, a7, a8, a9, a10, a11⟩ := q2 j v e
    refine ⟨T2, x2, y2, a1, a2, a3, a4, a5, a6, a7, a8, a9, a10, fun k ek => ?_⟩
    rw [Array.getElem?_push] at ek
    split at ek
    · cases ek
      exact absurd e (hn j)
    · exact a11 k ek
end
end HR
set_option Elab.async false
set_option linter.all false
set_option maxRecDepth 20000
set_option exponentiation.threshold 5000
set_option Elab.async false
set_option linter.all false
set_option maxRecDepth 20000
set_option exponentiation.threshold 5000
namespace HR
open PySem PySem.Spec PyProof.Rows L2
/-! ### list(zip(a, b)), as a value -/
def sLstZip (fa fb : SE) : SE := fun e h => (fa e h).bind fun x h1 => (fb e h1).bind fun y h2 => match lsqAt h2 x, lsqAt h2 y with
  | some xs, some ys => .ok (.lst ((xs.zip ys).map fun p => .tup [p.1, p.2])) h2
  | _, _ => .bad
section
variable {PD : D → OH → Prop}
@[simp] theorem W_lstZip (fa fb : SE) (e : Env') (h : OH) : (sLstZip fa fb e h).W PD = (fa e h).W fun x h1 => (fb e h1).W fun y h2 => match lsqAt h2 x, lsqAt h2 y with
  | some xs, some ys => PD (.lst ((xs.zip ys).map fun p => .tup [p.1, p.2])) h2
  | _, _ => False := by
  unfold sLstZip; rw [W_bind]; congr; funext d h1
  rw [W_bind]; congr; funext d2 h2
  cases lsqAt h2 d with
  | none => rfl
  | some xs => cases lsqAt h2 d2 <;> rfl
@[simp] theorem W_lstRg (fa fb : SE) (e : Env') (h : OH) : (sLstRg fa fb e h).W PD = (fa e h).W fun x h1 => (fb e h1).W fun y h2 => match x, y with
  | .int i, .int j => if 0 ≤ i ∧ i ≤ 1000000 ∧ 0 ≤ j ∧ j ≤ 1000000 then PD (.lst ((List.range (j - i).toNat).map fun k => .int (i + (k : Nat)))) h2 else False
  | _, _ => False := by
  unfold sLstRg; rw [W_bind]; congr; funext d h1
  rw [W_bind]; congr; funext d2 h2
  cases d <;> cases d2 <;> first | rfl | (dsimp only; split <;> rfl)
end
end HR
set_option Elab.async false
set_option linter.all false
set_option maxRecDepth 20000
set_option exponentiation.threshold 5000
set_option Elab.async false
set_option linter.all false
set_option maxRecDepth 20000
set_option exponentiation.threshold 5000
namespace HR
open PySem PySem.Spec PyProof.Rows L2
/-! ### sorted(triples of small ints) -/
abbrev T3 := Int × Int × Int
def B6 : Int := 1000000
def ns3 (p : T3) : List Int := [p.1, p.2.1, p.2.2]
def cd3 (p : T3) : Int := TS.code B6 (ns3 p)
def ok3 (p : T3) : Bool := decide (0 ≤ p.1 ∧ p.1 < B6 ∧ 0 ≤ p.2.1 ∧ p.2.1 < B6 ∧ 0 ≤ p.2.2 ∧ p.2.2 < B6)
def d3 (p : T3) : D := .tup [.int p.1, .int p.2.1, .int p.2.2]
def ins3 (x : T3) : List T3 → List T3
  | [] => [x]
  | y :: ys => if cd3 x ≤ cd3 y then x :: y :: ys else y :: ins3 x ys
def sort3 : List T3 → List T3
  | [] => []
  | x :: xs => ins3 x (sort3 xs)
def tripOf : D → Option T3
  | .tup [.int a, .int b, .int c] => some (a, b, c)
  | _ => none
def tripsOf : List D → Option (List T3)
  | [] => some []
  | x :: xs => match tripOf x, tripsOf xs with
    | some p, some ps => some (p :: ps)
    | _, _ => none
@[simp] theorem tripsOf_map (ps : List T3) : tripsOf (ps.map d3) = some ps := by
  induction ps with
  | nil => rfl
  | cons p ps ih => simp only [List.map_cons, tripsOf, ih]; rfl
def opSort3 : D → OH → Res D := fun d h => match (lsqAt h d).bind tripsOf with
  | some ts => if ts.all ok3 = true ∧ ts.length < 64 then .ok (.lst ((sort3 ts).map d3)) h else .bad
  | none => .bad
section
variable {PD : D → OH → Prop}
@[simp] theorem W_sort3 (d : D) (h : OH) : (opSort3 d h).W PD = match (lsqAt h d).bind tripsOf with
  | some ts => if ts.all ok3 = true ∧ ts.length < 64 then PD (.lst ((sort3 ts).map d3)) h else False
  | none => False := by
  unfold opSort3
  cases (lsqAt h d).bind tripsOf with
  | none => rfl
  | some ts => dsimp only; split <;> rfl
end
end HR
set_option Elab.async false
set_option linter.all false
set_option maxRecDepth 20000
set_option exponentiation.threshold 5000
namespace HR
open PySem PySem.Spec PyProof.Rows L2
/-! ### a[i], b[j] = x, y for own lists -/
section
variable {X : Cx} {W : WX}
def putL (o i : SE) (y : D) (k : SS) : SS := fun e h => (o e h).toS e fun x h2 => (i e h2).toS e fun kk h3 => match x, kk with
  | .ref n, .int j => (match h3[n]? with
    | some (.lst xs) => (match ixN xs.length j with
      | some q => k e (h3.set n (.lst (xs.set q y)))
      | none => .bad)
    | _ => .bad)
  | _, _ => .bad
def sSubL (o1 i1 o2 i2 v : SE) : SS := fun e h => (v e h).toS e fun y h1 => match y with
  | .tup [y1, y2] => putL o1 i1 y1 (putL o2 i2 y2 fun e h => .nx e h) e h1
  | _ => .bad
end
section
variable {N C B : Env' → OH → Prop} {R : D → OH → Prop}
@[simp] theorem SW_putL (o i : SE) (y : D) (k : SS) (e : Env') (h : OH) : (putL o i y k e h).W N C B R = (o e h).W fun x h2 => (i e h2).W fun kk h3 => match x, kk with
  | .ref n, .int j => lkL h3[n]? fun xs => lkS (ixN xs.length j) fun q => (k e (h3.set n (.lst (xs.set q y)))).W N C B R
  | _, _ => False := by
  unfold putL
  simp only [W_toS]
  congr; funext x h2; congr; funext kk h3
  cases x <;> cases kk <;> first | rfl | skip
  rename_i n j
  dsimp only
  cases h3[n]? with
  | none => rfl
  | some o => cases o with
    | lst xs => simp only [lkL_lst]; cases ixN xs.length j <;> rfl
    | _ => rfl
@[simp] theorem SW_subL (o1 i1 o2 i2 v : SE) (e : Env') (h : OH) : (sSubL o1 i1 o2 i2 v e h).W N C B R = (v e h).W fun y h1 => match y with
  | .tup [y1, y2] => (putL o1 i1 y1 (putL o2 i2 y2 fun e h => .nx e h) e h1).W N C B R
  | _ => False := by
  unfold sSubL
  simp only [W_toS]
  congr; funext y h1
  split <;> rfl
end
end HR
set_option Elab.async false
set_option linter.all false
set_option maxRecDepth 20000
set_option maxHeartbeats 1000000
/-! enumerate over an own list, which keeps its length meanwhile -/
namespace HR
open PySem L2 RZ
section
variable {X : Cx} {W : WX}
/-- j rounds are left of n -/
def forE (g : TF) (b : SS) (i n : Nat) : Nat → SS
  | 0 => fun e h => match h[i]? with
    | some (.lst ys) => if ys.length = n then .nx e h else .bad
    | _ => .bad
  | j + 1 => fun e h => match h[i]? with
    | some (.lst ys) => if ys.length = n then (match ys[n - (j + 1)]? with
      | some d => (match g (.tup [.int ((n - (j + 1) : Nat) : Int), d]) e h with
        | none => .bad
        | some e1 => (match b e1 h with
          | .nx e2 h2 => forE g b i n j e2 h2
          | .ct e2 h2 => forE g b i n j e2 h2
          | .bk e2 h2 => .nx e2 h2
          | r => r))
      | none => .bad) else .bad
    | _ => .bad
def sForE (f : SE) (g : TF) (b : SS) : SS := fun e h => (sRefL f e h).toS e fun i h1 => match h1[i]? with
  | some (.lst xs) => forE g b i xs.length xs.length e h1
  | _ => .bad
end
section
variable {N C B : Env' → OH → Prop} {R : D → OH → Prop}
@[simp] theorem SW_forE (f : SE) (g : TF) (b : SS) (e : Env') (h : OH) : (sForE f g b e h).W N C B R = (f e h).W fun d h1 => isR d fun i => lkO h1[i]? fun xs => (forE g b i xs.length xs.length e h1).W N C B R := by
  unfold sForE
  rw [W_toS, W_refL]
  congr; funext d h1; congr; funext i
  rcases h1[i]? with _ | o
  · rfl
  · cases o <;> rfl
end
end HR
set_option Elab.async false
set_option linter.all false
set_option maxRecDepth 20000
set_option maxHeartbeats 1000000
/-! d.get(k, x), k None too; range(a, b, c) with c above 0 -/
namespace HR
open PySem L2 RZ PySem.Spec PyProof.Rows
section
variable {X : Cx} {W : WX}
def sGet2 (fo fe ff : SE) : SE := fun e h => (fo e h).bind fun x h1 => match x with
  | .dct ks => (fe e h1).bind fun k h2 => (ff e h2).bind fun z h3 => match k with
    | .non => .ok z h3
    | k => (match keyD k with
      | some q => .ok ((getK ks q).getD z) h3
      | none => .bad)
  | _ => .bad
/-- range(a, b, c), c above 0 -/
def sRngP (a : SA) : SA := fun e h => (a e h).bind fun ds h1 => match ds with
  | [.int i, .int j, .int k] => if 0 ≤ i ∧ i ≤ 1000000 ∧ 0 ≤ j ∧ j ≤ 1000000 ∧ 0 < k ∧ k ≤ 1000 then .ok (rngS i k (if i < j then (j - i - 1) / k + 1 else 0).toNat) h1 else .bad
  | _ => .bad
end
section
variable {PD : D → OH → Prop} {PL : List D → OH → Prop}
@[simp] theorem W_get2 (fo fe ff : SE) (e : Env') (h : OH) : (sGet2 fo fe ff e h).W PD = (fo e h).W fun x h1 => match x with
  | .dct ks => (fe e h1).W fun k h2 => (ff e h2).W fun z h3 => match k with
    | .non => PD z h3
    | k => (match keyD k with
      | some q => PD ((getK ks q).getD z) h3
      | none => False)
  | _ => False := by
  unfold sGet2; rw [W_bind]; congr; funext x h1
  cases x <;> first | rfl | skip
  rename_i ks
  dsimp only
  rw [W_bind]; congr; funext k h2
  rw [W_bind]; congr; funext z h3
  cases k <;> rfl
@[simp] theorem W_rngP (f g k : SE) (e : Env') (h : OH) : (sRngP (sCons f (sCons g (sCons k sNil))) e h).W PL = (f e h).W fun x h1 => (g e h1).W fun y h2 => (k e h2).W fun z h3 => match x, y, z with
  | .int i, .int j, .int k => if 0 ≤ i ∧ i ≤ 1000000 ∧ 0 ≤ j ∧ j ≤ 1000000 ∧ 0 < k ∧ k ≤ 1000 then PL (rngS i k (if i < j then (j - i - 1) / k + 1 else 0).toNat) h3 else False
  | _, _, _ => False := by
  unfold sRngP
  simp only [sCons, sNil]
  cases f e h with
  | ok x h1 =>
    simp only [Res.bind_ok, W_ok]
    cases g e h1 with
    | ok y h2 =>
      simp only [Res.bind_ok, W_ok]
      cases k e h2 with
      | ok z h3 =>
        simp only [Res.bind_ok, W_ok]
        cases x <;> first | rfl | skip
        cases y <;> first | rfl | skip
        cases z <;> first | rfl | skip
        dsimp only
        split <;> rfl
      | _ => rfl
    | _ => rfl
  | _ => rfl
end
end HR
set_option Elab.async false
set_option linter.all false
set_option maxRecDepth 20000
set_option maxHeartbeats 1000000
/-! {k: list(v) for k, v in d.items()} of an own dict: the dict is locked meanwhile -/
set_option Elab.async false
set_option linter.all false
set_option maxRecDepth 20000
set_option maxHeartbeats 1000000
/-! sorted(d.items()) of an own dict with int keys in rising order, whose values are lists -/
namespace HR
namespace SI
open PySem PySem.W PySem.Calls PyProof.Rows PyProof.V PySem.Spec
def IPair (h : Heap) (v : Value) (i : Int) (c : Addr) : Prop := ∃ (a : Addr) (t : Tok), v = .ref a ∧ IsTup h a #[.int i t, .ref c]
def intOf : Option Value → Int
  | some (.int i _) => i
  | _ => 0
def keyN (h : Heap) (v : Value) : Int := intOf (DT.seqAt0 h (DT.refOf (some v)))
theorem IPair.key {h : Heap} {v : Value} {i : Int} {c : Addr} (x : IPair h v i c) : keyN h v = i := by
  obtain ⟨a, t, rfl, h1⟩ := x
  show intOf (DT.seqAt0 h a) = i
  rw [DT.seqAt0_of h1]
  rfl
end SI
open PySem PySem.Spec PyProof.Rows L2
end HR
set_option Elab.async false
set_option linter.all false
set_option maxRecDepth 20000
set_option maxHeartbeats 1000000
/-! sorted(d.items()) as a value -/
set_option Elab.async false
set_option linter.all false
set_option maxRecDepth 20000
set_option maxHeartbeats 1000000
/-! o.f, p.g, .. = a tuple, for own objects -/
set_option Elab.async false
set_option linter.all false
set_option maxRecDepth 20000
set_option maxHeartbeats 1000000
/-! name = {k: list(v) for k, v in d.items()} -/
set_option Elab.async false
set_option linter.all false
set_option maxRecDepth 20000
set_option maxHeartbeats 1000000
/-! own instances made with defaults; a default that is the empty tuple -/
set_option Elab.async false
set_option linter.all false
set_option maxRecDepth 20000
set_option maxHeartbeats 1000000
/-! C(k = v): an own instance made with one keyword argument -/
set_option Elab.async false
set_option linter.all false
set_option maxRecDepth 20000
set_option maxHeartbeats 1000000
/-! a, b, c = x, y, z -/
namespace HR
open PySem PySem.Spec PyProof.Rows L2
def sPar3 (i j l : Nat) (f : SA) : SS := fun e h => (f e h).toS e fun ds h1 => match ds with
  | [x, y, z] => .nx (((e.set i (some x)).set j (some y)).set l (some z)) h1
  | _ => .bad
section
variable {N C B : Env' → OH → Prop} {R : D → OH → Prop}
@[simp] theorem SW_par3 (i j l : Nat) (f : SA) (e : Env') (h : OH) : (sPar3 i j l f e h).W N C B R = (f e h).W fun ds h1 => match ds with
  | [x, y, z] => N (((e.set i (some x)).set j (some y)).set l (some z)) h1
  | _ => False := by
  unfold sPar3
  simp only [W_toS]
  congr; funext ds h1
  split <;> rfl
end
end HR
set_option Elab.async false
set_option linter.all false
set_option maxRecDepth 20000
set_option maxHeartbeats 1000000
/-! dict([pairs]) as an own dict -/
set_option Elab.async false
set_option linter.all false
set_option maxRecDepth 20000
set_option maxHeartbeats 1000000
/-! an own list is frozen, any other value stays -/
set_option Elab.async false
set_option linter.all false
set_option maxRecDepth 20000
set_option maxHeartbeats 1000000
/-! == of two own dicts, value by value -/
set_option Elab.async false
set_option linter.all false
set_option maxRecDepth 20000
set_option maxHeartbeats 1000000
/-! len(x) of an instance whose class has __len__ -/
set_option Elab.async false
set_option linter.all false
set_option maxRecDepth 20000
set_option maxHeartbeats 1000000
/-! x == y of two instances of a class with its own __eq__ -/
set_option Elab.async false
set_option linter.all false
set_option maxRecDepth 20000
set_option maxHeartbeats 1000000
/-! == of two tuples that hold own lists and own dicts -/
set_option Elab.async false
set_option linter.all false
set_option maxRecDepth 20000
set_option maxHeartbeats 1000000
/-! isinstance(x, C) for an own class C, x an instance of C or a value of a built-in type -/
namespace HR
open PySem PySem.Spec PyProof.Rows L2
def sIsO (C : String) (f : SE) : SE := fun e h => (f e h).bind fun d h1 => match insAt h1 d with
  | some p => if p.1 = C then .ok (.bl true) h1 else .bad
  | none => (match tyAt h1 d with
    | some t => if t ∈ tysB then .ok (.bl false) h1 else .bad
    | none => .bad)
section
variable {PD : D → OH → Prop}
@[simp] theorem W_sIsO (C : String) (f : SE) (e : Env') (h : OH) : (sIsO C f e h).W PD = (f e h).W fun d h1 => match insAt h1 d with
    | some p => if p.1 = C then PD (.bl true) h1 else False
    | none => (match tyAt h1 d with
      | some t => if t ∈ tysB then PD (.bl false) h1 else False
      | none => False) := by
  unfold sIsO
  rw [W_bind]
  congr; funext d h1
  cases insAt h1 d with
  | some p => dsimp only; split <;> rfl
  | none =>
    dsimp only
    cases tyAt h1 d with
    | none => rfl
    | some t => dsimp only; split <;> rfl
end
end HR
set_option Elab.async false
set_option linter.all false
set_option maxRecDepth 20000
set_option maxHeartbeats 1000000
/-! dict(d) of an own dict; [(k, list(m[f][k])) for k in m[f]]: the dict m[f] is locked meanwhile -/
set_option Elab.async false
set_option linter.all false
set_option maxRecDepth 20000
set_option maxHeartbeats 1000000
/-! x == y, x an instance of a class with its own __eq__, y one of them or a value of a built-in type; x != y by the same __eq__ -/
set_option Elab.async false
set_option linter.all false
set_option maxRecDepth 20000
namespace HR
open PySem L2
/-! ### methods that may raise -/
section
variable {X : Cx} {W : WX} {CX : CXT} {k : Nat} {f : Addr} {fd : FuncData} {ps : List Str} {g : FN}
/-- o.m(e, ..), the class written; what is raised goes out -/
def sMethX (C mt : String) (g : FN) (o : SE) (a : SA) : SE := fun e h => (o e h).bind fun x h1 => match insAt h1 x with
  | some q => if q.1 = C ∧ q.2.lookup mt = none then (a e h1).bind fun ys h2 => g (x :: ys) h2 else .bad
  | none => .bad
end
section
variable {PD : D → OH → Prop}
@[simp] theorem W_sMethX (K mt : String) (g : FN) (o : SE) (a : SA) (e : Env') (h : OH) : (sMethX K mt g o a e h).W PD = (o e h).W fun x h1 => lkS (insAt h1 x) fun q => q.1 = K ∧ hasNo q.2 mt ∧ (a e h1).W fun ys h2 => (g (x :: ys) h2).W PD := by
  unfold sMethX
  rw [W_bind]; congr; funext x h1
  cases insAt h1 x with
  | none => rfl
  | some q =>
    simp only [lkS_some]
    by_cases hz : q.1 = K ∧ q.2.lookup mt = none
    · have h1 : q.1 = K := hz.1
      have h2 : hasNo q.2 mt := hz.2
      rw [if_pos hz]
      simp [h1, h2]
    · rw [if_neg hz]
      exact propext ⟨fun z => z.elim, fun z => absurd ⟨z.1, z.2.1⟩ hz⟩
end
end HR
set_option Elab.async false
set_option linter.all false
set_option maxRecDepth 20000
set_option Elab.async false
set_option linter.all false
set_option maxRecDepth 100000
set_option maxHeartbeats 2000000
namespace HR
open PySem L2
/-! ### C(e, ..), what __init__ raises goes out -/
/-- C(e, ..): __init__ may raise -/
def sMakeX (C : String) (g : FN) (a : SA) : SE := fun e h => (a e h).bind fun ys h1 => match g (.ref h1.length :: ys) (h1 ++ [.ins C []]) with
  | .ok .non h2 => .ok (.ref h1.length) h2
  | .exc D p h2 => .exc D p h2
  | _ => .bad
section
variable {PD : D → OH → Prop}
@[simp] theorem W_sMakeX (C : String) (g : FN) (a : SA) (e : Env') (h : OH) : (sMakeX C g a e h).W PD = (a e h).W fun ys h1 => (g (.ref h1.length :: ys) (h1 ++ [.ins C []])).W fun d h2 => d = .non ∧ PD (.ref h1.length) h2 := by
  unfold sMakeX
  rw [W_bind]; congr; funext ys h1
  cases g (.ref h1.length :: ys) (h1 ++ [.ins C []]) with
  | ok d h2 => cases d <;> simp
  | exc D p h2 => rfl
  | bad => rfl
end
end HR
set_option Elab.async false
set_option linter.all false
set_option maxRecDepth 100000
set_option maxHeartbeats 2000000
set_option Elab.async false
set_option linter.all false
set_option maxRecDepth 100000
set_option maxHeartbeats 2000000
/-! a chain of three comparisons, xs.count(text), slices of texts, xs.index(x) of deep values, an except suite with a choice -/
set_option Elab.async false
set_option linter.all false
set_option maxRecDepth 100000
set_option maxHeartbeats 2000000
/-! min, max of a tuple of ints; str(None) -/
set_option Elab.async false
set_option linter.all false
set_option maxRecDepth 20000
set_option maxHeartbeats 1000000
/-! a dict that gets None as a key at the end: d[None] = v, then d[k], k a text or None -/
namespace HR
open PySem L2 RZ PySem.Spec PyProof.Rows
def leafK : Key → PySem.Leaf
  | .inl i => .num i
  | .inr x => .text x
theorem leafK_ne (k : Key) : leafK k ≠ .none := by cases k <;> simp [leafK]
/-- the dict at a: kvs and None: v -/
def hexN (P : Program) (w : World) (a : Addr) (kvs : List (Key × V)) (v : V) : HO := .ext fun hp => (a == sysModules) = false ∧ ∃ f : PySem.Leaf → Option Value, hp.MapOf (leafKind P w) a f ∧ (∀ k, RelO (valV kvs k) (f (leafK k))) ∧ RelO (some v) (f .none)
theorem leaf_is {k k' : Key} {v : Value} (h : keyIs k' v = true) : (PySem.Leaf.isOf (leafK k) v) = keyIs k v := by
  rcases keyIs_shape h with ⟨i, t, rfl, rfl⟩ | ⟨x, t, rfl, rfl⟩
  · cases k with
    | inl j =>
      show decide (i = j) = Value.isInt j (.int i t)
      by_cases e : i = j
      · subst e; simp [Value.isInt]
      · simp [Value.isInt, e]
        try (first | exact fun z => e z | exact fun z => e z.symm)
    | inr y => rfl
  · cases k with
    | inl j => rfl
    | inr y => rfl
theorem find_same {α : Type} {p q : α → Bool} : ∀ {l : List α}, (∀ e ∈ l, p e = q e) → l.find? p = l.find? q
  | [], _ => rfl
  | x :: l, h => by
    rw [List.find?_cons, List.find?_cons, h x List.mem_cons_self, find_same fun e he => h e (List.mem_cons_of_mem _ he)]
theorem mapOf_leaf {P : Program} {w : World} {h : Heap} {a : Addr} {vs : List (Key × Value)} (dd : h.DictOf (mixKind P w) a vs) : ∃ f, h.MapOf (leafKind P w) a f ∧ ∀ k, f (leafK k) = valueAt vs k := by
  obtain ⟨o, es, ep, h1, h2, h3, h4, hf⟩ := dd.mapOf
  refine ⟨findBy (leafKind P w).is es, ⟨o, es, ep, h1, h2, h3, fun e he => ?_, fun k => rfl⟩, fun k => ?_⟩
  · obtain ⟨k, q1, q2⟩ := h4 e he
    have q1' : keyIs k e.key = true := q1
    refine ⟨leafK k, (leaf_is q1').trans q1', q2.trans ?_⟩
    cases k <;> rfl
  · rw [← hf k]
    obtain ⟨l⟩ := es
    unfold findBy
    rw [List.find?_toArray, List.find?_toArray, find_same fun e he => ?_]
    obtain ⟨k', q1, _⟩ := h4 e (by simpa using he)
    exact leaf_is (show keyIs k' e.key = true from q1)
section
variable {X : Cx} {pins : List (Addr × Obj)} {σ : L2.St} {H : Hp} {s : Shared} {a : Addr} {kvs : List (Key × V)} {v : V} {r : Value} {A : Around} {E : Value → Shared → Prop}
theorem d_setNone {Q : Unit → Shared → Prop} (I : Inv X pins σ H s) (e : H a = some (.dK kvs)) (rv : RelV v r) (h : ∀ s', Inv X pins σ (upd H a (hexN X.prog X.w a kvs v)) s' → Q () s') : wpAny (model X.prog X.w) A (setItem (.ref a) .none r) Q E s := by
  obtain ⟨z, hd, vs, rel, dd⟩ := dk_of I.hok e
  obtain ⟨f, mf, hf⟩ := mapOf_leaf dd
  have sz : s.heap.DictLe a sizeLine := fun o es ep ho hdat => by
    obtain ⟨o', es', ep', h1, h2, h3, h4, h5, h6⟩ := dd
    rw [ho] at h1
    cases h1
    rw [hdat] at h3
    cases h3
    have := h5.length
    rw [← Array.length_toList, this, ← rel.length]
    exact z
  refine wpAny_setItem_of (knd := leafKind X.prog X.w) (k := PySem.Leaf.none) rfl mf (fun h' mf' hs => h _ ?_) sz
  have he : ∃ q, h'.get? a = some q := let ⟨q, _, _, hq, _⟩ := mf'; ⟨q, hq⟩
  refine d_write I (by rw [e]; exact True.intro) hs he ⟨⟨hd, _, mf', fun k => ?_, ?_⟩, he, ?_⟩
  · rw [if_neg (leafK_ne k), hf]
    exact rel.val k
  · rw [if_pos rfl]
    exact rv
  · rintro h1 h2 ⟨hd, f, ⟨o, es, ep, q1, q2⟩, q3⟩ k
    exact ⟨hd, f, ⟨o, es, ep, k _ q1, q2⟩, q3⟩
/-- what it holds at None, at a text or a number -/
def NAt (kvs : List (Key × V)) (v : V) (y r : V) : Prop := (y = .non ∧ r = v) ∨ ∃ k, y = kV k ∧ valV kvs k = some r
theorem d_getN {y z : V} {u : Value} {Q : Value → Shared → Prop} (I : Inv X pins σ H s) (e : Rd H a (hexN X.prog X.w a kvs v)) (g : NAt kvs v y z) (ry : RelV y u) (h : ∀ w' s', Inv X pins σ H s' → RelV z w' → Q w' s') : s.TypeIs (.ref a) "dict" ∧ wpAny (model X.prog X.w) A (getItem (.ref a) u) Q E s := by
  have o : ObjOk X.prog X.w H s.heap a (hexN X.prog X.w a kvs v) := rd_of I.hok e
  obtain ⟨⟨hd, f, mf, q1, q2⟩, _⟩ := o
  refine ⟨mf.typeIs, ?_⟩
  rcases g with ⟨rfl, rfl⟩ | ⟨k, rfl, l⟩
  · obtain rfl : u = Value.none := ry
    obtain ⟨w', hw, rw'⟩ := RelO.some_of q2
    exact wpAny_getItem_of (knd := leafKind X.prog X.w) (k := PySem.Leaf.none) rfl mf hw (h w' _ (I.tok _) rw')
  · obtain ⟨w', hw, rw'⟩ := RelO.some_of (v := z) (o := f (leafK k)) (by rw [← l]; exact q1 k)
    have ku : keyIs k u = true := kV_is (P := X.prog) (w := X.w) ry
    exact wpAny_getItem_of (knd := leafKind X.prog X.w) (k := leafK k) ((leaf_is ku).trans ku) mf hw (h w' _ (I.tok _) rw')
end
def tNGet (P : Program) (w : World) (td ty : TE) : TE := fun σ H Q => td σ H fun x H1 => ty σ H1 fun y H2 => ∃ a kvs v z, x = .ref a ∧ Rd H2 a (hexN P w a kvs v) ∧ NAt kvs v y z ∧ Q z H2
def sNPut (P : Program) (w : World) (td ty tv : TE) : TS := fun D σ H => tv σ H fun v H1 => td σ H1 fun x H2 => ty σ H2 fun y H3 => ∃ a kvs, x = .ref a ∧ y = .non ∧ H3 a = some (.dK kvs) ∧ D.nx σ (upd H3 a (hexN P w a kvs v))
section
variable {X : Cx} {W : WX} {o i value : Expr} {pos pos' : Pos} {td ty tv : TE}
theorem pe_nget (ho : PE X o td) (hi : PE X i ty) (hs : NoSl i) : PE X (.Subscript o i pos) (tNGet X.prog X.w td ty) := by
  refine ⟨fun pins s σ H Q I h => ?_⟩
  refine subD_of PySem.F.slot_dict_getitem.lookup hs (thn (ho.run pins s σ H _ I h) fun u s1 ⟨x, H1, I1, rx, q1⟩ => thn (hi.run pins s1 σ H1 _ I1 q1) fun iv s2 ⟨y, H2, I2, ry, a, kvs, v, z, ex, g, na, q2⟩ => ?_)
  subst ex
  obtain rfl : u = Value.ref a := rx
  exact d_getN I2 g na ry fun w' s3 I3 rw' => ⟨z, H2, I3, rw', q2⟩
theorem ps_nput (ho : PE X o td) (hi : PE X i ty) (hv : PE X value tv) (hs : swapsWith value (some (.Subscript o i pos')) pos.line X.env = pure false) : PS X (.Assign [.Subscript o i pos'] value pos) (sNPut X.prog X.w td ty tv) := by
  refine ⟨fun pins s σ H D I h => ?_⟩
  refine wpAny_Assign_Subscript (thn (hv.run pins s σ H _ I h) fun r s1 ⟨v, H1, I1, rv, q1⟩ => thn (ho.run pins s1 σ H1 _ I1 q1) fun u s2 ⟨x, H2, I2, rx, q2⟩ => thn (hi.run pins s2 σ H2 _ I2 q2) fun iv s3 ⟨y, H3, I3, ry, a, kvs, ex, ey, g, q3⟩ => ?_) hs
  subst ex ey
  obtain rfl : u = Value.ref a := rx
  obtain rfl : iv = Value.none := ry
  exact d_setNone I3 g rv fun s4 I4 => ⟨σ, _, I4, q3⟩
end
abbrev HexK := Addr → List (Key × V) → V → HO
open Classical in
noncomputable def opGetN (ψ : HexK) : D → D → OH → Res D := fun a b h => match a with
  | .ref n => (match h[n]? with
    | some (.nd φ ks d) => if φ = ψ then (match b with
      | .non => .ok d h
      | b => (match keyD b with
        | some k => (match getK ks k with
          | some z => .ok z h
          | none => .bad)
        | none => .bad)) else .bad
    | _ => .bad)
  | _ => .bad
def sPutN (ψ : HexK) (o i v : SE) : SS := fun e h => (v e h).toS e fun y h1 => (o e h1).toS e fun x h2 => (i e h2).toS e fun k h3 => match x, k with
  | .ref n, .non => (match h3[n]? with
    | some (.dct ks) => .nx e (h3.set n (.nd ψ ks y))
    | _ => .bad)
  | _, _ => .bad
section
variable {X : Cx} {W : WX}
theorem getN_h {P : Pins} {F : Hp} {m : List Addr} {h : OH} {H : Hp} {σ : L2.St} {Q : VK} {x y : V} {dx dy : D} (S : Sim X.K P F m h H) (r1 : Den X.K F m x dx) (r2 : Den X.K F m y dy) (fin : FinG X.K P W σ (Den X.K) Q F m (opGetN (hexN X.prog X.w) dx dy h)) :
    ∃ a kvs v z, x = .ref a ∧ Rd H a (hexN X.prog X.w a kvs v) ∧ NAt kvs v y z ∧ Q z H := by
  unfold opGetN at fin
  cases r1 with
  | @ref a n e1 =>
    obtain ⟨ob, k1, k2⟩ := S.own e1
    simp only [k1] at fin
    cases ob with
    | nd φ ks d =>
      dsimp only at fin
      by_cases hφ : φ = hexN X.prog X.w
      · rw [if_pos hφ] at fin
        subst hφ
        obtain ⟨kvs, v, h1, h2, h3, h4⟩ := k2
        have key : ∀ k, keyD dy = some k → ∀ z, getK ks k = some z → FinG X.K P W σ (Den X.K) Q F m (.ok z h) → ∃ a' kvs v z, V.ref a = .ref a' ∧ Rd H a' (hexN X.prog X.w a' kvs v) ∧ NAt kvs v y z ∧ Q z H := fun k ek z ez fin => by
          obtain ⟨u, q1, q2⟩ := denK_get h2 ez
          exact ⟨a, kvs, v, u, rfl, .inl h1, .inr ⟨k, keyD_den r2 ek, q1⟩, fin.ok S q2⟩
        cases r2 with
        | non => exact ⟨a, kvs, v, v, rfl, .inl h1, .inl ⟨rfl, rfl⟩, fin.ok S h3⟩
        | int i =>
          dsimp only [keyD] at fin
          cases ez : getK ks (.inl i) with
          | none => rw [ez] at fin; exact fin.bad_elim
          | some z => rw [ez] at fin; exact key _ rfl z ez fin
        | str x =>
          dsimp only [keyD] at fin
          cases ez : getK ks (.inr x) with
          | none => rw [ez] at fin; exact fin.bad_elim
          | some z => rw [ez] at fin; exact key _ rfl z ez fin
        | _ => exact fin.bad_elim
      · rw [if_neg hφ] at fin
        exact fin.bad_elim
    | _ => exact fin.bad_elim
  | _ => exact fin.bad_elim
theorem de_getN {a b : Expr} {pos : Pos} {fa fb : SE} (ha : DE X W a fa) (hb : DE X W b fb) (hs : NoSl b := by exact fun _ _ => rfl) : DE X W (.Subscript a b pos) (sBin (opGetN (hexN X.prog X.w)) fa fb) := PE.of (pe_nget ha hb hs) fun σ H Q => by
  rintro ⟨P, F, m, e, h, S, E, fin⟩
  refine rd_seq S E fin fun F1 m1 h1 H1 x dx x1 S1 E1 r1 fin1 => ?_
  refine rd_seq S1 E1 fin1 fun F2 m2 h2 H2 y dy x2 S2 E2 r2 fin2 => ?_
  exact getN_h S2 (r1.mono x2) r2 fin2
theorem ds_putN {o i a : Expr} {fo fi fa : SE} {pos pos' : Pos} (ho : DE X W o fo) (hi : DE X W i fi) (ha : DE X W a fa) (hs : swapsWith a (some (.Subscript o i pos')) pos.line X.env = pure false := by rfl) :
    DS X W (.Assign [.Subscript o i pos'] a pos) (sPutN (hexN X.prog X.w) fo fi fa) := PS.of (ps_nput ho hi ha hs) fun Dn σ H => by
  rintro ⟨P, F, m, e, h, S, E, fin⟩
  refine st_seq S E fin fun F1 m1 h1 H1 y dy x1 S1 E1 ry fin1 => ?_
  refine st_seq S1 E1 fin1 fun F2 m2 h2 H2 x dx x2 S2 E2 rx fin2 => ?_
  refine st_seq S2 E2 fin2 fun F3 m3 h3 H3 z dz x3 S3 E3 rz fin3 => ?_
  cases rx with
  | @ref b n e1 =>
    cases rz with
    | non =>
      have e2 := pre_get x3.p e1
      obtain ⟨ob, k1, k2⟩ := S3.own e2
      simp only [k1] at fin3
      cases ob with
      | dct ks =>
        dsimp only at fin3
        obtain ⟨kvs, k3, k4, k5⟩ := k2
        exact ⟨b, kvs, rfl, rfl, k3, fin3 σ F3 m3 _ .refl (S3.write e2 k1 k5 ⟨kvs, y, upd_same, k4, ry.mono (x2.trans x3), k5⟩) E3⟩
      | _ => exact fin3.elim
    | _ => exact fin3.elim
  | _ => exact fin3.elim
/-! ### defs as values: (f, g), and a call of the name that holds one of them -/
end
section
variable {PD : D → OH → Prop} {N C B : Env' → OH → Prop} {R : D → OH → Prop}
theorem W_getN0 {ψ : HexK} {n : Nat} {ks : List (Key × D)} {d : D} {h : OH} (e : h[n]? = some (.nd ψ ks d)) : (opGetN ψ (.ref n) .non h).W PD = PD d h := by
  simp only [opGetN, e, if_true]
  rfl
theorem W_getN1 {ψ : HexK} {n : Nat} {ks : List (Key × D)} {d z : D} {x : Str} {h : OH} (e : h[n]? = some (.nd ψ ks d)) (g : getK ks (.inr x) = some z) : (opGetN ψ (.ref n) (.str x) h).W PD = PD z h := by
  simp only [opGetN, e, if_true, keyD, g]
  rfl
def isNon (k : D) (P : Prop) : Prop := match k with
  | .non => P
  | _ => False
@[simp] theorem isNon_non (P : Prop) : isNon .non P = P := rfl
@[simp] theorem SW_putN (ψ : HexK) (o i v : SE) (e : Env') (h : OH) : (sPutN ψ o i v e h).W N C B R = (v e h).W fun y h1 => (o e h1).W fun x h2 => (i e h2).W fun k h3 => isR x fun n => isNon k (lkD h3[n]? fun ks => N e (h3.set n (.nd ψ ks y))) := by
  unfold sPutN
  simp only [W_toS]
  congr; funext y h1; congr; funext x h2; congr; funext k h3
  cases x with
  | ref n =>
    simp only [isR_ref]
    cases k with
    | non =>
      simp only [isNon_non]
      cases h3[n]? with
      | none => rfl
      | some ob => cases ob <;> rfl
    | _ => rfl
  | _ => rfl
end
/-! ### x *= e -/
section
variable {X : Cx} {W : WX}
def ipM : TIp := fun x y H Q => ∃ i j, x = .int i ∧ y = .int j ∧ (CMul i j ∨ CMulW i j) ∧ Q (.int (i * j)) H
theorem ip_mulM : PIp X .Mult ipM := by
  intro pins s σ H x y v u Q I r1 r2 h
  obtain ⟨i, j, e1, e2, c, q⟩ := h
  subst e1; subst e2
  obtain ⟨t, rfl⟩ := r1
  obtain ⟨t', rfl⟩ := r2
  refine imul_int ⟨.int _, H, I.tok _, ⟨_, rfl⟩, q⟩ ?_
  rcases c with c | c
  · exact c.ok
  · exact c.ok
def opMulI : D → D → OH → Res D
  | .int i, .int j, h => if mulOk i j then .ok (.int (i * j)) h else .bad
  | _, _, _ => .bad
theorem ds_augM (i : Nat) {x : Str} {a : Expr} {f : SE} {pos pos' : Pos} (hN : X.N.Nodup) (ha : DE X W a f) (hi : X.N[i]? = some x := by rfl) (hx : Loc X.env.scope x := by first | exact Or.inl rfl | exact Or.inr rfl)
    (hf : X.fn x = true ∨ X.env.scope.names.lookup x = some .local := by first | exact .inl rfl | exact .inr rfl | assumption) : DS X W (.AugAssign (.Name x pos') .Mult a pos) (sAug i opMulI f) := PS.of (ps_aug hN hi hx ha ip_mulM hf) fun Dn σ H => by
  rintro ⟨P, F, m, e, h, S, E, fin⟩
  unfold sAug at fin
  cases q : e[i]? with
  | none => rw [q] at fin; exact fin.elim
  | some o =>
    cases o with
    | none => rw [q] at fin; exact fin.elim
    | some d =>
      rw [q] at fin
      obtain ⟨v, e1, r⟩ := E.at_ i d q
      refine ⟨v, e1, st_seq S E fin fun F1 m1 h1 H1 w d2 x S1 E1 r2 fin1 => ?_⟩
      cases r with
      | int n =>
        cases r2 with
        | int n2 =>
          simp only [opMulI] at fin1
          by_cases hm : mulOk n n2 = true
          · rw [if_pos hm] at fin1
            exact ⟨n, n2, rfl, rfl, mulOk_c hm, fin1 _ F1 m1 H1 .refl S1 (E1.set i (.int _))⟩
          · rw [if_neg hm] at fin1
            exact fin1.elim
        | _ => exact fin1.elim
      | _ => exact fin1.elim
end
section
variable {PD : D → OH → Prop}
@[simp] theorem W_mulII (i j : Int) (h : OH) : (opMulI (.int i) (.int j) h).W PD = if mulOk i j then PD (.int (i * j)) h else False := by
  simp only [opMulI]
  split <;> rfl
end
/-! ### a call of a name that holds one of some defs -/
end HR
set_option Elab.async false
set_option linter.all false
set_option maxRecDepth 20000
set_option maxHeartbeats 1000000
/-! an own dict that is not changed any more: walked over by keys, d[k], list(d.values()) -/
set_option Elab.async false
set_option linter.all false
/-! the plain functions -/
namespace HR
open PySem L2
namespace Sh
/-- is_integer -/
def is_integer_b : SS := (sSeq (sIfS (sOr (sNot (sTest (sIsi ["int"] (sVar 0)))) (sTest (sIsi ["bool"] (sVar 0)))) (sRet (sC (.bl false))) sNext) (sRet (sAndV (sBin opGe (sVar 0) (sVar 1)) (sOrV (sBin (opIs false) (sVar 2) (sC .non)) (sBin opLe (sVar 0) (sVar 2))))))
def is_integer : FN := fnOf 3 is_integer_b
/-- is_sequence -/
def is_sequence_b : SS := (sRet (sIsi ["list", "tuple"] (sVar 0)))
def is_sequence : FN := fnOf 1 is_sequence_b
/-- is_name -/
def is_name_b : SS := (sRet (sAndV (sIsi ["str"] (sVar 0)) (sAndV (sChain opLe opLe (sC (.int 1)) (sCall bLen (sCons (sVar 0) sNil)) (sC (.int (8)))) (sCall (b1 opAll) (sCons (sLc false (sIt (sVar 0)) (gN 1) sYes (sBin (opInS false) (sVar 1) (sC (.str "abcdefghijklmnopqrstuvwxyz"))) [1]) sNil)))))
def is_name : FN := fnOf 2 is_name_b
/-- is_talk -/
def is_talk_b : SS := (sRet (sAndV (sCall (withD [] (pureF Sh.is_sequence)) (sCons (sVar 0) sNil)) (sAndV (sBin (opEq false) (sCall bLen (sCons (sVar 0) sNil)) (sC (.int 2))) (sCall (b1 opAll) (sCons (sLc false (sIt (sVar 0)) (gN 1) sYes (sCall (withD [] (pureF Sh.is_integer)) (sCons (sVar 1) (sCons (sC (.int 1)) (sCons (sC (.int (1000000000000000000000000000000))) sNil)))) [1]) sNil)))))
def is_talk : FN := fnOf 2 is_talk_b
/-- are_talks -/
def are_talks_b : SS := (sRet (sAndV (sCall (withD [] (pureF Sh.is_sequence)) (sCons (sVar 0) sNil)) (sAndV (sChain opLe opLe (sVar 1) (sCall bLen (sCons (sVar 0) sNil)) (sC (.int (8)))) (sCall (b1 opAll) (sCons (sLc false (sIt (sVar 0)) (gN 2) sYes (sCall (withD [] (pureF Sh.is_talk)) (sCons (sVar 2) sNil)) [2]) sNil)))))
def are_talks : FN := fnOf 3 are_talks_b
/-- is_talker -/
def is_talker_b : SS := (sSeq (sIfS (sOr (sNot (sTest (sCall (withD [] (pureF Sh.is_sequence)) (sCons (sVar 0) sNil)))) (sOr (sTest (sBin (opEq true) (sCall bLen (sCons (sVar 0) sNil)) (sC (.int 4)))) (sNot (sTest (sCall (withD [] (pureF Sh.is_name)) (sCons (sBin opIx (sVar 0) (sC (.int 0))) sNil)))))) (sRet (sC (.bl false))) sNext) (sRet (sAndV (sCall (withD [] (pureF Sh.is_integer)) (sCons (sBin opIx (sVar 0) (sC (.int 1))) (sCons (sC (.int 1)) (sCons (sC (.int (10))) sNil)))) (sAndV (sCall (withD [] (pureF Sh.are_talks)) (sCons (sBin opIx (sVar 0) (sC (.int 2))) (sCons (sC (.int 0)) sNil))) (sCall (withD [] (pureF Sh.are_talks)) (sCons (sBin opIx (sVar 0) (sC (.int 3))) (sCons (sC (.int 1)) sNil)))))))
def is_talker : FN := fnOf 1 is_talker_b
/-- is_hall -/
def is_hall_b : SS := (sSeq (sIfS (sOr (sNot (sTest (sCall (withD [] (pureF Sh.is_sequence)) (sCons (sVar 0) sNil)))) (sOr (sTest (sBin opGt (sCall bLen (sCons (sVar 0) sNil)) (sC (.int (10))))) (sNot (sTest (sCall (b1 opAll) (sCons (sLc false (sIt (sVar 0)) (gN 1) sYes (sCall (withD [] (pureF Sh.is_talker)) (sCons (sVar 1) sNil)) [1]) sNil)))))) (sRet (sC (.bl false))) sNext) (sRet (sBin (opEq false) (sLenSet (sLc false (sIt (sVar 0)) (gN 1) sYes (sBin opIx (sVar 1) (sC (.int 0))) [1])) (sCall bLen (sCons (sVar 0) sNil)))))
def is_hall : FN := fnOf 2 is_hall_b
/-- running_sums -/
def running_sums_b : SS := (sSeq (sSet 1 (sLstO (sCons (sC (.int 0)) sNil))) (sSeq (sFor (sIt (sVar 0)) (gN 2) (sExpr (sMtO gAppend (sVar 1) (sCons (sBin opAdd (sBin opIx (sVar 1) (sUn opNeg (sC (.int 1)))) (sVar 2)) sNil)))) (sRet (frzE (sVar 1)))))
def running_sums : FN := fnOf 3 running_sums_b
/-- Schedule.__init__ -/
def Schedule_init_b : SS := (sSeq (sFldS "Schedule" "prefix" (sVar 0) (sLc false (sIt (sVar 1)) (gN 3) sYes (sCall (b1 opTuple) (sCons (sVar 3) sNil)) [3])) (sSeq (sFldS "Schedule" "cycle" (sVar 0) (sLc false (sIt (sVar 2)) (gN 3) sYes (sCall (b1 opTuple) (sCons (sVar 3) sNil)) [3])) (sSeq (sFldS "Schedule" "prefix_silences" (sVar 0) (sCall (withD [] (pureF Sh.running_sums)) (sCons (sLc false (sIt (sUn (opFld "prefix") (sVar 0))) (gN 3) sYes (sBin opIx (sVar 3) (sC (.int 0))) [3]) sNil))) (sSeq (sFldS "Schedule" "prefix_lengths" (sVar 0) (sCall (withD [] (pureF Sh.running_sums)) (sCons (sLc false (sIt (sUn (opFld "prefix") (sVar 0))) (gN 3) sYes (sBin opIx (sVar 3) (sC (.int 1))) [3]) sNil))) (sSeq (sFldS "Schedule" "cycle_silences" (sVar 0) (sCall (withD [] (pureF Sh.running_sums)) (sCons (sLc false (sIt (sUn (opFld "cycle") (sVar 0))) (gN 3) sYes (sBin opIx (sVar 3) (sC (.int 0))) [3]) sNil))) (sFldS "Schedule" "cycle_lengths" (sVar 0) (sCall (withD [] (pureF Sh.running_sums)) (sCons (sLc false (sIt (sUn (opFld "cycle") (sVar 0))) (gN 3) sYes (sBin opIx (sVar 3) (sC (.int 1))) [3]) sNil))))))))
def Schedule_init : FN := fnOf 4 Schedule_init_b
/-- Schedule.nth_talk -/
def Schedule_nth_talk_b : SS := (sSeq (sIfS (sTest (sBin opLt (sVar 1) (sCall bLen (sCons (sUn (opFld "prefix") (sVar 0)) sNil)))) (sRet (sBin opIx (sUn (opFld "prefix") (sVar 0)) (sVar 1))) sNext) (sRet (sBin opIx (sUn (opFld "cycle") (sVar 0)) (sBin opMod (sBin opSub (sVar 1) (sCall bLen (sCons (sUn (opFld "prefix") (sVar 0)) sNil))) (sCall bLen (sCons (sUn (opFld "cycle") (sVar 0)) sNil))))))
def Schedule_nth_talk : FN := fnOf 2 Schedule_nth_talk_b
/-- Schedule.sum_of_first -/
def Schedule_sum_of_first_b : SS := (sSeq (sIfS (sTest (sBin opLe (sVar 1) (sCall bLen (sCons (sUn (opFld "prefix") (sVar 0)) sNil)))) (sRet (sBin opIx (sVar 2) (sVar 1))) sNext) (sSeq (sAsg (gT 2 (gCs (gN 4) (gCs (gN 5) gNl))) (sCall bDivmod (sCons (sBin opSub (sVar 1) (sCall bLen (sCons (sUn (opFld "prefix") (sVar 0)) sNil))) (sCons (sCall bLen (sCons (sUn (opFld "cycle") (sVar 0)) sNil)) sNil)))) (sRet (sBin opAdd (sBin opAdd (sBin opIx (sVar 2) (sUn opNeg (sC (.int 1)))) (sBin opMul (sVar 4) (sBin opIx (sVar 3) (sUn opNeg (sC (.int 1)))))) (sBin opIx (sVar 3) (sVar 5))))))
def Schedule_sum_of_first : FN := fnOf 6 Schedule_sum_of_first_b
/-- Schedule.nth_ready -/
def Schedule_nth_ready_b : SS := (sRet (sMeth "Schedule" "sum_of_first" (pureF Sh.Schedule_sum_of_first) (sVar 0) (sCons (sBin opAdd (sVar 1) (sC (.int 1))) (sCons (sUn (opFld "prefix_silences") (sVar 0)) (sCons (sUn (opFld "cycle_silences") (sVar 0)) sNil)))))
def Schedule_nth_ready : FN := fnOf 2 Schedule_nth_ready_b
/-- Member.__init__ -/
def Member_init_b : SS := (sSeq (sFldS "Member" "name" (sVar 0) (sBin opIx (sVar 1) (sC (.int 0)))) (sSeq (sFldS "Member" "rank" (sVar 0) (sBin opIx (sVar 1) (sC (.int 1)))) (sFldS "Member" "schedule" (sVar 0) (sMakeP "Schedule" Sh.Schedule_init (sCons (sBin opIx (sVar 1) (sC (.int 2))) (sCons (sBin opIx (sVar 1) (sC (.int 3))) sNil))))))
def Member_init : FN := fnOf 2 Member_init_b
/-- checked_hall -/
def checked_hall_b : SS := (sSeq (sIfS (sNot (sTest (sCall (withD [] (pureF Sh.is_hall)) (sCons (sVar 0) sNil)))) (sRaise "InvalidHall") sNext) (sRet (sLc false (sIt (sVar 0)) (gN 1) sYes (sMakeP "Member" Sh.Member_init (sCons (sVar 1) sNil)) [1])))
def checked_hall : FN := fnOf 2 checked_hall_b
/-- Schedule.count_ready -/
def Schedule_count_ready_b : SS := (sSeq (sIfS (sTest (sBin opLt (sVar 1) (sBin opIx (sUn (opFld "prefix_silences") (sVar 0)) (sUn opNeg (sC (.int 1)))))) (sRet (sCall bLen (sCons (sLc false (sIt (sCut false (sUn (opFld "prefix_silences") (sVar 0)) (sPart (sC (.int 1))) sNoPart)) (gN 2) (sTest (sBin opLe (sVar 2) (sVar 1))) (sVar 2) [2]) sNil))) sNext) (sSeq (sAsg (gT 2 (gCs (gN 3) (gCs (gN 4) gNl))) (sCall bDivmod (sCons (sBin opSub (sVar 1) (sBin opIx (sUn (opFld "prefix_silences") (sVar 0)) (sUn opNeg (sC (.int 1))))) (sCons (sBin opIx (sUn (opFld "cycle_silences") (sVar 0)) (sUn opNeg (sC (.int 1)))) sNil)))) (sSeq (sSet 5 (sBin opAdd (sCall bLen (sCons (sUn (opFld "prefix") (sVar 0)) sNil)) (sBin opMul (sVar 3) (sCall bLen (sCons (sUn (opFld "cycle") (sVar 0)) sNil))))) (sRet (sBin opAdd (sVar 5) (sCall bLen (sCons (sLc false (sIt (sCut false (sUn (opFld "cycle_silences") (sVar 0)) (sPart (sC (.int 1))) sNoPart)) (gN 2) (sTest (sBin opLe (sVar 2) (sVar 4))) (sVar 2) [2]) sNil)))))))
def Schedule_count_ready : FN := fnOf 6 Schedule_count_ready_b
/-- Schedule.length_ready -/
def Schedule_length_ready_b : SS := (sRet (sMeth "Schedule" "sum_of_first" (pureF Sh.Schedule_sum_of_first) (sVar 0) (sCons (sMeth "Schedule" "count_ready" (pureF Sh.Schedule_count_ready) (sVar 0) (sCons (sVar 1) sNil)) (sCons (sUn (opFld "prefix_lengths") (sVar 0)) (sCons (sUn (opFld "cycle_lengths") (sVar 0)) sNil)))))
def Schedule_length_ready : FN := fnOf 2 Schedule_length_ready_b
/-- rank_length -/
def rank_length_b : SS := (sRet (sCall (b1 opSum) (sCons (sLc false (sIt (sVar 0)) (gN 3) (sTest (sBin (opEq false) (sUn (opFld "rank") (sVar 3)) (sVar 1))) (sMeth "Schedule" "length_ready" (pureF Sh.Schedule_length_ready) (sUn (opFld "schedule") (sVar 3)) (sCons (sVar 2) sNil)) [3]) sNil)))
def rank_length : FN := fnOf 4 rank_length_b
/-- left_index -/
def left_index_b : SS := (sRet (sBin opAdd (sVar 2) (sCall (withD [] (pureF Sh.rank_length)) (sCons (sVar 0) (sCons (sVar 1) (sCons (sVar 2) sNil))))))
def left_index : FN := fnOf 3 left_index_b
/-- tick_of -/
def tick_of_b : SS := (sSeq (sSet 3 (sVar 2)) (sSeq (sFor (sRngN (sCons (sBin opSub (sVar 1) (sC (.int 1))) (sCons (sC (.int 0)) (sCons (sUn opNeg (sC (.int 1))) sNil)))) (gN 4) (sSet 3 (sCall (withD [] (pureF Sh.left_index)) (sCons (sVar 0) (sCons (sVar 4) (sCons (sVar 3) sNil)))))) (sRet (sVar 3))))
def tick_of : FN := fnOf 5 tick_of_b
/-- run_of -/
def run_of_b : SS := (sSeq (sSet 3 (sLstO sNil)) (sSeq (sFor (sIt (sVar 0)) (gN 4) (sSeq (sSet 5 (sMeth "Schedule" "count_ready" (pureF Sh.Schedule_count_ready) (sUn (opFld "schedule") (sVar 4)) (sCons (sVar 2) sNil))) (sIfS (sAnd (sTest (sBin (opEq false) (sUn (opFld "rank") (sVar 4)) (sVar 1))) (sAnd (sTest (sBin opGt (sVar 5) (sC (.int 0)))) (sTest (sBin (opEq false) (sMeth "Schedule" "nth_ready" (pureF Sh.Schedule_nth_ready) (sUn (opFld "schedule") (sVar 4)) (sCons (sBin opSub (sVar 5) (sC (.int 1))) sNil)) (sVar 2))))) (sExpr (sMtO gAppend (sVar 3) (sCons (sTup (sCons (sVar 4) (sCons (sBin opSub (sVar 5) (sC (.int 1))) (sCons (sBin opIx (sMeth "Schedule" "nth_talk" (pureF Sh.Schedule_nth_talk) (sUn (opFld "schedule") (sVar 4)) (sCons (sBin opSub (sVar 5) (sC (.int 1))) sNil)) (sC (.int 1))) sNil)))) sNil))) sNext))) (sRet (frzE (sVar 3)))))
def run_of : FN := fnOf 6 run_of_b
/-- _law_reel -/
def l_reel_b : SS := (sSeq (sSet 1 (sBin opPow (sC (.int 11)) (sC (.int 36)))) (sSeq (sFor (sIt (sCut false (sVar 0) sNoPart (sPart (sC (.int 63))))) (gN 2) (sSet 1 (sBin opMod (sBin opAdd (sBin opAdd (sBin opMul (sVar 1) (sVar 1)) (sBin opMod (sVar 2) (sC (.int 1000000000000000003)))) (sC (.int 29))) (sBin opSub (sBin opMul (sBin opPow (sC (.int 2)) (sC (.int 64))) (sBin opPow (sC (.int 2)) (sC (.int 63)))) (sC (.int 1)))))) (sSeq (sSet 3 (sLc false (sIt (sCut false (sVar 0) sNoPart (sPart (sC (.int 63))))) (gN 2) (sTest (sBin opGe (sVar 2) (sBin opPow (sC (.int 10)) (sC (.int 18))))) (sBin opSub (sVar 2) (sBin opPow (sC (.int 10)) (sC (.int 18)))) [2])) (sRet (sLstO (sCons (sVar 3) (sCons (sBin opAdd (sLc false (sIt (sCut false (sVar 0) sNoPart (sPart (sC (.int 63))))) (gN 2) sYes (sBin opMod (sVar 2) (sC (.int 1000003))) [2]) (sLst (sCons (sC (.int 57)) sNil))) (sCons (sC (.int 0)) (sCons (sVar 1) sNil)))))))))
def l_reel : FN := fnOf 4 l_reel_b
/-- _law_draw -/
def l_draw_1_b : SS := (sSeq (sIfS (sTest (sBin (opNil true) (sBin opIx (sVar 0) (sC (.int 0))) (sLst sNil))) (sSeq (sSet 2 (sBin opIx (sBin opIx (sVar 0) (sC (.int 0))) (sC (.int 0)))) (sSeq (sIxS (sVar 0) (sC (.int 0)) (sBin opAdd (sBin opMul (sLst (sCons (sBin opDiv (sVar 2) (sVar 1)) sNil)) (sCall (b1 opInt) (sCons (sBin opGe (sVar 2) (sVar 1)) sNil))) (sCut false (sBin opIx (sVar 0) (sC (.int 0))) (sPart (sC (.int 1))) sNoPart))) (sRet (sBin opMod (sVar 2) (sVar 1))))) sNext) (sSeq (sIxS (sVar 0) (sC (.int 2)) (sBin opAdd (sBin opIx (sVar 0) (sC (.int 2))) (sC (.int 1)))) (sSeq (sSet 3 (sBin opIx (sBin opIx (sVar 0) (sC (.int 1))) (sBin opMod (sBin opIx (sVar 0) (sC (.int 2))) (sCall bLen (sCons (sBin opIx (sVar 0) (sC (.int 1))) sNil))))) (sSeq (sSet 4 (sBin opAdd (sBin opAdd (sBin opMul (sBin opIx (sVar 0) (sC (.int 3))) (sBin opIx (sVar 0) (sC (.int 3)))) (sBin opMul (sBin opAdd (sVar 3) (sC (.int 5))) (sC (.int 92821)))) (sBin opMul (sBin opIx (sVar 0) (sC (.int 2))) (sC (.int 1000039))))) (sSeq (sIxS (sVar 0) (sC (.int 3)) (sBin opMod (sVar 4) (sBin opSub (sBin opMul (sBin opPow (sC (.int 2)) (sC (.int 64))) (sBin opPow (sC (.int 2)) (sC (.int 63)))) (sC (.int 1))))) (sRet (sBin opMod (sBin opDiv (sBin opIx (sVar 0) (sC (.int 3))) (sBin opPow (sC (.int 2)) (sC (.int 41)))) (sVar 1))))))))
def l_draw_1 : FN := fnOf 5 l_draw_1_b
/-- _law_talks -/
def l_talks_1_b : SS := (sRet (sLc false (sRng1 (sVar 1)) (gN 3) sYes (sTup (sCons (sBin opAdd (sC (.int 1)) (sCall (withD [] Sh.l_draw_1) (sCons (sVar 0) (sCons (sVar 2) sNil)))) (sCons (sBin opAdd (sC (.int 1)) (sCall (withD [] Sh.l_draw_1) (sCons (sVar 0) (sCons (sVar 2) sNil)))) sNil))) [3]))
def l_talks_1 : FN := fnOf 4 l_talks_1_b
/-- _law_hall -/
def l_hall_1_b : SS := (sSeq (sSet 4 (sLstO (sCons (sC (.str "a")) (sCons (sC (.str "b")) (sCons (sC (.str "ab")) (sCons (sC (.str "ba")) (sCons (sC (.str "zz")) (sCons (sC (.str "z")) (sCons (sC (.str "abcdefgh")) (sCons (sC (.str "m")) (sCons (sC (.str "q")) (sCons (sC (.str "aa")) sNil)))))))))))) (sSeq (sSet 5 (sLstO sNil)) (sSeq (sFor (sRng1 (sCall (withD [] Sh.l_draw_1) (sCons (sVar 0) (sCons (sBin opAdd (sVar 1) (sC (.int 1))) sNil)))) (gN 6) (sSeq (sSet 7 (sBin opIx (sLst (sCons (sC (.int 0)) (sCons (sC (.int 1)) (sCons (sCall (withD [] Sh.l_draw_1) (sCons (sVar 0) (sCons (sC (.int 4)) sNil))) (sCons (sCall (withD [] Sh.l_draw_1) (sCons (sVar 0) (sCons (sC (.int 9)) sNil))) sNil))))) (sCall (withD [] Sh.l_draw_1) (sCons (sVar 0) (sCons (sC (.int 4)) sNil))))) (sSeq (sSet 8 (sCall (withD [] Sh.l_talks_1) (sCons (sVar 0) (sCons (sVar 7) (sCons (sVar 3) sNil))))) (sSeq (sSet 9 (sBin opIx (sLst (sCons (sC (.int 1)) (sCons (sC (.int 2)) (sCons (sBin opAdd (sC (.int 1)) (sCall (withD [] Sh.l_draw_1) (sCons (sVar 0) (sCons (sC (.int 4)) sNil)))) (sCons (sBin opAdd (sC (.int 1)) (sCall (withD [] Sh.l_draw_1) (sCons (sVar 0) (sCons (sC (.int 8)) sNil)))) sNil))))) (sCall (withD [] Sh.l_draw_1) (sCons (sVar 0) (sCons (sC (.int 4)) sNil))))) (sSeq (sSet 10 (sCall (withD [] Sh.l_talks_1) (sCons (sVar 0) (sCons (sVar 9) (sCons (sVar 3) sNil))))) (sExpr (sMtO gAppend (sVar 5) (sCons (sTup (sCons (sMtO gPopAt (sVar 4) (sCons (sCall (withD [] Sh.l_draw_1) (sCons (sVar 0) (sCons (sCall bLen (sCons (sVar 4) sNil)) sNil))) sNil)) (sCons (sBin opAdd (sC (.int 1)) (sCall (withD [] Sh.l_draw_1) (sCons (sVar 0) (sCons (sVar 2) sNil)))) (sCons (sVar 8) (sCons (sVar 10) sNil))))) sNil)))))))) (sRet (frzE (sVar 5))))))
def l_hall_1 : FN := fnOf 11 l_hall_1_b
/-- span_by -/
def span_by_b : SS := (sSeq (sSet 3 (sMeth "Schedule" "nth_ready" (pureF Sh.Schedule_nth_ready) (sUn (opFld "schedule") (sVar 1)) (sCons (sVar 2) sNil))) (sSeq (sSet 4 (sBin opAdd (sCall (withD [] (pureF Sh.left_index)) (sCons (sVar 0) (sCons (sUn (opFld "rank") (sVar 1)) (sCons (sBin opSub (sVar 3) (sC (.int 1))) sNil)))) (sC (.int 1)))) (sSeq (sFor (sIt (sCall (withD [] (pureF Sh.run_of)) (sCons (sVar 0) (sCons (sUn (opFld "rank") (sVar 1)) (sCons (sVar 3) sNil))))) (gT 3 (gCs (gN 5) (gCs (gN 6) (gCs (gN 7) gNl)))) (sSeq (sIfS (sTest (sBin (opEq false) (sUn (opFld "name") (sVar 5)) (sUn (opFld "name") (sVar 1)))) sBreak sNext) (sAug 4 (opI2 (fun i j => .int (i + j)) fun _ _ => true) (sVar 7)))) (sSeq (sSet 8 (sBin opSub (sBin opAdd (sVar 4) (sBin opIx (sMeth "Schedule" "nth_talk" (pureF Sh.Schedule_nth_talk) (sUn (opFld "schedule") (sVar 1)) (sCons (sVar 2) sNil)) (sC (.int 1)))) (sC (.int 1)))) (sRet (sTup (sCons (sCall (withD [] (pureF Sh.tick_of)) (sCons (sVar 0) (sCons (sUn (opFld "rank") (sVar 1)) (sCons (sVar 4) sNil)))) (sCons (sCall (withD [] (pureF Sh.tick_of)) (sCons (sVar 0) (sCons (sUn (opFld "rank") (sVar 1)) (sCons (sVar 8) sNil)))) sNil))))))))
def span_by : FN := fnOf 9 span_by_b
/-- common_divisor -/
def common_divisor_b : SS := (sSeq (sWhile (sTest (sBin opGt (sVar 1) (sC (.int 0)))) (sPar 0 1 (sCons (sVar 1) (sCons (sBin opMod (sVar 0) (sVar 1)) sNil)))) (sRet (sVar 0)))
def common_divisor : FN := fnOf 2 common_divisor_b
/-- common_multiple -/
def common_multiple_b : SS := (sRet (sBin opMul (sBin opDiv (sVar 0) (sCall (withD [] (pureF Sh.common_divisor)) (sCons (sVar 0) (sCons (sVar 1) sNil)))) (sVar 1)))
def common_multiple : FN := fnOf 2 common_multiple_b
/-- RankCycle.spoken_by -/
def RankCycle_spoken_by_b : SS := (sRet (sBin opMul (sBin opDiv (sUn (opFld "quiet") (sVar 0)) (sBin opIx (sUn (opFld "cycle_silences") (sUn (opFld "schedule") (sVar 1))) (sUn opNeg (sC (.int 1))))) (sBin opIx (sUn (opFld "cycle_lengths") (sUn (opFld "schedule") (sVar 1))) (sUn opNeg (sC (.int 1))))))
def RankCycle_spoken_by : FN := fnOf 2 RankCycle_spoken_by_b
/-- RankCycle.__init__ -/
def RankCycle_init_b : SS := (sSeq (sFldS "RankCycle" "members" (sVar 0) (sLc false (sIt (sVar 1)) (gN 3) (sTest (sBin (opEq false) (sUn (opFld "rank") (sVar 3)) (sVar 2))) (sVar 3) [3])) (sSeq (sFldS "RankCycle" "quiet" (sVar 0) (sC (.int 1))) (sSeq (sFor (sIt (sUn (opFld "members") (sVar 0))) (gN 3) (sFldS "RankCycle" "quiet" (sVar 0) (sCall (withD [] (pureF Sh.common_multiple)) (sCons (sUn (opFld "quiet") (sVar 0)) (sCons (sBin opIx (sUn (opFld "cycle_silences") (sUn (opFld "schedule") (sVar 3))) (sUn opNeg (sC (.int 1)))) sNil))))) (sFldS "RankCycle" "left" (sVar 0) (sBin opAdd (sUn (opFld "quiet") (sVar 0)) (sCall (b1 opSum) (sCons (sLc false (sIt (sUn (opFld "members") (sVar 0))) (gN 3) sYes (sMeth "RankCycle" "spoken_by" Sh.RankCycle_spoken_by (sVar 0) (sCons (sVar 3) sNil)) [3]) sNil)))))))
def RankCycle_init : FN := fnOf 4 RankCycle_init_b
/-- start_of -/
def start_of_b : SS := (sSeq (sSet 1 (sC (.int 0))) (sSeq (sFor (sIt (sVar 0)) (gN 2) (sSeq (sSet 3 (sCall bLen (sCons (sUn (opFld "prefix") (sUn (opFld "schedule") (sVar 2))) sNil))) (sIfS (sTest (sBin opGt (sVar 3) (sC (.int 0)))) (sSet 1 (sCall bMax (sCons (sVar 1) (sCons (sBin opAdd (sBin opIx (sCall (withD [] (pureF Sh.span_by)) (sCons (sVar 0) (sCons (sVar 2) (sCons (sBin opSub (sVar 3) (sC (.int 1))) sNil)))) (sC (.int 1))) (sC (.int 1))) sNil)))) sNext))) (sRet (sVar 1))))
def start_of : FN := fnOf 4 start_of_b
/-- cycle_of -/
def cycle_of_b : SS := (sSeq (sSet 1 (sCall (withD [] (pureF Sh.checked_hall)) (sCons (sVar 0) sNil))) (sSeq (sAsg (gT 2 (gCs (gN 2) (gCs (gN 3) gNl))) (sTup (sCons (sC (.int 1)) (sCons (sC (.int 1)) sNil)))) (sSeq (sFor (sRng2 (sC (.int 1)) (sBin opAdd (sC (.int (10))) (sC (.int 1)))) (gN 4) (sSeq (sSet 5 (sMakeP "RankCycle" Sh.RankCycle_init (sCons (sVar 1) (sCons (sVar 4) sNil)))) (sSeq (sSet 6 (sBin opDiv (sUn (opFld "left") (sVar 5)) (sCall (withD [] (pureF Sh.common_divisor)) (sCons (sVar 3) (sCons (sUn (opFld "left") (sVar 5)) sNil))))) (sSeq (sAug 2 opMulI (sVar 6)) (sSet 3 (sBin opMul (sBin opDiv (sBin opMul (sVar 3) (sVar 6)) (sUn (opFld "left") (sVar 5))) (sUn (opFld "quiet") (sVar 5)))))))) (sRet (sTup (sCons (sCall (withD [] (pureF Sh.start_of)) (sCons (sVar 1) sNil)) (sCons (sVar 2) sNil)))))))
def cycle_of : FN := fnOf 7 cycle_of_b
/-- shares_of -/
noncomputable def shares_of_1_b (P : Program) (w : World) : SS := (sSeq (sSet 1 (sCall (withD [] (pureF Sh.checked_hall)) (sCons (sVar 0) sNil))) (sSeq (sAsg (gT 2 (gCs (gN 2) (gCs (gN 3) gNl))) (sTup (sCons (sC (.int 1)) (sCons (sC (.int 1)) sNil)))) (sSeq (sSet 4 sDctO) (sSeq (sFor (sRng2 (sC (.int 1)) (sBin opAdd (sC (.int (10))) (sC (.int 1)))) (gN 5) (sSeq (sSet 6 (sMakeP "RankCycle" Sh.RankCycle_init (sCons (sVar 1) (sCons (sVar 5) sNil)))) (sSeq (sFor (sIt (sUn (opFld "members") (sVar 6))) (gN 7) (sIxK (sVar 4) (sUn (opFld "name") (sVar 7)) (sTup (sCons (sBin opMul (sVar 2) (sMeth "RankCycle" "spoken_by" (pureF Sh.RankCycle_spoken_by) (sVar 6) (sCons (sVar 7) sNil))) (sCons (sBin opMul (sVar 3) (sUn (opFld "left") (sVar 6))) sNil))))) (sPar 2 3 (sCons (sBin opMul (sVar 2) (sUn (opFld "quiet") (sVar 6))) (sCons (sBin opMul (sVar 3) (sUn (opFld "left") (sVar 6))) sNil)))))) (sSeq (sSet 8 (sBin opAdd (sLc false (sIt (sVar 1)) (gN 7) sYes (sUn (opFld "name") (sVar 7)) [7]) (sLst (sCons (sC .non) sNil)))) (sSeq (sPutN (hexN P w) (sVar 4) (sC .non) (sTup (sCons (sVar 2) (sCons (sVar 3) sNil)))) (sSeq (sSet 9 (sLstO sNil)) (sSeq (sFor (sIt (sVar 8)) (gN 10) (sSeq (sSet 11 (sCall (withD [] (pureF Sh.common_divisor)) (sCons (sBin opIx (sBin (opGetN (hexN P w)) (sVar 4) (sVar 10)) (sC (.int 0))) (sCons (sBin opIx (sBin (opGetN (hexN P w)) (sVar 4) (sVar 10)) (sC (.int 1))) sNil)))) (sExpr (sMtO gAppend (sVar 9) (sCons (sTup (sCons (sVar 10) (sCons (sBin opDiv (sBin opIx (sBin (opGetN (hexN P w)) (sVar 4) (sVar 10)) (sC (.int 0))) (sVar 11)) (sCons (sBin opDiv (sBin opIx (sBin (opGetN (hexN P w)) (sVar 4) (sVar 10)) (sC (.int 1))) (sVar 11)) sNil)))) sNil))))) (sRet (frzE (sVar 9)))))))))))
noncomputable def shares_of_1 (P : Program) (w : World) : FN := fnOf 12 (shares_of_1_b P w)
/-- _law_multiple -/
def l_multiple_b : SS := (sSeq (sSet 1 (sC (.int 1))) (sSeq (sFor (sIt (sVar 0)) (gN 2) (sSeq (sPar 3 4 (sCons (sVar 1) (sCons (sVar 2) sNil))) (sSeq (sWhile (sTest (sBin opGt (sVar 4) (sC (.int 0)))) (sPar 3 4 (sCons (sVar 4) (sCons (sBin opMod (sVar 3) (sVar 4)) sNil)))) (sSet 1 (sBin opMul (sBin opDiv (sVar 1) (sVar 3)) (sVar 2)))))) (sRet (sVar 1))))
def l_multiple : FN := fnOf 5 l_multiple_b
/-- _law_alone -/
def l_alone_b : SS := (sSeq (sSet 1 (sLc false (sIt (sVar 0)) (gN 3) sYes (sCall (b1 opSum) (sCons (sLc false (sIt (sBin opIx (sVar 3) (sC (.int 3)))) (gN 2) sYes (sBin opIx (sVar 2) (sC (.int 0))) [2]) sNil)) [3])) (sSeq (sSet 4 (sCall (withD [] (pureF Sh.l_multiple)) (sCons (sVar 1) sNil))) (sSeq (sSet 5 (sLc false (sZip (sCons (sVar 1) (sCons (sVar 0) sNil))) (gT 2 (gCs (gN 6) (gCs (gN 3) gNl))) sYes (sBin opMul (sBin opDiv (sVar 4) (sVar 6)) (sCall (b1 opSum) (sCons (sLc false (sIt (sBin opIx (sVar 3) (sC (.int 3)))) (gN 2) sYes (sBin opIx (sVar 2) (sC (.int 1))) [2]) sNil))) [6, 3])) (sRet (sTup (sCons (sVar 4) (sCons (sBin opAdd (sVar 4) (sCall (b1 opSum) (sCons (sVar 5) sNil))) sNil)))))))
def l_alone : FN := fnOf 7 l_alone_b
/-- law -/
noncomputable def law_k34_b (P : Program) (w : World) : SS := (sSeq (sSet 1 (sCall (withD [] Sh.l_reel) (sCons (sVar 0) sNil))) (sSeq (sFor (sRng1 (sBin opAdd (sC (.int 1)) (sCall bMin (sCons (sCall bLen (sCons (sVar 0) sNil)) (sCons (sC (.int 3)) sNil))))) (gN 2) (sSeq (sSet 3 (sCall (withD [] Sh.l_hall_1) (sCons (sVar 1) (sCons (sC (.int 10)) (sCons (sBin opIx (sLst (sCons (sC (.int 4)) (sCons (sC (.int 10)) sNil))) (sCall (withD [] Sh.l_draw_1) (sCons (sVar 1) (sCons (sC (.int 2)) sNil)))) (sCons (sBin opIx (sLst (sCons (sC (.int 6)) (sCons (sBin opPow (sC (.int 10)) (sC (.int 30))) sNil))) (sCall (withD [] Sh.l_draw_1) (sCons (sVar 1) (sCons (sC (.int 2)) sNil)))) sNil)))))) (sSeq (sSet 4 (sTup (sCons (sC (.int 0)) (sCons (sC (.int 1)) sNil)))) (sSeq (sAsg (gT 2 (gCs (gN 5) (gCs (gN 6) gNl))) (sTup (sCons (sC (.int 1)) (sCons (sC (.int 1)) sNil)))) (sSeq (sFor (sRng2 (sC (.int 1)) (sC (.int 11))) (gN 7) (sSeq (sSet 8 (sLc false (sIt (sVar 3)) (gN 9) (sTest (sBin (opEq false) (sBin opIx (sVar 9) (sC (.int 1))) (sVar 7))) (sVar 9) [9])) (sSeq (sAsg (gT 2 (gCs (gN 10) (gCs (gN 11) gNl))) (sCall (withD [] (pureF Sh.l_alone)) (sCons (sVar 8) sNil))) (sSeq (sIfS (sTest (sBin (opEq true) (sCall (withD [] (noXF (pureF Sh.cycle_of))) (sCons (sLc false (sIt (sVar 8)) (gN 9) sYes (sBin opAdd (sCut false (sVar 9) sNoPart (sPart (sC (.int 2)))) (sTup (sCons (sLst sNil) (sCons (sBin opIx (sVar 9) (sC (.int 3))) sNil)))) [9]) sNil)) (sTup (sCons (sC (.int 0)) (sCons (sVar 11) sNil))))) (sRet (sC (.bl false))) sNext) (sSeq (sSet 12 (sBin opDiv (sCall (withD [] (pureF Sh.l_multiple)) (sCons (sLst (sCons (sVar 6) (sCons (sVar 11) sNil))) sNil)) (sVar 6))) (sSeq (sPar 5 6 (sCons (sBin opMul (sVar 5) (sVar 12)) (sCons (sBin opMul (sBin opDiv (sBin opMul (sVar 6) (sVar 12)) (sVar 11)) (sVar 10)) sNil))) (sSeq (sSet 13 (sCall (withD [] (noXF (pureF Sh.cycle_of))) (sCons (sLc false (sIt (sVar 3)) (gN 9) (sTest (sBin opLe (sBin opIx (sVar 9) (sC (.int 1))) (sVar 7))) (sVar 9) [9]) sNil))) (sSeq (sIfS (sOr (sTest (sBin (opEq true) (sBin opIx (sVar 13) (sC (.int 1))) (sVar 5))) (sTest (sBin opLt (sBin opIx (sVar 13) (sC (.int 0))) (sBin opIx (sVar 4) (sC (.int 0)))))) (sRet (sC (.bl false))) sNext) (sSet 4 (sVar 13)))))))))) (sSeq (sIfS (sOr (sTest (sBin (opEq true) (sCall (withD [] (noXF (pureF Sh.cycle_of))) (sCons (sVar 3) sNil)) (sVar 4))) (sTest (sBin (opEq true) (sBin opIx (sCall (withD [] (noXF (pureF Sh.cycle_of))) (sCons (sCutS false (sVar 3) sNoPart sNoPart (sPart (sUn opNeg (sC (.int 1))))) sNil)) (sC (.int 1))) (sBin opIx (sVar 4) (sC (.int 1)))))) (sRet (sC (.bl false))) sNext) (sSeq (sSet 14 (sSortSet (sLc false (sIt (sVar 3)) (gN 9) sYes (sBin opIx (sVar 9) (sC (.int 1))) [9]))) (sSeq (sSet 15 (sLc false (sIt (sVar 3)) (gN 9) sYes (sTup (sCons (sBin opIx (sVar 9) (sC (.int 0))) (sCons (sBin opAdd (sIdx (sVar 14) (sCons (sBin opIx (sVar 9) (sC (.int 1))) sNil)) (sC (.int 1))) (sCons (sBin opIx (sVar 9) (sC (.int 2))) (sCons (sBin opIx (sVar 9) (sC (.int 3))) sNil))))) [9])) (sSeq (sIfS (sOr (sTest (sBin (opEq true) (sCall (withD [] (noXF (pureF Sh.cycle_of))) (sCons (sVar 15) sNil)) (sVar 4))) (sTest (sBin (opEq true) (sCall (withD [] (noXF (pureF (Sh.shares_of_1 P w)))) (sCons (sVar 15) sNil)) (sCall (withD [] (noXF (pureF (Sh.shares_of_1 P w)))) (sCons (sVar 3) sNil))))) (sRet (sC (.bl false))) sNext) (sIfS (sTest (sBin (opEq true) (sCall (withD [] (noXF (pureF Sh.cycle_of))) (sCons (sLc false (sIt (sVar 3)) (gN 9) sYes (sBin opAdd (sCut false (sVar 9) sNoPart (sPart (sC (.int 2)))) (sTup (sCons (sLst sNil) (sCons (sBin opIx (sVar 9) (sC (.int 3))) sNil)))) [9]) sNil)) (sTup (sCons (sC (.int 0)) (sCons (sBin opIx (sVar 4) (sC (.int 1))) sNil))))) (sRet (sC (.bl false))) sNext)))))))))) (sRet (sC (.bl true)))))
noncomputable def law_k34 (P : Program) (w : World) : FN := fnOf 16 (law_k34_b P w)
end Sh
end HR
set_option Elab.async false
set_option linter.all false
set_option maxRecDepth 20000
namespace HR
open PySem L2
/-! ### the spring: draw -/
/-- the spring at i -/
def Spr (h : OH) (i : Nat) : Prop := ∃ a b c : Int, h[i]? = some (.lst [.int a, .int b, .int c]) ∧ 0 ≤ b ∧ b < 2305843009213693951
/-- nothing but i is changed; the heap may have grown -/
def Chg (i : Nat) (h h' : OH) : Prop := h.length ≤ h'.length ∧ ∀ j, j < h.length → j ≠ i → h'[j]? = h[j]?
theorem Chg.refl (i : Nat) (h : OH) : Chg i h h := ⟨Nat.le_refl _, fun _ _ _ => rfl⟩
theorem Chg.trans {i : Nat} {h1 h2 h3 : OH} (a : Chg i h1 h2) (b : Chg i h2 h3) : Chg i h1 h3 := ⟨Nat.le_trans a.1 b.1, fun j hj n => (b.2 j (Nat.lt_of_lt_of_le hj a.1) n).trans (a.2 j hj n)⟩
theorem Chg.set (i : Nat) (h : OH) (o : OO) : Chg i h (h.set i o) := ⟨by simp, fun j hj n => by rw [List.getElem?_set_ne (Ne.symm n)]⟩
theorem Chg.get {i : Nat} {h h' : OH} (c : Chg i h h') {j : Nat} {o : OO} (e : h[j]? = some o) (n : j ≠ i) : h'[j]? = some o := (c.2 j (List.getElem?_eq_some_iff.mp e).1 n).trans e
theorem Chg.app (i : Nat) (h t : OH) : Chg i h (h ++ t) := ⟨by simp, fun j hj _ => List.getElem?_append_left hj⟩
/-- an object made since is changed -/
theorem Chg.setNew {i : Nat} {h h' : OH} (c : Chg i h h') {j : Nat} (hj : h.length ≤ j) (o : OO) : Chg i h (h'.set j o) := ⟨by simpa using c.1, fun k hk n => by rw [List.getElem?_set_ne (by omega)]; exact c.2 k hk n⟩
theorem Spr.lt {h : OH} {i : Nat} (s : Spr h i) : i < h.length := by
  obtain ⟨a, b, c, e, _⟩ := s
  exact (List.getElem?_eq_some_iff.mp e).1
theorem Spr.app {h : OH} {i : Nat} (s : Spr h i) (t : OH) : Spr (h ++ t) i := by
  have := s.lt
  obtain ⟨a, b, c, e, r⟩ := s
  exact ⟨a, b, c, by rw [List.getElem?_append_left this]; exact e, r⟩
theorem Spr.set {h : OH} {i j : Nat} (s : Spr h i) (n : j ≠ i) (o : OO) : Spr (h.set j o) i := by
  obtain ⟨a, b, c, e, r⟩ := s
  exact ⟨a, b, c, by rw [List.getElem?_set_ne n]; exact e, r⟩
theorem mulOk_pow {i j : Int} (k l : Nat) (a : i.natAbs < 2 ^ k) (b : j.natAbs < 2 ^ l) (hk : 0 < k) (hl : 0 < l) (h : k + l ≤ 900000) : mulOk i j = true := by
  have h1 := log2_small a hk
  have h2 := log2_small b hl
  simp only [mulOk, Bool.or_eq_true, decide_eq_true_eq]
  omega
end HR
set_option Elab.async false
set_option linter.all false
set_option maxRecDepth 20000
namespace HR
open PySem L2
/-! ### halls: the talks, the talkers -/
def dT (p : Int × Int) : D := .tup [.int p.1, .int p.2]
structure Tk where
  name : Str
  rank : Int
  pre : List (Int × Int)
  cyc : List (Int × Int)
def dTk (t : Tk) : D := .tup [.str t.name, .int t.rank, .lst (t.pre.map dT), .lst (t.cyc.map dT)]
def In1 (m : Int) (p : Int × Int) : Prop := 1 ≤ p.1 ∧ p.1 ≤ m ∧ 1 ≤ p.2 ∧ p.2 ≤ m
theorem pickI {ns : List Int} {v : Int} {P : D → Prop} (h0 : 0 ≤ v) (h1 : v < ns.length) (q : ∀ n ∈ ns, P (.int n)) : lkS (atI (ns.map D.int) v) P := by
  have hl : v.toNat < ns.length := by omega
  refine lkS_of (x := .int ns[v.toNat]) ?_ (q _ (List.getElem_mem hl))
  rw [atI_z h0 (by simpa using h1)]
  simp [hl]
def WfN (x : Str) : Prop := 1 ≤ x.length ∧ x.length ≤ 8 ∧ ∀ c ∈ x.cps.toList, c ∈ ("abcdefghijklmnopqrstuvwxyz" : Str).cps.toList
structure WfTk (m : Int) (t : Tk) : Prop where
  name : WfN t.name
  r1 : 1 ≤ t.rank
  r2 : t.rank ≤ 10
  lp : t.pre.length ≤ 8
  lc1 : 1 ≤ t.cyc.length
  lc : t.cyc.length ≤ 8
  pre : ∀ p ∈ t.pre, In1 m p
  cyc : ∀ p ∈ t.cyc, In1 m p
structure WfHall (m : Int) (ts : List Tk) : Prop where
  len : ts.length ≤ 10
  tk : ∀ t ∈ ts, WfTk m t
  nd : (ts.map (·.name)).Nodup
theorem eraseIdx_mapF {α β : Type} (f : α → β) : ∀ (l : List α) (n : Nat), (l.map f).eraseIdx n = (l.eraseIdx n).map f
  | [], _ => rfl
  | _ :: _, 0 => rfl
  | x :: l, n + 1 => by simp [eraseIdx_mapF f l n]
theorem eraseIdx_permF {α : Type} : ∀ (l : List α) (n : Nat) (h : n < l.length), (l[n] :: l.eraseIdx n).Perm l
  | [], _, h => absurd h (Nat.not_lt_zero _)
  | x :: l, 0, _ => List.Perm.refl _
  | x :: l, n + 1, h => (List.Perm.swap x _ _).trans ((eraseIdx_permF l n (Nat.lt_of_succ_lt_succ h)).cons x)
end HR
set_option Elab.async false
set_option linter.all false
set_option maxRecDepth 20000
namespace HR
open PySem L2
/-! ### the checks of a hall -/
abbrev T30 : Int := 1000000000000000000000000000000
theorem pure_dT (p : Int × Int) : (dT p).pure = true := by simp [dT]
@[simp] theorem pureL_dT (ts : List (Int × Int)) : D.pureL (ts.map dT) = true := pureL_map _ pure_dT ts
theorem pure_dTk (t : Tk) : (dTk t).pure = true := by simp [dTk]
@[simp] theorem pureL_dTk (ts : List Tk) : D.pureL (ts.map dTk) = true := pureL_map _ pure_dTk ts
@[simp] theorem isseq_l (xs : List D) (h : OH) (hp : D.pureL xs = true) : pureF Sh.is_sequence [.lst xs] h = .ok (.bl true) h := by
  refine pure_eq h (by simp [hp]) rfl ?_
  unfold Sh.is_sequence; rw [W_fn]; unfold Sh.is_sequence_b; simp
@[simp] theorem isseq_t (xs : List D) (h : OH) (hp : D.pureL xs = true) : pureF Sh.is_sequence [.tup xs] h = .ok (.bl true) h := by
  refine pure_eq h (by simp [hp]) rfl ?_
  unfold Sh.is_sequence; rw [W_fn]; unfold Sh.is_sequence_b; simp
@[simp] theorem isint2 (v lo hi : Int) (h : OH) : pureF Sh.is_integer [.int v, .int lo, .int hi] h = .ok (.bl (decide (lo ≤ v) && decide (v ≤ hi))) h := by
  refine pure_eq h rfl rfl ?_
  unfold Sh.is_integer; rw [W_fn]; unfold Sh.is_integer_b; simp
  split
  · rename_i q; simp [q]
  · rename_i q; simp [q]
@[simp] theorem isint1 (v lo : Int) (h : OH) : pureF Sh.is_integer [.int v, .int lo, .non] h = .ok (.bl (decide (lo ≤ v))) h := by
  refine pure_eq h rfl rfl ?_
  unfold Sh.is_integer; rw [W_fn]; unfold Sh.is_integer_b; simp
theorem istalk (p : Int × Int) (h : OH) (w : In1 T30 p) : pureF Sh.is_talk [dT p] h = .ok (.bl true) h := by
  refine pure_eq h (by simp [pure_dT]) rfl ?_
  obtain ⟨a, b, c, d⟩ := w
  unfold Sh.is_talk; rw [W_fn]; unfold Sh.is_talk_b; simp [dT, wipeD, a, b, c, d]
theorem aretalks (ts : List (Int × Int)) (least : Int) (h : OH) (w : ∀ p ∈ ts, In1 T30 p) (l1 : least ≤ ts.length) (l2 : ts.length ≤ 8) : pureF Sh.are_talks [.lst (ts.map dT), .int least] h = .ok (.bl true) h := by
  refine pure_eq h (by simp) rfl ?_
  have l2' : (ts.length : Int) ≤ 8 := by omega
  unfold Sh.are_talks; rw [W_fn]; unfold Sh.are_talks_b; simp [wipeD, l1, l2']
  refine W_lcMap1 ts dT (fun _ => .bl true) [] (by simp [big]; omega) (fun x hx => ⟨_, rfl, ?_⟩) ?_
  · simp [istalk x _ (w x hx)]
  · rw [bs_mapF]; simp
theorem isname (x : Str) (h : OH) (w : WfN x) : pureF Sh.is_name [.str x] h = .ok (.bl true) h := by
  refine pure_eq h rfl rfl ?_
  obtain ⟨l1, l2, lc⟩ := w
  have l1' : (1 : Int) ≤ x.length := by omega
  have l2' : (x.length : Int) ≤ 8 := by omega
  have lb : x.length ≤ big := by simp [big]; omega
  have ln : x.cps.toList.length = x.length := by simp [Str.length]
  unfold Sh.is_name; rw [W_fn]; unfold Sh.is_name_b; simp [wipeD, W_lenS, lb, l1', l2', signsD]
  refine W_lcMap1 x.cps.toList (fun c => .str ⟨#[c]⟩) (fun _ => .bl true) [] (by simp only [big]; omega) (fun c hc => ⟨_, rfl, ?_⟩) ?_
  · simp
    exact Array.mem_toList_iff.mp (lc c hc)
  · rw [bs_mapF]; simp
theorem istalker (t : Tk) (h : OH) (w : WfTk T30 t) : pureF Sh.is_talker [dTk t] h = .ok (.bl true) h := by
  refine pure_eq h (by simp [pure_dTk]) rfl ?_
  have r1 := w.r1
  have r2 := w.r2
  have lc := w.lc1
  unfold Sh.is_talker; rw [W_fn]; unfold Sh.is_talker_b
  simp [dTk, isname t.name _ w.name, aretalks t.pre 0 _ w.pre (by omega) w.lp, aretalks t.cyc 1 _ w.cyc (by omega) w.lc, r1, r2]
theorem ishall (ts : List Tk) (h : OH) (w : WfHall T30 ts) : pureF Sh.is_hall [.lst (ts.map dTk)] h = .ok (.bl true) h := by
  refine pure_eq h (by simp) rfl ?_
  have hl := w.len
  have l10 : ¬ (10 : Int) < ts.length := by omega
  unfold Sh.is_hall; rw [W_fn]; unfold Sh.is_hall_b
  simp [wipeD, l10]
  refine W_lcMap1 ts dTk (fun _ => .bl true) [] (by simp [big]; omega) (fun x hx => ⟨_, rfl, ?_⟩) ?_
  · simp [istalker x _ (w.tk x hx)]
  · rw [bs_mapF]; simp [sLenSet, wipeD]
    refine W_lcMap1 ts dTk (fun t => .str t.name) [] (by simp [big]; omega) (fun x hx => ⟨_, rfl, ?_⟩) ?_
    · simp [dTk]
    · have e : ts.map (fun t => D.str t.name) = (ts.map (·.name)).map D.str := by simp
      rw [e]
      simp only [lsqAt, seqAt, Option.bind_some, keys_strs]
      have e2 : ((ts.map (·.name)).map (Sum.inr : Str → Key)).Nodup := by
        refine List.Pairwise.map _ (fun a b hab he => hab (Sum.inr.inj he)) w.nd
      rw [ddK_nodup _ [] e2 (by simp)]
      simp
      omega
end HR
set_option Elab.async false
set_option linter.all false
set_option maxRecDepth 20000
namespace HR
open PySem L2
/-! ### schedules -/
/-- 0, x0, x0 + x1, .. -/
def sums (l : List Int) : List Int := (List.range (l.length + 1)).map fun k => (l.take k).sum
theorem sums_at {l : List Int} {k : Nat} (h : k ≤ l.length) : (sums l)[k]? = some (l.take k).sum := by
  simp [sums, Nat.lt_succ_of_le h]
theorem sums_D (l : List Int) : (sums l).map D.int = (List.range l.length).map (fun k => D.int (l.take k).sum) ++ [.int l.sum] := by
  simp [sums, List.range_succ]
theorem sum_take (l : List Int) (k : Nat) (x : Int) (h : l[k]? = some x) : (l.take (k + 1)).sum = (l.take k).sum + x := by
  rw [List.take_succ, h]; simp
theorem running (l : List Int) (h : OH) (hl : l.length ≤ 1000) : pureF Sh.running_sums [.lst (l.map D.int)] h = .ok (.lst ((sums l).map D.int)) h := by
  refine pure_eq h (by simp) (by simp) ?_
  unfold Sh.running_sums; rw [W_fn]; unfold Sh.running_sums_b; simp
  refine W_forL (fun k e h' => h' = [.lst ((List.range k).map (fun j => D.int (l.take j).sum) ++ [.int (l.take k).sum])] ∧ ∃ c, e = [some (.lst (l.map D.int)), some (.ref 0), c]) _ _ _ ⟨rfl, none, rfl⟩ (fun k d hd e h' hI => ?_) (fun e h' hI => ?_)
  · obtain ⟨rfl, c, rfl⟩ := hI
    rw [List.getElem?_map, Option.map_eq_some_iff] at hd
    obtain ⟨x, hx, rfl⟩ := hd
    have hk := (List.getElem?_eq_some_iff.mp hx).1
    refine ⟨_, rfl, ?_⟩
    simp [L2.atI_last]
    refine ⟨by omega, ?_⟩
    first
      | exact (sum_take l k x hx).symm
      | (rw [sum_take l k x hx, List.range_succ]; simp)
  · obtain ⟨rfl, c, rfl⟩ := hI
    simp [sums_D]
def dSch (p c : List (Int × Int)) : D := .obj "Schedule" [("prefix", .lst (p.map dT)), ("cycle", .lst (c.map dT)), ("prefix_silences", .lst ((sums (p.map (·.1))).map D.int)), ("prefix_lengths", .lst ((sums (p.map (·.2))).map D.int)), ("cycle_silences", .lst ((sums (c.map (·.1))).map D.int)), ("cycle_lengths", .lst ((sums (c.map (·.2))).map D.int))]
@[simp] theorem pure_dSch (p c : List (Int × Int)) : (dSch p c).pure = true := by simp [dSch]
theorem map_dT1 (l : List (Int × Int)) : l.map (fun x => D.int x.1) = (l.map (·.1)).map D.int := by simp
theorem map_dT2 (l : List (Int × Int)) : l.map (fun x => D.int x.2) = (l.map (·.2)).map D.int := by simp
theorem mkSch {a : SA} {e : Env'} {h : OH} {PD : D → OH → Prop} (p c : List (Int × Int)) (lp : p.length ≤ 8) (lc : c.length ≤ 8) (w : (a e h).W fun ys h1 => ys = [.lst (p.map dT), .lst (c.map dT)] ∧ PD (dSch p c) h1) : (sMakeP "Schedule" Sh.Schedule_init a e h).W PD := by
  refine W_makeP (w.mono fun ys h1 z => ?_)
  obtain ⟨rfl, z⟩ := z
  refine ⟨by simp, ?_⟩
  unfold Sh.Schedule_init; rw [W_fn]; unfold Sh.Schedule_init_b
  simp [wipeD]
  refine W_lcMap1 p dT dT _ (by simp [big]; omega) (fun x hx => ⟨_, rfl, by simp [dT]⟩) ?_
  simp [wipeD]
  refine W_lcMap1 c dT dT _ (by simp [big]; omega) (fun x hx => ⟨_, rfl, by simp [dT]⟩) ?_
  simp [wipeD]
  refine W_lcMap1 p dT (fun x => .int x.1) _ (by simp [big]; omega) (fun x hx => ⟨_, rfl, by simp [dT]⟩) ?_
  rw [map_dT1, running _ _ (by simp; omega)]
  simp [wipeD]
  refine W_lcMap1 p dT (fun x => .int x.2) _ (by simp [big]; omega) (fun x hx => ⟨_, rfl, by simp [dT]⟩) ?_
  rw [map_dT2, running _ _ (by simp; omega)]
  simp [wipeD]
  refine W_lcMap1 c dT (fun x => .int x.1) _ (by simp [big]; omega) (fun x hx => ⟨_, rfl, by simp [dT]⟩) ?_
  rw [map_dT1, running _ _ (by simp; omega)]
  simp [wipeD]
  refine W_lcMap1 c dT (fun x => .int x.2) _ (by simp [big]; omega) (fun x hx => ⟨_, rfl, by simp [dT]⟩) ?_
  rw [map_dT2, running _ _ (by simp; omega)]
  simp
  exact z
def dMem (t : Tk) : D := .obj "Member" [("name", .str t.name), ("rank", .int t.rank), ("schedule", dSch t.pre t.cyc)]
@[simp] theorem pure_dMem (t : Tk) : (dMem t).pure = true := by simp [dMem]
@[simp] theorem pureL_dMem (ts : List Tk) : D.pureL (ts.map dMem) = true := pureL_map _ pure_dMem ts
theorem mkMem {a : SA} {e : Env'} {h : OH} {PD : D → OH → Prop} (t : Tk) (lp : t.pre.length ≤ 8) (lc : t.cyc.length ≤ 8) (w : (a e h).W fun ys h1 => ys = [dTk t] ∧ PD (dMem t) h1) : (sMakeP "Member" Sh.Member_init a e h).W PD := by
  refine W_makeP (w.mono fun ys h1 z => ?_)
  obtain ⟨rfl, z⟩ := z
  refine ⟨by simp [pure_dTk], ?_⟩
  unfold Sh.Member_init; rw [W_fn]; unfold Sh.Member_init_b
  simp [dTk]
  refine mkSch t.pre t.cyc lp lc ?_
  simp
  exact z
theorem checked (ts : List Tk) (h : OH) (w : WfHall T30 ts) : pureF Sh.checked_hall [.lst (ts.map dTk)] h = .ok (.lst (ts.map dMem)) h := by
  refine pure_eq h (by simp) (by simp) ?_
  have hl := w.len
  unfold Sh.checked_hall; rw [W_fn]; unfold Sh.checked_hall_b
  simp [wipeD, ishall ts _ w]
  refine W_lcMap1 ts dTk dMem _ (by simp [big]; omega) (fun x hx => ⟨_, rfl, ?_⟩) (by simp)
  simp
  exact mkMem x (w.tk x hx).lp (w.tk x hx).lc (by simp)
end HR
set_option Elab.async false
set_option linter.all false
set_option maxRecDepth 20000
namespace HR
open PySem L2
/-! ### the talks of a schedule, their sums -/
def nth (p c : List (Int × Int)) (i : Nat) : Int × Int := if i < p.length then p.getD i (0, 0) else c.getD ((i - p.length) % c.length) (0, 0)
/-- the sum over the first n talks -/
def acc (f : Int × Int → Int) (p c : List (Int × Int)) : Nat → Int
  | 0 => 0
  | n + 1 => acc f p c n + f (nth p c n)
section
variable {f : Int × Int → Int} {p c : List (Int × Int)}
theorem acc_pre : ∀ {n : Nat}, n ≤ p.length → acc f p c n = ((p.map f).take n).sum
  | 0, _ => rfl
  | n + 1, h => by
    have hn : n < p.length := h
    rw [acc, acc_pre (by omega), sum_take _ n (f p[n]) (by simp [hn])]
    simp [nth, hn]
theorem acc_row (q : Nat) (e : acc f p c (p.length + q * c.length) = (p.map f).sum + q * (c.map f).sum) : ∀ r, r ≤ c.length → acc f p c (p.length + q * c.length + r) = (p.map f).sum + q * (c.map f).sum + ((c.map f).take r).sum
  | 0, _ => by simp [e]
  | r + 1, h => by
    have hr : r < c.length := h
    have ih := acc_row q e r (by omega)
    have em : (p.length + q * c.length + r - p.length) % c.length = r := by
      rw [show p.length + q * c.length + r - p.length = r + c.length * q from by rw [Nat.mul_comm]; omega, Nat.add_mul_mod_self_left, Nat.mod_eq_of_lt hr]
    have en : nth p c (p.length + q * c.length + r) = c[r] := by
      have : ¬ (p.length + q * c.length + r < p.length) := by omega
      simp only [nth, if_neg this, em]
      simp [hr]
    rw [← Nat.add_assoc, acc, ih, en, sum_take _ r (f c[r]) (by simp [hr])]
    omega
theorem acc_rows : ∀ q : Nat, acc f p c (p.length + q * c.length) = (p.map f).sum + q * (c.map f).sum
  | 0 => by
    rw [Nat.zero_mul, Nat.add_zero, acc_pre (Nat.le_refl _), List.take_of_length_le (by simp)]
    simp
  | q + 1 => by
    have e := acc_row q (acc_rows q) c.length (Nat.le_refl _)
    rw [List.take_of_length_le (by simp)] at e
    rw [Nat.add_mul, Nat.one_mul, ← Nat.add_assoc, e]
    push_cast
    rw [Int.add_mul]
    omega
theorem acc_cyc (q r : Nat) (h : r ≤ c.length) : acc f p c (p.length + q * c.length + r) = (p.map f).sum + q * (c.map f).sum + ((c.map f).take r).sum := acc_row q (acc_rows q) r h
/-- each talk's part is at least 1 -/
def Pos1 (f : Int × Int → Int) (p c : List (Int × Int)) : Prop := 1 ≤ c.length ∧ (∀ x ∈ p, 1 ≤ f x) ∧ ∀ x ∈ c, 1 ≤ f x
theorem nth_mem (hc : 1 ≤ c.length) (n : Nat) : nth p c n ∈ p ∨ nth p c n ∈ c := by
  unfold nth
  by_cases h : n < p.length
  · rw [if_pos h]; left; simp [h]
  · rw [if_neg h]; right
    have : (n - p.length) % c.length < c.length := Nat.mod_lt _ hc
    simp [this]
theorem nth_pos (h : Pos1 f p c) (n : Nat) : 1 ≤ f (nth p c n) := by
  rcases nth_mem (p := p) h.1 n with m | m
  · exact h.2.1 _ m
  · exact h.2.2 _ m
theorem acc_lt (h : Pos1 f p c) {a : Nat} : ∀ {b : Nat}, a < b → acc f p c a + (b - a : Nat) ≤ acc f p c b
  | 0, h0 => absurd h0 (Nat.not_lt_zero _)
  | b + 1, h0 => by
    have := nth_pos h b
    rcases Nat.lt_or_ge a b with h1 | h1
    · have := acc_lt h h1
      rw [acc]; omega
    · have : a = b := by omega
      subst this
      rw [acc]; omega
theorem acc_ge (h : Pos1 f p c) (n : Nat) : (n : Int) ≤ acc f p c n := by
  rcases Nat.eq_zero_or_pos n with h0 | h0
  · subst h0; exact Int.le_refl _
  · have := acc_lt h h0
    have e : acc f p c 0 = 0 := rfl
    omega
theorem acc_inj (h : Pos1 f p c) {a b : Nat} {q : Int} (a1 : acc f p c a ≤ q) (a2 : q < acc f p c (a + 1)) (b1 : acc f p c b ≤ q) (b2 : q < acc f p c (b + 1)) : a = b := by
  rcases Nat.lt_trichotomy a b with l | l | l
  · exfalso
    rcases Nat.lt_or_ge (a + 1) b with m | m
    · have := acc_lt h m; omega
    · have : a + 1 = b := by omega
      subst this; omega
  · exact l
  · exfalso
    rcases Nat.lt_or_ge (b + 1) a with m | m
    · have := acc_lt h m; omega
    · have : b + 1 = a := by omega
      subst this; omega
end
/-- how many of s 1, .., s m are at most q -/
theorem count_at (s : Nat → Int) (q : Int) (h0 : s 0 ≤ q) (m : Nat) (mono : ∀ a b, a < b → b ≤ m → s a < s b) : ∀ k, k ≤ m → s (((List.range k).filter fun j => decide (s (j + 1) ≤ q)).length) ≤ q ∧ ((List.range k).filter fun j => decide (s (j + 1) ≤ q)).length ≤ k ∧ (((List.range k).filter fun j => decide (s (j + 1) ≤ q)).length < k → q < s (((List.range k).filter fun j => decide (s (j + 1) ≤ q)).length + 1))
  | 0, _ => ⟨h0, Nat.le_refl _, fun z => absurd z (Nat.not_lt_zero _)⟩
  | k + 1, hk => by
    obtain ⟨i1, i2, i3⟩ := count_at s q h0 m mono k (by omega)
    rw [List.range_succ, List.filter_append, List.length_append]
    generalize ((List.range k).filter fun j => decide (s (j + 1) ≤ q)).length = n at i1 i2 i3 ⊢
    by_cases h : s (k + 1) ≤ q
    · have e : n = k := by
        rcases Nat.lt_or_ge n k with l | l
        · have := i3 l
          have := mono (n + 1) (k + 1) (by omega) hk
          omega
        · omega
      subst e
      simp [h]
    · simp [h]
      refine ⟨i1, by omega, fun l => ?_⟩
      rcases Nat.lt_or_ge n k with l2 | l2
      · exact i3 l2
      · have : n = k := by omega
        subst this; omega
end HR
set_option Elab.async false
set_option linter.all false
set_option maxRecDepth 20000
namespace HR
open PySem L2
section
variable {p c : List (Int × Int)}
theorem atI_nat' {α : Type} (xs : List α) (n : Nat) : atI xs (n : Int) = xs[n]? := by
  by_cases h : n < xs.length
  · rw [atI_z (by omega) (by omega), Int.toNat_natCast]
  · have : ¬ ((n : Int) < xs.length) := by omega
    simp [atI, ixN, this, List.getElem?_eq_none (Nat.le_of_not_lt h)]
theorem atI_m1 (l : List Int) : atI ((sums l).map D.int) (-1) = some (.int l.sum) := by rw [sums_D, L2.atI_last]
theorem sumsD_at {l : List Int} {k : Nat} (h : k ≤ l.length) : atI ((sums l).map D.int) (k : Int) = some (.int (l.take k).sum) := by rw [atI_nat', List.getElem?_map, sums_at h]; rfl
theorem nthTalk (n : Nat) (h : OH) (hc : 1 ≤ c.length) (hc2 : c.length ≤ 8) : pureF Sh.Schedule_nth_talk [dSch p c, .int n] h = .ok (dT (nth p c n)) h := by
  refine pure_eq h (by simp) (pure_dT _) ?_
  unfold Sh.Schedule_nth_talk; rw [W_fn]; unfold Sh.Schedule_nth_talk_b
  simp [dSch, List.lookup]
  by_cases hn : n < p.length
  · simp [hn, atI_nat', nth]
  · have hc0 : 0 < c.length := hc
    have e : ((n : Int) - p.length) % c.length = (((n - p.length) % c.length : Nat) : Int) := by
      rw [show (n : Int) - p.length = ((n - p.length : Nat) : Int) from by omega]; rfl
    have hm : (n - p.length) % c.length < c.length := Nat.mod_lt _ hc0
    have hx : nth p c n = c.getD ((n - p.length) % c.length) (0, 0) := by simp only [nth, if_neg hn]
    generalize (n - p.length) % c.length = r at e hm hx
    simp [hn, hc0, e, atI_nat', hx, hm]
/-- the two lists of sums -/
def dSums (f : Int × Int → Int) (l : List (Int × Int)) : D := .lst ((sums (l.map f)).map D.int)
theorem sumFirst (f : Int × Int → Int) (n : Nat) (h : OH) (hc : 1 ≤ c.length) (hc2 : c.length ≤ 8) (hn : Small n) (hs : Small (c.map f).sum) : pureF Sh.Schedule_sum_of_first [dSch p c, .int n, dSums f p, dSums f c] h = .ok (.int (acc f p c n)) h := by
  refine pure_eq h (by simp [dSums]) rfl ?_
  unfold Sh.Schedule_sum_of_first; rw [W_fn]; unfold Sh.Schedule_sum_of_first_b
  simp [dSch, List.lookup, dSums]
  by_cases hp : n ≤ p.length
  · simp [hp, sumsD_at (l := p.map f) (k := n) (by simpa using hp), acc_pre hp]
  · have hd : divOk ((n : Int) - p.length) c.length = true := divOk_small (small_64 (by omega)) (by omega)
    have hk : (n : Int) - p.length = ((n - p.length : Nat) : Int) := by omega
    have e1 : ((n : Int) - p.length) / c.length = (((n - p.length) / c.length : Nat) : Int) := by rw [hk]; rfl
    have e2 : ((n : Int) - p.length) % c.length = (((n - p.length) % c.length : Nat) : Int) := by rw [hk]; rfl
    have hm : (n - p.length) % c.length < c.length := Nat.mod_lt _ hc
    have hsm : Small (((n - p.length) / c.length : Nat) : Int) := by
      have : (n - p.length) / c.length ≤ n := Nat.le_trans (Nat.div_le_self _ _) (Nat.sub_le _ _)
      have hn' : n < 2 ^ 4000 := hn
      show (((n - p.length) / c.length : Nat) : Int).natAbs < 2 ^ 4000
      rw [Int.natAbs_natCast]
      exact Nat.lt_of_le_of_lt this hn'
    have ea := acc_cyc (f := f) (p := p) (c := c) ((n - p.length) / c.length) ((n - p.length) % c.length) (by omega)
    have en : p.length + (n - p.length) / c.length * c.length + (n - p.length) % c.length = n := by
      have := Nat.div_add_mod (n - p.length) c.length
      rw [Nat.mul_comm] at this
      omega
    rw [en] at ea
    have ml := mulOk_small hsm hs
    generalize (n - p.length) % c.length = r at e2 hm ea
    generalize (n - p.length) / c.length = u at e1 hsm ea ml
    simp [hp, hd, gT, gCs, gN, gNl, seqAt, atI_m1, e1, e2, ml, sumsD_at (l := c.map f) (k := r) (by simp; omega), ea]
end
end HR
set_option Elab.async false
set_option linter.all false
set_option maxRecDepth 20000
namespace HR
open PySem L2
section
variable {p c : List (Int × Int)}
def schFs (p c : List (Int × Int)) : List (String × D) := [("prefix", .lst (p.map dT)), ("cycle", .lst (c.map dT)), ("prefix_silences", dSums (·.1) p), ("prefix_lengths", dSums (·.2) p), ("cycle_silences", dSums (·.1) c), ("cycle_lengths", dSums (·.2) c)]
@[simp] theorem ins_dSch (h : OH) : insAt h (dSch p c) = some ("Schedule", schFs p c) := rfl
@[simp] theorem fs_1 : (schFs p c).lookup "prefix" = some (.lst (p.map dT)) := rfl
@[simp] theorem fs_2 : (schFs p c).lookup "cycle" = some (.lst (c.map dT)) := rfl
@[simp] theorem fs_3 : (schFs p c).lookup "prefix_silences" = some (dSums (·.1) p) := rfl
@[simp] theorem fs_4 : (schFs p c).lookup "prefix_lengths" = some (dSums (·.2) p) := rfl
@[simp] theorem fs_5 : (schFs p c).lookup "cycle_silences" = some (dSums (·.1) c) := rfl
@[simp] theorem fs_6 : (schFs p c).lookup "cycle_lengths" = some (dSums (·.2) c) := rfl
@[simp] theorem fs_m1 : hasNo (schFs p c) "sum_of_first" = True := eq_true rfl
@[simp] theorem fs_m2 : hasNo (schFs p c) "nth_ready" = True := eq_true rfl
@[simp] theorem fs_m3 : hasNo (schFs p c) "nth_talk" = True := eq_true rfl
@[simp] theorem fs_m4 : hasNo (schFs p c) "count_ready" = True := eq_true rfl
@[simp] theorem fs_m5 : hasNo (schFs p c) "length_ready" = True := eq_true rfl
theorem nthReady (n : Nat) (h : OH) (hc : 1 ≤ c.length) (hc2 : c.length ≤ 8) (hn : Small ((n : Int) + 1)) (hs : Small (c.map (·.1)).sum) : pureF Sh.Schedule_nth_ready [dSch p c, .int n] h = .ok (.int (acc (·.1) p c (n + 1))) h := by
  refine pure_eq h (by simp) rfl ?_
  unfold Sh.Schedule_nth_ready; rw [W_fn]; unfold Sh.Schedule_nth_ready_b
  have e := sumFirst (p := p) (c := c) (·.1) (n + 1) [] hc hc2 (by simpa using hn) hs
  rw [show ((n + 1 : Nat) : Int) = (n : Int) + 1 from by simp] at e
  simp [e]
theorem drop_sums (l : List Int) : ((sums l).map D.int).drop 1 = (List.range l.length).map fun j => D.int (l.take (j + 1)).sum := by
  simp [sums, List.range_succ_eq_map, List.map_drop]
theorem sum_sub {l : List Int} (hl : ∀ x ∈ l, 1 ≤ x) {a : Nat} : ∀ {b : Nat}, a < b → b ≤ l.length → (l.take a).sum < (l.take b).sum
  | 0, h0, _ => absurd h0 (Nat.not_lt_zero _)
  | b + 1, h0, hb => by
    have hb' : b < l.length := hb
    have e := sum_take l b l[b] (by simp [hb'])
    have := hl _ (List.getElem_mem hb')
    rcases Nat.lt_or_ge a b with h1 | h1
    · have := sum_sub hl h1 (by omega)
      omega
    · have : a = b := by omega
      subst this
      omega
theorem countReady (q : Int) (h : OH) (w : Pos1 (·.1) p c) (hp2 : p.length ≤ 8) (hc2 : c.length ≤ 8) (hq : 0 ≤ q) (hs : Small (c.map (·.1)).sum) :
    ∃ n : Nat, (∀ h, pureF Sh.Schedule_count_ready [dSch p c, .int q] h = .ok (.int n) h) ∧ acc (·.1) p c n ≤ q ∧ q < acc (·.1) p c (n + 1) := by
  have hc := w.1
  have P1 : ∀ x ∈ p.map (·.1), (1 : Int) ≤ x := by simpa using w.2.1
  have C1 : ∀ x ∈ c.map (·.1), (1 : Int) ≤ x := by simpa using w.2.2
  have aP : acc (·.1) p c p.length = (p.map (·.1)).sum := by
    rw [acc_pre (Nat.le_refl _), List.take_of_length_le (by simp)]
  by_cases hlt : q < (p.map (·.1)).sum
  · have k := count_at (fun j => ((p.map (·.1)).take j).sum) q (by simpa using hq) p.length (fun a b l1 l2 => sum_sub P1 l1 (by simpa using l2)) p.length (Nat.le_refl _)
    generalize hn : ((List.range p.length).filter fun j => decide (((p.map (·.1)).take (j + 1)).sum ≤ q)).length = n at k
    obtain ⟨k1, k2, k3⟩ := k
    have nl : n < p.length := by
      rcases Nat.lt_or_ge n p.length with l | l
      · exact l
      · exfalso
        have : n = p.length := by omega
        subst this
        rw [List.take_of_length_le (by simp)] at k1
        omega
    refine ⟨n, fun h => ?_, by rw [acc_pre (by omega)]; exact k1, by rw [acc_pre (by omega)]; exact k3 nl⟩
    refine pure_eq h (by simp) rfl ?_
    unfold Sh.Schedule_count_ready; rw [W_fn]; unfold Sh.Schedule_count_ready_b
    simp [dSums, atI_m1, hlt, wipeD, cutD_drop]
    rw [← List.drop_one, drop_sums]
    refine W_lcMap (List.range (p.map (·.1)).length) (fun j => D.int ((p.map (·.1)).take (j + 1)).sum) (fun j => decide (((p.map (·.1)).take (j + 1)).sum ≤ q)) (fun j => D.int ((p.map (·.1)).take (j + 1)).sum) _ (by simp [big]; omega) (fun x hx => ⟨_, rfl, by simp⟩) ?_
    simp
    simpa using congrArg (fun z : Nat => (z : Int)) hn
  · have hC : 0 < (c.map (·.1)).sum := by
      have := sum_sub C1 (a := 0) (b := c.length) hc (by simp)
      rw [show (c.map (·.1)).take c.length = c.map (·.1) from List.take_of_length_le (by simp)] at this
      simpa using this
    obtain ⟨u, hu⟩ : ∃ u : Nat, (q - (p.map (·.1)).sum) / (c.map (·.1)).sum = u := ⟨_, (Int.toNat_of_nonneg (Int.ediv_nonneg (by omega) (by omega))).symm⟩
    obtain ⟨r, hr⟩ : ∃ r : Int, (q - (p.map (·.1)).sum) % (c.map (·.1)).sum = r := ⟨_, rfl⟩
    have r0 : 0 ≤ r := by rw [← hr]; exact Int.emod_nonneg _ (by omega)
    have r1 : r < (c.map (·.1)).sum := by rw [← hr]; exact Int.emod_lt_of_pos _ hC
    have er : q = (p.map (·.1)).sum + u * (c.map (·.1)).sum + r := by
      have := Int.mul_ediv_add_emod (q - (p.map (·.1)).sum) (c.map (·.1)).sum
      rw [hu, hr, Int.mul_comm] at this
      omega
    have k := count_at (fun j => ((c.map (·.1)).take j).sum) r (by simpa using r0) c.length (fun a b l1 l2 => sum_sub C1 l1 (by simpa using l2)) c.length (Nat.le_refl _)
    generalize hn : ((List.range c.length).filter fun j => decide (((c.map (·.1)).take (j + 1)).sum ≤ r)).length = n at k
    obtain ⟨k1, k2, k3⟩ := k
    have nl : n < c.length := by
      rcases Nat.lt_or_ge n c.length with l | l
      · exact l
      · exfalso
        have : n = c.length := by omega
        subst this
        rw [List.take_of_length_le (by simp)] at k1
        omega
    have a1 := acc_cyc (f := (·.1)) (p := p) (c := c) u n (by omega)
    have a2 := acc_cyc (f := (·.1)) (p := p) (c := c) u (n + 1) (by omega)
    have k3' := k3 nl
    refine ⟨p.length + u * c.length + n, fun h => ?_, by omega, by rw [Nat.add_assoc]; omega⟩
    refine pure_eq h (by simp) rfl ?_
    have hd : divOk (q - (p.map (·.1)).sum) (c.map (·.1)).sum = true := divOk_small hs hC
    have ml : mulOk (u : Int) (c.length : Int) = true := mulOk_r (by omega)
    unfold Sh.Schedule_count_ready; rw [W_fn]; unfold Sh.Schedule_count_ready_b
    simp [dSums, atI_m1, hlt, wipeD, cutD_drop, hd, gT, gCs, gN, gNl, seqAt, hu, hr, ml]
    rw [← List.drop_one, drop_sums]
    refine W_lcMap (List.range (c.map (·.1)).length) (fun j => D.int ((c.map (·.1)).take (j + 1)).sum) (fun j => decide (((c.map (·.1)).take (j + 1)).sum ≤ r)) (fun j => D.int ((c.map (·.1)).take (j + 1)).sum) _ (by simp [big]; omega) (fun x hx => ⟨_, rfl, by simp⟩) ?_
    simp
    simpa using congrArg (fun z : Nat => (z : Int)) hn
theorem lengthReady (q : Int) (n : Nat) (h : OH) (hc : 1 ≤ c.length) (hc2 : c.length ≤ 8) (hn : Small n) (hs : Small (c.map (·.2)).sum) (e : ∀ h, pureF Sh.Schedule_count_ready [dSch p c, .int q] h = .ok (.int n) h) : pureF Sh.Schedule_length_ready [dSch p c, .int q] h = .ok (.int (acc (·.2) p c n)) h := by
  refine pure_eq h (by simp) rfl ?_
  unfold Sh.Schedule_length_ready; rw [W_fn]; unfold Sh.Schedule_length_ready_b
  simp [e, sumFirst (p := p) (c := c) (·.2) n [] hc hc2 hn hs]
end
theorem sum_le {l : List Int} {m : Int} (hm : 0 ≤ m) : (∀ x ∈ l, x ≤ m) → l.sum ≤ l.length * m := by
  induction l with
  | nil => intro _; simp
  | cons x r ih =>
    intro hl
    have a := hl x List.mem_cons_self
    have b := ih fun y hy => hl y (List.mem_cons_of_mem _ hy)
    rw [List.sum_cons, List.length_cons]
    push_cast
    rw [Int.add_mul]
    omega
theorem sum_ge {l : List Int} : (∀ x ∈ l, 1 ≤ x) → (0 : Int) ≤ l.sum := by
  induction l with
  | nil => intro _; simp
  | cons x r ih =>
    intro hl
    have a := hl x List.mem_cons_self
    have b := ih fun y hy => hl y (List.mem_cons_of_mem _ hy)
    rw [List.sum_cons]
    omega
theorem WfTk.pos1 {m : Int} {t : Tk} (w : WfTk m t) : Pos1 (·.1) t.pre t.cyc := ⟨w.lc1, fun x hx => (w.pre x hx).1, fun x hx => (w.cyc x hx).1⟩
theorem WfTk.pos2 {m : Int} {t : Tk} (w : WfTk m t) : Pos1 (·.2) t.pre t.cyc := ⟨w.lc1, fun x hx => (w.pre x hx).2.2.1, fun x hx => (w.cyc x hx).2.2.1⟩
theorem WfTk.s1 {t : Tk} (w : WfTk T30 t) : Small (t.cyc.map (·.1)).sum := by
  have a := sum_ge (l := t.cyc.map (·.1)) (by simpa using fun a b hx => (w.cyc (a, b) hx).1)
  have b := sum_le (l := t.cyc.map (·.1)) (m := T30) (by decide) (by simpa using fun a b hx => (w.cyc (a, b) hx).2.1)
  have c := w.lc
  rw [List.length_map] at b
  exact small_lt 200 a (by simp only [T30] at b; omega)
theorem WfTk.s2 {t : Tk} (w : WfTk T30 t) : Small (t.cyc.map (·.2)).sum := by
  have a := sum_ge (l := t.cyc.map (·.2)) (by simpa using fun a b hx => (w.cyc (b, a) hx).2.2.1)
  have b := sum_le (l := t.cyc.map (·.2)) (m := T30) (by decide) (by simpa using fun a b hx => (w.cyc (b, a) hx).2.2.2)
  have c := w.lc
  rw [List.length_map] at b
  exact small_lt 200 a (by simp only [T30] at b; omega)
theorem WfTk.nth1 {m : Int} {t : Tk} (w : WfTk m t) (n : Nat) : In1 m (nth t.pre t.cyc n) := by
  rcases nth_mem (p := t.pre) w.lc1 n with h | h
  · exact w.pre _ h
  · exact w.cyc _ h
theorem WfTk.acc_le {m : Int} {t : Tk} (w : WfTk m t) (f : Int × Int → Int) (hf : ∀ x, In1 m x → f x ≤ m) : ∀ n : Nat, acc f t.pre t.cyc n ≤ n * m
  | 0 => by simp [acc]
  | n + 1 => by
    have a := hf _ (w.nth1 n)
    have b := w.acc_le f hf n
    rw [acc]
    push_cast
    rw [Int.add_mul]
    omega
end HR
set_option Elab.async false
set_option linter.all false
set_option maxRecDepth 20000
set_option Elab.async false
set_option linter.all false
set_option maxRecDepth 20000
namespace HR
open PySem L2
/-! ### inverse of a growing function: the plain law -/
/-- g l: the least q with l ≤ f q -/
def Gal (f g : Nat → Nat) : Prop := ∀ q l, l ≤ f q ↔ g l ≤ q
def Inc (f : Nat → Nat) : Prop := ∀ q, f q < f (q + 1)
section
variable {f g f' g' : Nat → Nat}
theorem Inc.lt (i : Inc f) {a : Nat} : ∀ {b : Nat}, a < b → f a < f b
  | 0, h => absurd h (Nat.not_lt_zero _)
  | b + 1, h => by
    rcases Nat.lt_or_ge a b with h1 | h1
    · exact Nat.lt_trans (i.lt h1) (i b)
    · have : a = b := by omega
      subst this; exact i a
theorem Gal.lt (a : Gal f g) {q l : Nat} (h : q < g l) : f q < l := by
  rcases Nat.lt_or_ge (f q) l with k | k
  · exact k
  · have := (a q l).mp k; omega
end
/-! ### how many talks are ready, how long they are -/
section
variable {p c : List (Int × Int)}
def cnt (p c : List (Int × Int)) : Nat → Nat
  | 0 => 0
  | q + 1 => if acc (·.1) p c (cnt p c q + 1) ≤ ((q + 1 : Nat) : Int) then cnt p c q + 1 else cnt p c q
theorem cnt_at (w : Pos1 (·.1) p c) : ∀ q : Nat, acc (·.1) p c (cnt p c q) ≤ q ∧ (q : Int) < acc (·.1) p c (cnt p c q + 1)
  | 0 => by
    have := nth_pos w 0
    refine ⟨by simp [cnt, acc], ?_⟩
    simp only [cnt, acc]
    omega
  | q + 1 => by
    obtain ⟨a, b⟩ := cnt_at w q
    unfold cnt
    by_cases h : acc (·.1) p c (cnt p c q + 1) ≤ ((q + 1 : Nat) : Int)
    · rw [if_pos h]
      refine ⟨h, ?_⟩
      have := nth_pos w (cnt p c q + 1)
      have d : acc (·.1) p c (cnt p c q + 1 + 1) = acc (·.1) p c (cnt p c q + 1) + (nth p c (cnt p c q + 1)).1 := rfl
      omega
    · rw [if_neg h]
      exact ⟨by omega, by omega⟩
theorem cnt_le (w : Pos1 (·.1) p c) (q : Nat) : cnt p c q ≤ q := by
  have a := (cnt_at w q).1
  have b := acc_ge w (cnt p c q)
  omega
/-- ticks of the talks that are ready at q -/
def len2 (p c : List (Int × Int)) (q : Nat) : Nat := (acc (·.2) p c (cnt p c q)).toNat
theorem len2_z (w : Pos1 (·.2) p c) (q : Nat) : (len2 p c q : Int) = acc (·.2) p c (cnt p c q) := Int.toNat_of_nonneg (by have := acc_ge w (cnt p c q); omega)
end
theorem lenReady {t : Tk} (w : WfTk T30 t) (q : Nat) (hq : Small q) (h : OH) : pureF Sh.Schedule_length_ready [dSch t.pre t.cyc, .int q] h = .ok (.int (len2 t.pre t.cyc q)) h := by
  obtain ⟨n, e, a, b⟩ := countReady (p := t.pre) (c := t.cyc) q [] w.pos1 w.lp w.lc (by omega) w.s1
  have hn : n = cnt t.pre t.cyc q := acc_inj w.pos1 a b (cnt_at w.pos1 q).1 (cnt_at w.pos1 q).2
  subst hn
  rw [len2_z w.pos2]
  refine lengthReady (p := t.pre) (c := t.cyc) q _ h w.lc1 w.lc ?_ w.s2 e
  have := cnt_le w.pos1 q
  have hq' : q < 2 ^ 4000 := hq
  exact Nat.lt_of_le_of_lt this hq'
/-! ### the clocks -/
def LL (ts : List Tk) (r q : Nat) : Nat := ((ts.filter fun t => t.rank == (r : Int)).map fun t => len2 t.pre t.cyc q).sum
def LI (ts : List Tk) (r q : Nat) : Nat := q + LL ts r q
theorem len2_le {t : Tk} (w : WfTk T30 t) (q : Nat) : len2 t.pre t.cyc q ≤ q * 2 ^ 100 := by
  have a := len2_z w.pos2 q
  have b := w.acc_le (·.2) (fun x hx => hx.2.2.2) (cnt t.pre t.cyc q)
  have c := cnt_le w.pos1 q
  have d : ((cnt t.pre t.cyc q : Nat) : Int) * T30 ≤ (q : Int) * T30 := Int.mul_le_mul_of_nonneg_right (by omega) (by decide)
  have e : (len2 t.pre t.cyc q : Int) ≤ (q : Int) * T30 := by omega
  simp only [show (2 : Nat) ^ 100 = 1267650600228229401496703205376 from by decide]
  simp only [T30] at e
  omega
theorem LL_le {ts : List Tk} (w : ∀ t ∈ ts, WfTk T30 t) (r q : Nat) : LL ts r q ≤ ts.length * (q * 2 ^ 100) := by
  unfold LL
  induction ts with
  | nil => simp
  | cons t ts ih =>
    have i := ih fun x hx => w x (List.mem_cons_of_mem _ hx)
    have m := len2_le (w t List.mem_cons_self) q
    rw [List.length_cons, Nat.add_mul, Nat.one_mul]
    generalize q * 2 ^ 100 = z at i m ⊢
    by_cases h : (t.rank == (r : Int)) = true
    · simp only [List.filter_cons_of_pos (p := fun t : Tk => t.rank == (r : Int)) h, List.map_cons, List.sum_cons]; omega
    · simp only [List.filter_cons_of_neg (p := fun t : Tk => t.rank == (r : Int)) h]; omega
theorem LI_le {ts : List Tk} (w : WfHall T30 ts) (r : Nat) {q k : Nat} (h : q < 2 ^ k) : LI ts r q < 2 ^ (k + 105) := by
  have a := LL_le w.tk r q
  have b := w.len
  have c : ts.length * (q * 2 ^ 100) ≤ 10 * (q * 2 ^ 100) := Nat.mul_le_mul_right _ b
  have e : (2 : Nat) ^ (k + 105) = 2 ^ k * 2 ^ 105 := Nat.pow_add ..
  have d : 2 ^ k * 2 ^ 105 ≥ (q + 1) * 2 ^ 105 := Nat.mul_le_mul_right _ h
  unfold LI
  rw [e]
  simp only [show (2 : Nat) ^ 100 = 1267650600228229401496703205376 from by decide, show (2 : Nat) ^ 105 = 40564819207303340847894502572032 from by decide] at *
  omega
end HR
set_option Elab.async false
set_option linter.all false
set_option maxRecDepth 20000
namespace HR
open PySem L2
/-! ### the clocks: what the functions of the program compute -/
def memFs (t : Tk) : List (String × D) := [("name", .str t.name), ("rank", .int t.rank), ("schedule", dSch t.pre t.cyc)]
@[simp] theorem ins_dMem (t : Tk) (h : OH) : insAt h (dMem t) = some ("Member", memFs t) := rfl
@[simp] theorem mem_1 (t : Tk) : (memFs t).lookup "name" = some (.str t.name) := rfl
@[simp] theorem mem_2 (t : Tk) : (memFs t).lookup "rank" = some (.int t.rank) := rfl
@[simp] theorem mem_3 (t : Tk) : (memFs t).lookup "schedule" = some (dSch t.pre t.cyc) := rfl
theorem ints_mapF {ξ : Type} (f : ξ → Int) : ∀ l : List ξ, intsOf (l.map fun x => .int (f x)) = some (l.map f)
  | [] => rfl
  | x :: l => by simp [intsOf, ints_mapF f l]
theorem sum_cast {ξ : Type} (f : ξ → Nat) : ∀ l : List ξ, (l.map fun x => ((f x : Nat) : Int)).sum = (((l.map f).sum : Nat) : Int)
  | [] => rfl
  | x :: l => by simp [sum_cast f l]
section
variable {ts : List Tk}
theorem rankLength (w : WfHall T30 ts) (r q : Nat) (hq : Small q) (h : OH) : pureF Sh.rank_length [.lst (ts.map dMem), .int r, .int q] h = .ok (.int (LL ts r q)) h := by
  refine pure_eq h (by simp) rfl ?_
  have hl := w.len
  unfold Sh.rank_length; rw [W_fn]; unfold Sh.rank_length_b
  simp [wipeD]
  refine W_lcMap ts dMem (fun t => t.rank == (r : Int)) (fun t => .int (len2 t.pre t.cyc q)) _ (by simp [big]; omega) (fun t ht => ⟨_, rfl, ?_⟩) ?_
  · simp [lenReady (w.tk t ht) q hq]
  · rw [ints_mapF fun t : Tk => ((len2 t.pre t.cyc q : Nat) : Int)]
    simp only [W_sumL, lkS_some, ints_mapF, sum_cast]
    simp [LL, sum_cast, ints_mapF]
theorem leftIndex (w : WfHall T30 ts) (r q : Nat) (hq : Small q) (h : OH) : pureF Sh.left_index [.lst (ts.map dMem), .int r, .int q] h = .ok (.int (LI ts r q)) h := by
  refine pure_eq h (by simp) rfl ?_
  unfold Sh.left_index; rw [W_fn]; unfold Sh.left_index_b
  simp [rankLength w r q hq, LI]
theorem small_nat {q k : Nat} (h : q < 2 ^ k) (hk : k ≤ 4000 := by decide) : Small q := small_of (k := k) h hk
/-- the i-th tick left for rank k + 1, as a tick -/
def TO (ts : List Tk) : Nat → Nat → Nat
  | 0, q => q
  | k + 1, q => TO ts k (LI ts (k + 1) q)
theorem tickOf (w : WfHall T30 ts) (k q : Nat) (hk : k < 10) (hq : q < 2 ^ 1500) (h : OH) : pureF Sh.tick_of [.lst (ts.map dMem), .int ((k + 1 : Nat) : Int), .int q] h = .ok (.int (TO ts k q)) h := by
  refine pure_eq h (by simp) rfl ?_
  unfold Sh.tick_of; rw [W_fn]; unfold Sh.tick_of_b
  have r1 : rngOk 0 = true := by decide
  have r2 : rngOk k = true := by simp [rngOk]; omega
  simp [r1, r2]
  refine W_forL (fun j e h' => h' = [] ∧ ∃ (c : Option D) (f : Nat), e = [some (.lst (ts.map dMem)), some (.int (k + 1)), some (.int q), some (.int f), c] ∧ j ≤ k ∧ f < 2 ^ (1500 + 105 * j) ∧ TO ts (k - j) f = TO ts k q) _ _ _ ⟨rfl, none, q, rfl, Nat.zero_le _, hq, rfl⟩ (fun j d hd e h' hI => ?_) (fun e h' hI => ?_)
  · obtain ⟨rfl, c, f, rfl, hj, hf, ht⟩ := hI
    obtain ⟨hj2, rfl⟩ := rngS_at hd
    refine ⟨_, rfl, ?_⟩
    have hj3 : j < k := by omega
    have e1 : (k : Int) + (j : Int) * -1 = ((k - j : Nat) : Int) := by omega
    simp only [e1]
    have hf' : f < 2 ^ 4000 := Nat.lt_of_lt_of_le hf (Nat.pow_le_pow_right (by decide) (by omega))
    have e2 := leftIndex w (k - j) f (small_nat hf')
    have e3 := LI_le w (k - j) hf
    have e4 : TO ts (k - (j + 1)) (LI ts (k - j) f) = TO ts k q := by
      rw [← ht, show k - j = (k - (j + 1)) + 1 from by omega, TO]
    generalize ((k - j : Nat) : Int) = z at e2 ⊢
    simp [e2]
    exact ⟨_, LI ts (k - j) f, ⟨rfl, rfl⟩, by omega, by rw [show 1500 + 105 * (j + 1) = 1500 + 105 * j + 105 from by omega]; exact e3, e4⟩
  · obtain ⟨rfl, c, f, rfl, hj, hf, ht⟩ := hI
    rw [rngS_len] at ht hf hj
    rw [Nat.sub_self] at ht
    simp
    rw [← ht]; simp [TO]
end
end HR
set_option Elab.async false
set_option linter.all false
set_option maxRecDepth 20000
set_option exponentiation.threshold 5000
namespace HR
open PySem L2
section
variable {ts : List Tk}
/-- the program takes d for the hall ts -/
structure Hallish (d : D) (ts : List Tk) : Prop where
  pure : d.pure = true
  chk : ∀ h, pureF Sh.checked_hall [d] h = .ok (.lst (ts.map dMem)) h
theorem hallish (w : WfHall T30 ts) : Hallish (.lst (ts.map dTk)) ts := ⟨by simp, fun h => checked ts h w⟩
theorem leftIndex' (w : WfHall T30 ts) (k q : Nat) (hq : q < 2 ^ 4000) (h : OH) : pureF Sh.left_index [.lst (ts.map dMem), .int ((k : Int) + 1), .int q] h = .ok (.int (LI ts (k + 1) q)) h := leftIndex w (k + 1) q (small_nat hq) h
theorem tickOf' (w : WfHall T30 ts) (k q : Nat) (hk : k < 10) (hq : q < 2 ^ 1500) (h : OH) : pureF Sh.tick_of [.lst (ts.map dMem), .int ((k : Int) + 1), .int q] h = .ok (.int (TO ts k q)) h := tickOf w k q hk hq h
end
end HR
set_option Elab.async false
set_option linter.all false
set_option maxRecDepth 20000
namespace HR
open PySem L2
/-! small things of many laws -/
theorem In1.mono {m m' : Int} {p : Int × Int} (w : In1 m p) (h : m ≤ m') : In1 m' p := ⟨w.1, by have := w.2.1; omega, w.2.2.1, by have := w.2.2.2; omega⟩
theorem WfHall.mono {m m' : Int} {ts : List Tk} (w : WfHall m ts) (h : m ≤ m') : WfHall m' ts := ⟨w.len, fun t ht => let a := w.tk t ht; ⟨a.name, a.r1, a.r2, a.lp, a.lc1, a.lc, fun p hp => (a.pre p hp).mono h, fun p hp => (a.cyc p hp).mono h⟩, w.nd⟩
@[simp] theorem W_addLL (xs ys : List D) (h : OH) {PD : D → OH → Prop} : (opAdd (.lst xs) (.lst ys) h).W PD = if xs.length + ys.length ≤ 1000000 then PD (.lst (xs ++ ys)) h else False := by
  simp [opAdd, lstAt, big]
@[simp] theorem SW_aug (i : Nat) (g : D → D → OH → Res D) (f : SE) (e : Env') (h : OH) {N C B : Env' → OH → Prop} {R : D → OH → Prop} : (sAug i g f e h).W N C B R = (sVar i e h).W fun x _ => (f e h).W fun y h1 => (g x y h1).W fun z h2 => N (e.set i (some z)) h2 := by
  unfold sAug sVar
  rcases e[i]? with _ | _ | x
  · rfl
  · rfl
  · simp
@[simp] theorem W_tointB (b : Bool) (h : OH) {PD : D → OH → Prop} : (opInt (.bl b) h).W PD = PD (.int (if b then 1 else 0)) h := rfl
@[simp] theorem W_tointI (b : Int) (h : OH) {PD : D → OH → Prop} : (opInt (.int b) h).W PD = PD (.int b) h := rfl
end HR
set_option Elab.async false
set_option linter.all false
set_option maxRecDepth 20000
set_option exponentiation.threshold 5000
namespace HR
open PySem L2
/-! ### who speaks: the talks that stand in line at a quiet tick -/
/-- a talk in line: whose, which, how long -/
structure Run where
  t : Tk
  i : Nat
  len : Int
def dRun (x : Run) : D := .tup [dMem x.t, .int x.i, .int x.len]
def runAt (r q : Nat) (t : Tk) : Option Run := if t.rank = (r : Int) ∧ 0 < cnt t.pre t.cyc q ∧ acc (·.1) t.pre t.cyc (cnt t.pre t.cyc q) = (q : Int) then some ⟨t, cnt t.pre t.cyc q - 1, (nth t.pre t.cyc (cnt t.pre t.cyc q - 1)).2⟩ else none
def runL (ts : List Tk) (r q : Nat) : List Run := ts.filterMap (runAt r q)
theorem pure_dRun (x : Run) : (dRun x).pure = true := by simp [dRun]
@[simp] theorem pureL_dRun (l : List Run) : D.pureL (l.map dRun) = true := pureL_map _ pure_dRun l
theorem countAt {t : Tk} (w : WfTk T30 t) (q : Nat) (h : OH) : pureF Sh.Schedule_count_ready [dSch t.pre t.cyc, .int q] h = .ok (.int (cnt t.pre t.cyc q)) h := by
  obtain ⟨n, e, a, b⟩ := countReady (p := t.pre) (c := t.cyc) q [] w.pos1 w.lp w.lc (by omega) w.s1
  have hn : n = cnt t.pre t.cyc q := acc_inj w.pos1 a b (cnt_at w.pos1 q).1 (cnt_at w.pos1 q).2
  subst hn
  exact e h
section
variable {ts : List Tk}
theorem runOf (w : WfHall T30 ts) (r q : Nat) (hq : q + 1 < 2 ^ 4000) (h : OH) : pureF Sh.run_of [.lst (ts.map dMem), .int r, .int q] h = .ok (.lst ((runL ts r q).map dRun)) h := by
  refine pure_eq h (by simp) (by simp) ?_
  unfold Sh.run_of; rw [W_fn]; unfold Sh.run_of_b
  simp
  refine W_forL (fun j e h' => h' = [.lst (((ts.take j).filterMap (runAt r q)).map dRun)] ∧ ∃ a b : Option D, e = [some (.lst (ts.map dMem)), some (.int r), some (.int q), some (.ref 0), a, b]) _ _ _ ⟨rfl, none, none, rfl⟩ (fun j d hd e h' hI => ?_) (fun e h' hI => ?_)
  · obtain ⟨rfl, a, b, rfl⟩ := hI
    rw [List.getElem?_map, Option.map_eq_some_iff] at hd
    obtain ⟨t, hx, rfl⟩ := hd
    have hj := (List.getElem?_eq_some_iff.mp hx).1
    have wt := w.tk t (List.mem_of_getElem? hx)
    have hl := w.len
    have lf : ((ts.take j).filterMap (runAt r q)).length < 1000000 := by
      have a1 := List.length_filterMap_le (runAt r q) (ts.take j)
      have a2 : (ts.take j).length ≤ ts.length := by rw [List.length_take]; omega
      omega
    have et : ts.take (j + 1) = ts.take j ++ [t] := by rw [List.take_succ, hx]; rfl
    have hc := cnt_le wt.pos1 q
    refine ⟨_, rfl, ?_⟩
    simp [countAt wt q]
    by_cases h1 : t.rank = (r : Int)
    · by_cases h2 : 0 < cnt t.pre t.cyc q
      · have e1 : (cnt t.pre t.cyc q : Int) - 1 = ((cnt t.pre t.cyc q - 1 : Nat) : Int) := by omega
        have e2 : cnt t.pre t.cyc q - 1 + 1 = cnt t.pre t.cyc q := by omega
        have n1 := fun h => nthReady (p := t.pre) (c := t.cyc) (cnt t.pre t.cyc q - 1) h wt.lc1 wt.lc (small_of (k := 4000) (by omega) (by decide)) wt.s1
        have n2 := fun h => nthTalk (p := t.pre) (c := t.cyc) (cnt t.pre t.cyc q - 1) h wt.lc1 wt.lc
        rw [e2] at n1
        rw [e1]
        obtain ⟨m, hm⟩ : ∃ m, m = cnt t.pre t.cyc q - 1 := ⟨_, rfl⟩
        rw [← hm] at n1 n2 ⊢
        by_cases h3 : acc (·.1) t.pre t.cyc (cnt t.pre t.cyc q) = (q : Int)
        · simp [h1, h2, n1, n2, h3, dT]
          refine ⟨by simpa using lf, ?_⟩
          rw [et, List.filterMap_append]
          simp [runAt, h1, h2, h3, dRun, hm]
        · simp [h1, h2, n1, h3]
          rw [et, List.filterMap_append]
          simp [runAt, h3]
      · simp [h1, h2]
        rw [et, List.filterMap_append]
        simp [runAt, h2]
    · simp [h1]
      rw [et, List.filterMap_append]
      simp [runAt, h1]
  · obtain ⟨rfl, a, b, rfl⟩ := hI
    simp [runL]
/-! ### the descent -/
abbrev Trip := Nat × Nat × Nat
def dTrip (x : Trip) : D := .tup [.int x.1, .int x.2.1, .int x.2.2]
theorem pure_dTrip (x : Trip) : (dTrip x).pure = true := by simp [dTrip]
@[simp] theorem pureL_dTrip (l : List Trip) : D.pureL (l.map dTrip) = true := pureL_map _ pure_dTrip l
/-! ### the talk at a tick -/
end
end HR
set_option Elab.async false
set_option linter.all false
set_option maxRecDepth 20000
set_option exponentiation.threshold 5000
namespace HR
open PySem L2
/-! ### progress of a talker before a tick; the span of a talk -/
section
variable {ts : List Tk} {t : Tk}
theorem strOk_nm {x : Str} (w : WfN x) : PyData.strOk x = true := by
  have e : ∀ c ∈ ("abcdefghijklmnopqrstuvwxyz" : Str).cps.toList, c < 0x110000 := by decide +kernel
  simp only [PyData.strOk, Array.all_eq_true_iff_forall_mem, decide_eq_true_eq]
  exact fun c hc => e c (w.2.2 c (Array.mem_toList_iff.mpr hc))
theorem runL_mem {r q : Nat} {x : Run} (h : x ∈ runL ts r q) : x.t ∈ ts := by
  obtain ⟨t, ht, e⟩ := List.mem_filterMap.mp h
  unfold runAt at e
  split at e
  · cases e; exact ht
  · cases e
end
end HR
set_option Elab.async false
set_option linter.all false
set_option maxRecDepth 20000
set_option exponentiation.threshold 5000
namespace HR
open PySem L2
section
variable {ts : List Tk} {t : Tk}
def sfold (x : Str) : Int → List Run → Int
  | f, [] => f
  | f, y :: r => if y.t.name = x then f else sfold x (f + y.len) r
def Q1 (t : Tk) (n : Nat) : Nat := (acc (·.1) t.pre t.cyc (n + 1)).toNat
theorem Q1_z (w : WfTk T30 t) (n : Nat) : ((Q1 t n : Nat) : Int) = acc (·.1) t.pre t.cyc (n + 1) ∧ n + 1 ≤ Q1 t n := by
  have := acc_ge w.pos1 (n + 1)
  have e : ((Q1 t n : Nat) : Int) = acc (·.1) t.pre t.cyc (n + 1) := Int.toNat_of_nonneg (by omega)
  exact ⟨e, by omega⟩
theorem Q1_le (w : WfTk T30 t) (n : Nat) : Q1 t n ≤ (n + 1) * 2 ^ 100 := by
  have a := (Q1_z w n).1
  have b := w.acc_le (·.1) (fun x hx => hx.2.1) (n + 1)
  simp only [show (2 : Nat) ^ 100 = 1267650600228229401496703205376 from by decide]
  simp only [T30] at b
  omega
theorem sfold_le (x : Str) : ∀ (l : List Run) (f : Int), (∀ y ∈ l, 0 ≤ y.len ∧ y.len ≤ T30) → f ≤ sfold x f l ∧ sfold x f l ≤ f + l.length * T30
  | [], f, _ => by simp [sfold]
  | y :: r, f, h => by
    have hy := h y List.mem_cons_self
    have ih := sfold_le x r (f + y.len) fun z hz => h z (List.mem_cons_of_mem _ hz)
    unfold sfold
    rw [List.length_cons]
    push_cast
    rw [Int.add_mul]
    split
    · have : (0 : Int) ≤ (r.length : Int) * T30 := Int.mul_nonneg (by omega) (by decide)
      simp only [T30] at *
      omega
    · omega
theorem runL_len (w : WfHall T30 ts) {r q : Nat} {x : Run} (h : x ∈ runL ts r q) : 0 ≤ x.len ∧ x.len ≤ T30 := by
  obtain ⟨t, ht, e⟩ := List.mem_filterMap.mp h
  unfold runAt at e
  split at e
  · cases e
    have := (w.tk t ht).nth1 (cnt t.pre t.cyc q - 1)
    exact ⟨by have := this.2.2.1; dsimp only; omega, this.2.2.2⟩
  · cases e
theorem runL_length (w : WfHall T30 ts) (r q : Nat) : (runL ts r q).length ≤ 10 := Nat.le_trans (List.length_filterMap_le _ _) w.len
/-- the first tick of a talk, as its rank counts -/
def spI (ts : List Tk) (t : Tk) (r n : Nat) : Int := sfold t.name ((LI ts r (Q1 t n - 1) : Int) + 1) (runL ts r (Q1 t n))
def spF (ts : List Tk) (t : Tk) (r n : Nat) : Nat := (spI ts t r n).toNat
def spL (ts : List Tk) (t : Tk) (r n : Nat) : Nat := (spI ts t r n + (nth t.pre t.cyc n).2 - 1).toNat
theorem sp_ok (w : WfHall T30 ts) (ht : t ∈ ts) (r n : Nat) (hn : n + 1 < 2 ^ 200) : spI ts t r n = spF ts t r n ∧ spI ts t r n + (nth t.pre t.cyc n).2 - 1 = spL ts t r n ∧ spF ts t r n < 2 ^ 500 ∧ spL ts t r n < 2 ^ 500 := by
  have wt := w.tk t ht
  have a := sfold_le t.name (runL ts r (Q1 t n)) ((LI ts r (Q1 t n - 1) : Int) + 1) fun y hy => runL_len w hy
  have b := runL_length w r (Q1 t n)
  have c := Q1_le wt n
  have d : Q1 t n - 1 < 2 ^ 300 := by
    have : (n + 1) * 2 ^ 100 < 2 ^ 200 * 2 ^ 100 := Nat.mul_lt_mul_of_pos_right hn (by decide)
    rw [← Nat.pow_add] at this
    have e : (200 + 100) = 300 := rfl
    omega
  have e := LI_le w r d
  have e1 : (2 : Nat) ^ (300 + 105) + 2 ^ 150 < 2 ^ 500 := by decide
  have hl := wt.nth1 n
  have l1 := hl.2.2.1
  have l2 := hl.2.2.2
  have m : ((runL ts r (Q1 t n)).length : Int) * T30 ≤ 10 * T30 := Int.mul_le_mul_of_nonneg_right (by omega) (by decide)
  have i0 : 0 ≤ spI ts t r n := by unfold spI; omega
  have i1 : spI ts t r n ≤ (LI ts r (Q1 t n - 1) : Int) + 1 + 10 * T30 := by unfold spI; omega
  have f1 : spI ts t r n = spF ts t r n := (Int.toNat_of_nonneg i0).symm
  have f2 : spI ts t r n + (nth t.pre t.cyc n).2 - 1 = spL ts t r n := (Int.toNat_of_nonneg (by omega)).symm
  have t1 : (T30 : Int) * 12 < ((2 ^ 150 : Nat) : Int) := by decide
  generalize (2 : Nat) ^ (300 + 105) = A at e e1
  generalize (2 : Nat) ^ 150 = B at t1 e1
  generalize (2 : Nat) ^ 500 = G at e1 ⊢
  simp only [T30] at *
  exact ⟨f1, f2, by omega, by omega⟩
theorem spanBy (w : WfHall T30 ts) (ht : t ∈ ts) (k n : Nat) (hk : k < 10) (hr : t.rank = (k : Int) + 1) (hn : n + 1 < 2 ^ 200) (h : OH) : pureF Sh.span_by [.lst (ts.map dMem), dMem t, .int n] h = .ok (.tup [.int (TO ts k (spF ts t (k + 1) n)), .int (TO ts k (spL ts t (k + 1) n))]) h := by
  refine pure_eq h (by simp) (by simp) ?_
  have wt := w.tk t ht
  obtain ⟨s1, s2, s3, s4⟩ := sp_ok w ht (k + 1) n hn
  have p500 : ∀ {x : Nat}, x < 2 ^ 500 → x < 2 ^ 1500 := fun hx => Nat.lt_of_lt_of_le hx (Nat.pow_le_pow_right (by decide) (by decide))
  have e1 := fun h => nthReady (p := t.pre) (c := t.cyc) n h wt.lc1 wt.lc (by rw [show (n : Int) + 1 = ((n + 1 : Nat) : Int) from by simp]; exact small_of (k := 200) (by omega) (by decide)) wt.s1
  obtain ⟨z1, z2⟩ := Q1_z wt n
  rw [← z1] at e1
  have c := Q1_le wt n
  have d : Q1 t n + 1 < 2 ^ 4000 := by
    have : (n + 1) * 2 ^ 100 < 2 ^ 200 * 2 ^ 100 := Nat.mul_lt_mul_of_pos_right hn (by decide)
    rw [← Nat.pow_add] at this
    have e : (2 : Nat) ^ (200 + 100) + 5 < 2 ^ 4000 := by decide
    omega
  have z3 : (Q1 t n : Int) - 1 = ((Q1 t n - 1 : Nat) : Int) := by omega
  have e2 : ∀ h, pureF Sh.left_index [.lst (ts.map dMem), .int ((k : Int) + 1), .int ((Q1 t n : Int) - 1)] h = .ok (.int (LI ts (k + 1) (Q1 t n - 1))) h := fun h => by
    rw [z3]; exact leftIndex' w k (Q1 t n - 1) (by omega) h
  have e3 : ∀ h, pureF Sh.run_of [.lst (ts.map dMem), .int ((k : Int) + 1), .int (Q1 t n)] h = _ := fun h => runOf w (k + 1) (Q1 t n) d h
  have e4 := fun h => nthTalk (p := t.pre) (c := t.cyc) n h wt.lc1 wt.lc
  have e5 := tickOf' w k (spF ts t (k + 1) n) hk (p500 s3)
  have e6 := tickOf' w k (spL ts t (k + 1) n) hk (p500 s4)
  rw [← s1] at e5
  rw [← s2] at e6
  unfold Sh.span_by; rw [W_fn]; unfold Sh.span_by_b
  simp [hr, e1, e2, e3]
  have eS : spI ts t (k + 1) n = sfold t.name ((LI ts (k + 1) (Q1 t n - 1) : Int) + 1) (runL ts (k + 1) (Q1 t n)) := rfl
  refine W_forL (fun j e h' => h' = [] ∧ ∃ (f : Int) (a b c : Option D), e = [some (.lst (ts.map dMem)), some (dMem t), some (.int n), some (.int (Q1 t n)), some (.int f), a, b, c, none] ∧ sfold t.name f ((runL ts (k + 1) (Q1 t n)).drop j) = spI ts t (k + 1) n) _ _ _ ⟨rfl, _, _, _, _, rfl, rfl⟩ (fun j d hd e h' hI => ?_) (fun e h' hI => ?_)
  · obtain ⟨rfl, f, a, b, c, rfl, hf⟩ := hI
    rw [List.getElem?_map, Option.map_eq_some_iff] at hd
    obtain ⟨x, hx, rfl⟩ := hd
    have hj := (List.getElem?_eq_some_iff.mp hx).1
    have wx := w.tk x.t (runL_mem (List.mem_of_getElem? hx))
    have ed : (runL ts (k + 1) (Q1 t n)).drop j = x :: (runL ts (k + 1) (Q1 t n)).drop (j + 1) := by
      rw [List.drop_eq_getElem_cons hj]
      congr 1
      exact (List.getElem?_eq_some_iff.mp hx).2
    rw [ed, sfold] at hf
    refine ⟨_, rfl, ?_⟩
    simp [W_eqS, strOk_nm wx.name, strOk_nm wt.name]
    by_cases hn : x.t.name = t.name
    · rw [if_pos hn] at hf
      subst hf
      simp [hn, e4, dT, hr, e5, e6]
    · rw [if_neg hn] at hf
      simp [hn]
      exact hf
  · obtain ⟨rfl, f, a, b, c, rfl, hf⟩ := hI
    rw [List.length_map, List.drop_length, sfold] at hf
    subst hf
    simp [e4, dT, hr, e5, e6]
end
end HR
set_option Elab.async false
set_option linter.all false
set_option maxRecDepth 20000
set_option exponentiation.threshold 5000
namespace HR
open PySem L2
/-! ### divisors and multiples -/
/-- the binary length -/
def bl2 (a : Nat) : Nat := if a = 0 then 0 else a.log2 + 1
theorem bl2_half {a r : Nat} (h0 : 0 < r) (h : 2 * r ≤ a) : bl2 r + 1 ≤ bl2 a := by
  unfold bl2
  rw [if_neg (by omega), if_neg (by omega)]
  have e : 2 ^ r.log2 ≤ r := Nat.log2_self_le (by omega)
  have := (Nat.le_log2 (k := r.log2 + 1) (n := a) (by omega)).mpr (by rw [Nat.pow_succ]; omega)
  omega
theorem bl2_mono {a b : Nat} (h : a ≤ b) : bl2 a ≤ bl2 b := by
  unfold bl2
  by_cases ha : a = 0
  · rw [if_pos ha]; exact Nat.zero_le _
  · rw [if_neg ha, if_neg (by omega)]
    have e : 2 ^ a.log2 ≤ a := Nat.log2_self_le ha
    have := (Nat.le_log2 (k := a.log2) (n := b) (by omega)).mpr (by omega)
    omega
theorem bl2_lt {a k : Nat} (h : a < 2 ^ k) : bl2 a ≤ k := by
  unfold bl2
  by_cases ha : a = 0
  · rw [if_pos ha]; exact Nat.zero_le _
  · rw [if_neg ha]
    have := (Nat.log2_lt ha).mpr h
    omega
theorem bl2_mul (a b : Nat) : bl2 (a * b) ≤ bl2 a + bl2 b := by
  by_cases ha : a = 0
  · subst ha; simp [bl2]
  · by_cases hb : b = 0
    · subst hb; simp [bl2]
    · refine bl2_lt ?_
      have h1 : a < 2 ^ bl2 a := by unfold bl2; rw [if_neg ha]; exact Nat.lt_log2_self
      have h2 : b < 2 ^ bl2 b := by unfold bl2; rw [if_neg hb]; exact Nat.lt_log2_self
      rw [Nat.pow_add]
      exact Nat.mul_lt_mul'' h1 h2
theorem bl2_log {a k : Nat} (h : bl2 a ≤ k) : a.log2 ≤ k := by
  unfold bl2 at h
  split at h
  · rename_i e; subst e; simp
  · omega
theorem mulOk_bl {a b : Nat} (h : bl2 a + bl2 b < 900000) : mulOk (a : Int) (b : Int) = true := by
  have h1 := bl2_log (Nat.le_refl (bl2 a))
  have h2 := bl2_log (Nat.le_refl (bl2 b))
  simp only [mulOk, Int.natAbs_natCast, Bool.or_eq_true, decide_eq_true_eq]
  right
  omega
theorem divOk_bl {i : Int} {b : Nat} (h0 : 0 < b) (h : bl2 b < 9000) : divOk i (b : Int) = true := by
  have h1 := bl2_log (Nat.le_refl (bl2 b))
  simp only [divOk, Int.natAbs_natCast, Bool.and_eq_true, decide_eq_true_eq]
  exact ⟨by omega, by omega⟩
/-- how far a step of the division algorithm is from its end -/
def gmu (a b : Nat) : Nat := 2 * (bl2 a + bl2 b) + if a < b then 1 else 0
theorem gmu_step {a b : Nat} (h : 0 < b) : gmu b (a % b) < gmu a b := by
  unfold gmu
  have hr := Nat.mod_lt a h
  rw [if_neg (by omega)]
  by_cases c : a < b
  · rw [if_pos c, Nat.mod_eq_of_lt c]; omega
  · rw [if_neg c]
    by_cases z : a % b = 0
    · rw [z]
      have : 1 ≤ bl2 a := by unfold bl2; rw [if_neg (by omega)]; omega
      have e0 : bl2 0 = 0 := rfl
      omega
    · have := Nat.div_add_mod a b
      have q : 1 ≤ a / b := Nat.div_pos (by omega) h
      have q2 : b ≤ b * (a / b) := Nat.le_mul_of_pos_right b q
      have := bl2_half (a := a) (r := a % b) (by omega) (by omega)
      omega
theorem gcd_ok {a b : Nat} (h : OH) (hb : bl2 a + bl2 b < 400000) : pureF Sh.common_divisor [.int (a : Int), .int (b : Int)] h = .ok (.int ((Nat.gcd a b : Nat) : Int)) h := by
  refine pure_eq h rfl rfl ?_
  unfold Sh.common_divisor; rw [W_fn]; unfold Sh.common_divisor_b
  refine SW_seqK fun K hK => ?_
  refine W_while (I := fun e _ => ∃ x y : Nat, e = [some (.int (x : Int)), some (.int (y : Int))] ∧ Nat.gcd x y = Nat.gcd a b) (fun e _ => match e with
    | [some (.int x), some (.int y)] => gmu x.toNat y.toNat
    | _ => 0) ⟨a, b, rfl, rfl⟩ (by show gmu (a : Int).toNat (b : Int).toNat < 1000000; simp only [Int.toNat_natCast, gmu]; split <;> omega) fun e h hI => ?_
  obtain ⟨x, y, rfl, hg⟩ := hI
  simp
  by_cases hy : 0 < y
  · have hy2 : (0 : Int) < y := by omega
    simp [sPar, hy, hy2]
    exact ⟨⟨y, x % y, ⟨rfl, rfl⟩, by rw [← hg, Nat.gcd_comm x y, Nat.gcd_rec y x, Nat.gcd_comm]⟩, gmu_step hy⟩
  · have hy0 : y = 0 := by omega
    subst hy0
    simp
    refine hK _ _ ?_
    simp
    rw [← hg]
    simp
theorem lcm_ok {a b : Nat} (h : OH) (ha : 0 < a) (hb : bl2 a + bl2 b < 4000) : pureF Sh.common_multiple [.int (a : Int), .int (b : Int)] h = .ok (.int ((Nat.lcm a b : Nat) : Int)) h := by
  refine pure_eq h rfl rfl ?_
  unfold Sh.common_multiple; rw [W_fn]; unfold Sh.common_multiple_b
  have g0 : 0 < Nat.gcd a b := Nat.gcd_pos_of_pos_left _ ha
  have g1 : bl2 (Nat.gcd a b) ≤ bl2 a := bl2_mono (Nat.gcd_le_left _ ha)
  have d1 : divOk (a : Int) ((Nat.gcd a b : Nat) : Int) = true := divOk_bl g0 (by omega)
  have e1 : (a : Int) / ((Nat.gcd a b : Nat) : Int) = ((a / Nat.gcd a b : Nat) : Int) := rfl
  have m1 : mulOk ((a / Nat.gcd a b : Nat) : Int) (b : Int) = true := mulOk_bl (by have := bl2_mono (Nat.div_le_self a (Nat.gcd a b)); omega)
  have e2 : ((a / Nat.gcd a b : Nat) : Int) * (b : Int) = ((Nat.lcm a b : Nat) : Int) := by
    rw [← Int.natCast_mul]
    congr 1
    rw [Nat.lcm, Nat.div_mul_right_comm (Nat.gcd_dvd_left a b)]
  have gc := fun h => gcd_ok (a := a) (b := b) h (by omega)
  simp [gc, d1]
  rw [e1, m1, e2]
  exact ⟨rfl, rfl⟩
end HR
set_option Elab.async false
set_option linter.all false
set_option maxRecDepth 20000
set_option exponentiation.threshold 5000
namespace HR
open PySem L2
/-! ### shares: the maths -/
/-- the silences of a cycle, its talks -/
def qs (t : Tk) : Nat := ((t.cyc.map fun p : Int × Int => p.1).sum).toNat
def ql (t : Tk) : Nat := ((t.cyc.map fun p : Int × Int => p.2).sum).toNat
theorem sum_rng {f : Int × Int → Int} {m : Int} : ∀ {l : List (Int × Int)}, (∀ p ∈ l, 1 ≤ f p ∧ f p ≤ m) → (l.length : Int) ≤ (l.map f).sum ∧ (l.map f).sum ≤ l.length * m
  | [], _ => by simp
  | p :: l, h => by
    have a := h p List.mem_cons_self
    have b := sum_rng (l := l) fun q hq => h q (List.mem_cons_of_mem _ hq)
    simp only [List.map_cons, List.sum_cons, List.length_cons]
    have e : ((l.length + 1 : Nat) : Int) * m = l.length * m + m := by rw [Int.natCast_add, Int.add_mul]; simp
    rw [e]
    omega
theorem t30_bl {n : Nat} (h : (n : Int) ≤ 8 * T30) : bl2 n ≤ 103 := bl2_lt (by simp only [T30] at h; omega)
section
variable {t : Tk} (w : WfTk T30 t)
include w
theorem qs_int : (t.cyc.map (·.1)).sum = (qs t : Int) := by
  have := (sum_rng (f := (·.1)) (m := T30) (l := t.cyc) fun p hp => ⟨(w.cyc p hp).1, (w.cyc p hp).2.1⟩).1
  unfold qs
  omega
theorem ql_int : (t.cyc.map (·.2)).sum = (ql t : Int) := by
  have := (sum_rng (f := (·.2)) (m := T30) (l := t.cyc) fun p hp => ⟨(w.cyc p hp).2.2.1, (w.cyc p hp).2.2.2⟩).1
  unfold ql
  omega
theorem qs_pos : 0 < qs t := by
  have := (sum_rng (f := (·.1)) (m := T30) (l := t.cyc) fun p hp => ⟨(w.cyc p hp).1, (w.cyc p hp).2.1⟩).1
  have := w.lc1
  have := qs_int w
  omega
theorem len_t30 : (t.cyc.length : Int) * T30 ≤ 8 * T30 := Int.mul_le_mul_of_nonneg_right (by have := w.lc; omega) (by decide)
theorem qs_bl : bl2 (qs t) ≤ 103 := t30_bl (by
  have := (sum_rng (f := (·.1)) (m := T30) (l := t.cyc) fun p hp => ⟨(w.cyc p hp).1, (w.cyc p hp).2.1⟩).2
  have := len_t30 w
  have := qs_int w
  omega)
theorem ql_bl : bl2 (ql t) ≤ 103 := t30_bl (by
  have := (sum_rng (f := (·.2)) (m := T30) (l := t.cyc) fun p hp => ⟨(w.cyc p hp).2.2.1, (w.cyc p hp).2.2.2⟩).2
  have := len_t30 w
  have := ql_int w
  omega)
end
/-- the talkers of a rank -/
def mt (ts : List Tk) (r : Nat) : List Tk := ts.filter fun t => decide (t.rank = (r : Int))
/-- the talkers down to a rank -/
def mu (ts : List Tk) (r : Nat) : List Tk := ts.filter fun t => decide (t.rank ≤ (r : Int))
theorem mu_sum (f : Tk → Nat) (r : Nat) : ∀ ts : List Tk, ((mu ts (r + 1)).map f).sum = ((mu ts r).map f).sum + ((mt ts (r + 1)).map f).sum
  | [] => rfl
  | t :: ts => by
    have ih := mu_sum f r ts
    unfold mu mt at *
    simp only [List.filter_cons]
    by_cases a : t.rank ≤ (r : Int)
    · have da : decide (t.rank ≤ (r : Int)) = true := decide_eq_true a
      have db : decide (t.rank ≤ ((r + 1 : Nat) : Int)) = true := decide_eq_true (by omega)
      have dc : decide (t.rank = ((r + 1 : Nat) : Int)) = false := decide_eq_false (by omega)
      simp only [da, db, dc, if_true, Bool.false_eq_true, if_false, List.map_cons, List.sum_cons]
      omega
    · have da : decide (t.rank ≤ (r : Int)) = false := decide_eq_false a
      by_cases c : t.rank = ((r + 1 : Nat) : Int)
      · have db : decide (t.rank ≤ ((r + 1 : Nat) : Int)) = true := decide_eq_true (by omega)
        have dc : decide (t.rank = ((r + 1 : Nat) : Int)) = true := decide_eq_true c
        simp only [da, db, dc, if_true, Bool.false_eq_true, if_false, List.map_cons, List.sum_cons]
        omega
      · have db : decide (t.rank ≤ ((r + 1 : Nat) : Int)) = false := decide_eq_false (by omega)
        have dc : decide (t.rank = ((r + 1 : Nat) : Int)) = false := decide_eq_false c
        simp only [da, db, dc, Bool.false_eq_true, if_false]
        exact ih
theorem sum_ones (l : List Tk) : (l.map fun _ => 1).sum = l.length := by
  induction l with
  | nil => rfl
  | cons x l ih => rw [List.map_cons, List.sum_cons, ih, List.length_cons]; omega
theorem mu_len (r : Nat) (ts : List Tk) : (mu ts (r + 1)).length = (mu ts r).length + (mt ts (r + 1)).length := by
  have := mu_sum (fun _ => 1) r ts
  rw [sum_ones, sum_ones, sum_ones] at this
  exact this
theorem mu_all {ts : List Tk} (h : ∀ t ∈ ts, t.rank ≤ 10) : mu ts 10 = ts := List.filter_eq_self.mpr fun t ht => decide_eq_true (h t ht)
theorem mu_zero {ts : List Tk} (h : ∀ t ∈ ts, 1 ≤ t.rank) : mu ts 0 = [] := List.filter_eq_nil_iff.mpr fun t ht => by
  have := h t ht
  simp only [decide_eq_true_eq]
  omega
/-- how long a rank takes for its silences: Q, a common multiple of them -/
structure QF (Q : List Tk → Nat) : Prop where
  nil : Q [] = 1
  dvd : ∀ {us : List Tk} {u : Tk}, u ∈ us → qs u ∣ Q us
  pos : ∀ {us : List Tk}, (∀ u ∈ us, 0 < qs u) → 0 < Q us
  bl : ∀ {us : List Tk}, (∀ u ∈ us, bl2 (qs u) ≤ 103) → bl2 (Q us) ≤ 1 + 103 * us.length
  dl : ∀ {us : List Tk} {u : Tk}, (∀ u ∈ us, bl2 (qs u) ≤ 103 ∧ 0 < qs u) → u ∈ us → bl2 (Q us / qs u) + 103 ≤ 1 + 103 * us.length
def lcmL (us : List Tk) : Nat := us.foldl (fun a u => Nat.lcm a (qs u)) 1
def prL (us : List Tk) : Nat := us.foldl (fun a u => a * qs u) 1
theorem lcmF_dvd : ∀ (us : List Tk) (a : Nat), a ∣ us.foldl (fun a u => Nat.lcm a (qs u)) a ∧ ∀ u ∈ us, qs u ∣ us.foldl (fun a u => Nat.lcm a (qs u)) a
  | [], a => ⟨Nat.dvd_refl _, by simp⟩
  | v :: us, a => by
    obtain ⟨h1, h2⟩ := lcmF_dvd us (Nat.lcm a (qs v))
    simp only [List.foldl_cons]
    refine ⟨Nat.dvd_trans (Nat.dvd_lcm_left _ _) h1, fun u hu => ?_⟩
    rcases List.mem_cons.mp hu with rfl | hu
    · exact Nat.dvd_trans (Nat.dvd_lcm_right _ _) h1
    · exact h2 u hu
theorem prF_mul : ∀ (us : List Tk) (a : Nat), us.foldl (fun a u => a * qs u) a = a * us.foldl (fun a u => a * qs u) 1
  | [], a => by simp
  | v :: us, a => by
    simp only [List.foldl_cons]
    rw [prF_mul us (a * qs v), prF_mul us (1 * qs v), Nat.one_mul, Nat.mul_assoc]
theorem prL_cons (v : Tk) (us : List Tk) : prL (v :: us) = qs v * prL us := by
  unfold prL
  rw [List.foldl_cons, prF_mul, Nat.one_mul]
theorem lcmF_pr : ∀ (us : List Tk) (a : Nat), us.foldl (fun a u => Nat.lcm a (qs u)) a ∣ a * prL us
  | [], a => by simp [prL]
  | v :: us, a => by
    simp only [List.foldl_cons]
    rw [prL_cons, ← Nat.mul_assoc]
    refine Nat.dvd_trans (lcmF_pr us _) (Nat.mul_dvd_mul_right ?_ _)
    exact Nat.lcm_dvd_mul _ _
theorem prL_pos {us : List Tk} (h : ∀ u ∈ us, 0 < qs u) : 0 < prL us := by
  induction us with
  | nil => decide
  | cons v us ih =>
    rw [prL_cons]
    exact Nat.mul_pos (h v List.mem_cons_self) (ih fun u hu => h u (List.mem_cons_of_mem _ hu))
theorem prL_bl {us : List Tk} (h : ∀ u ∈ us, bl2 (qs u) ≤ 103) : bl2 (prL us) ≤ 1 + 103 * us.length := by
  induction us with
  | nil => decide
  | cons v us ih =>
    rw [prL_cons]
    have := bl2_mul (qs v) (prL us)
    have := h v List.mem_cons_self
    have := ih fun u hu => h u (List.mem_cons_of_mem _ hu)
    simp only [List.length_cons]
    omega
theorem lcmL_dvd_pr (us : List Tk) : lcmL us ∣ prL us := by
  have := lcmF_pr us 1
  rwa [Nat.one_mul] at this
theorem prL_dvd {us : List Tk} {u : Tk} (h : u ∈ us) : qs u ∣ prL us := by
  induction us with
  | nil => simp at h
  | cons v us ih =>
    rw [prL_cons]
    rcases List.mem_cons.mp h with rfl | h
    · exact Nat.dvd_mul_right _ _
    · exact Nat.dvd_trans (ih h) (Nat.dvd_mul_left _ _)
theorem prL_dl {us : List Tk} {u : Tk} (h : ∀ u ∈ us, bl2 (qs u) ≤ 103 ∧ 0 < qs u) (hu : u ∈ us) : bl2 (prL us / qs u) + 103 ≤ 1 + 103 * us.length := by
  induction us with
  | nil => simp at hu
  | cons v us ih =>
    rw [prL_cons]
    simp only [List.length_cons]
    have hv := h v List.mem_cons_self
    by_cases e : u = v
    · subst e
      rw [Nat.mul_div_cancel_left _ hv.2]
      have := prL_bl (us := us) fun w hw => (h w (List.mem_cons_of_mem _ hw)).1
      omega
    · have hm : u ∈ us := by
        rcases List.mem_cons.mp hu with z | z
        · exact absurd z e
        · exact z
      rw [Nat.mul_div_assoc _ (prL_dvd hm)]
      have := bl2_mul (qs v) (prL us / qs u)
      have := ih (fun w hw => h w (List.mem_cons_of_mem _ hw)) hm
      omega
theorem qf_lcm : QF lcmL where
  dl := fun {us u} h hu => by
    have hp := prL_pos (us := us) fun v hv => (h v hv).2
    have h1 : lcmL us / qs u ≤ prL us / qs u := Nat.div_le_div_right (Nat.le_of_dvd hp (lcmL_dvd_pr us))
    have := bl2_mono h1
    have := prL_dl h hu
    omega
  nil := rfl
  dvd := fun hu => (lcmF_dvd _ 1).2 _ hu
  pos := fun h => Nat.pos_of_dvd_of_pos (lcmL_dvd_pr _) (prL_pos h)
  bl := fun {us} h => by
    by_cases z : prL us = 0
    · by_cases e : lcmL us = 0
      · rw [e]; simp [bl2]
      · -- a zero silence: the multiple is zero, too
        exfalso
        have : ∃ u ∈ us, qs u = 0 := by
          refine Classical.byContradiction fun c => ?_
          have := prL_pos (us := us) fun u hu => Nat.pos_of_ne_zero fun q => c ⟨u, hu, q⟩
          omega
        obtain ⟨u, hu, q⟩ := this
        have := (lcmF_dvd us 1).2 u hu
        rw [q] at this
        exact e (Nat.eq_zero_of_zero_dvd this)
    · exact Nat.le_trans (bl2_mono (Nat.le_of_dvd (by omega) (lcmL_dvd_pr us))) (prL_bl h)
/-- what a talker speaks meanwhile; how many ticks it takes -/
def sk (q : Nat) (u : Tk) : Nat := q / qs u * ql u
def lf (Q : List Tk → Nat) (us : List Tk) : Nat := Q us + (us.map (sk (Q us))).sum
/-- the products down to a rank -/
def tp (Q : List Tk → Nat) (ts : List Tk) : Nat → Nat
  | 0 => 1
  | k + 1 => tp Q ts k * Q (mt ts (k + 1))
def bt (Q : List Tk → Nat) (ts : List Tk) : Nat → Nat
  | 0 => 1
  | k + 1 => bt Q ts k * lf Q (mt ts (k + 1))
/-- the share of a talker, not yet in lowest terms -/
def fr (Q : List Tk → Nat) (ts : List Tk) (u : Tk) : Nat × Nat := (tp Q ts (u.rank.toNat - 1) * sk (Q (mt ts u.rank.toNat)) u, bt Q ts u.rank.toNat)
def red (p : Nat × Nat) : Nat × Nat := (p.1 / Nat.gcd p.1 p.2, p.2 / Nat.gcd p.1 p.2)
section
variable {Q : List Tk → Nat} (qf : QF Q) {ts : List Tk} (w : WfHall T30 ts)
include w
theorem mt_wf {r : Nat} {u : Tk} (h : u ∈ mt ts r) : u ∈ ts ∧ WfTk T30 u ∧ u.rank = r := by
  obtain ⟨a, b⟩ := List.mem_filter.mp h
  exact ⟨a, w.tk u a, of_decide_eq_true b⟩
include qf
theorem q_pos (r : Nat) : 0 < Q (mt ts r) := qf.pos fun u hu => qs_pos (mt_wf w hu).2.1
theorem lf_pos (r : Nat) : 0 < lf Q (mt ts r) := by
  have := q_pos qf w r
  unfold lf
  omega
theorem bt_pos : ∀ k, 0 < bt Q ts k
  | 0 => Nat.one_pos
  | k + 1 => Nat.mul_pos (bt_pos k) (lf_pos qf w _)
theorem q_bl (r : Nat) : bl2 (Q (mt ts r)) ≤ 1 + 103 * (mt ts r).length := qf.bl fun u hu => qs_bl (mt_wf w hu).2.1
theorem sk_bl {r : Nat} {u : Tk} (hu : u ∈ mt ts r) : bl2 (sk (Q (mt ts r)) u) ≤ 1 + 103 * (mt ts r).length := by
  have h1 := bl2_mul (Q (mt ts r) / qs u) (ql u)
  have h2 := qf.dl (us := mt ts r) (u := u) (fun v hv => ⟨qs_bl (mt_wf w hv).2.1, qs_pos (mt_wf w hv).2.1⟩) hu
  have h3 := ql_bl (mt_wf w hu).2.1
  unfold sk
  omega
end
end HR
set_option Elab.async false
set_option linter.all false
set_option maxRecDepth 20000
set_option exponentiation.threshold 5000
namespace HR
open PySem L2
/-! ### shares: bounds, lowest terms, the sum -/
theorem bl2_add (a b : Nat) : bl2 (a + b) ≤ max (bl2 a) (bl2 b) + 1 := by
  by_cases ha : a + b = 0
  · rw [ha]; simp [bl2]
  · refine bl2_lt ?_
    have h1 : a < 2 ^ bl2 a := by
      unfold bl2; split
      · rename_i e; subst e; decide
      · exact Nat.lt_log2_self
    have h2 : b < 2 ^ bl2 b := by
      unfold bl2; split
      · rename_i e; subst e; decide
      · exact Nat.lt_log2_self
    have h3 : 2 ^ bl2 a ≤ 2 ^ max (bl2 a) (bl2 b) := Nat.pow_le_pow_right (by decide) (Nat.le_max_left _ _)
    have h4 : 2 ^ bl2 b ≤ 2 ^ max (bl2 a) (bl2 b) := Nat.pow_le_pow_right (by decide) (Nat.le_max_right _ _)
    rw [Nat.pow_succ]
    omega
theorem bl2_sum {α : Type} {f : α → Nat} {B : Nat} : ∀ {us : List α}, (∀ u ∈ us, bl2 (f u) ≤ B) → ∀ a, bl2 a ≤ B → bl2 (a + (us.map f).sum) ≤ B + us.length
  | [], _, a, h => by simpa using h
  | v :: us, h, a, ha => by
    have e : a + ((v :: us).map f).sum = f v + (a + (us.map f).sum) := by simp; omega
    rw [e]
    have h1 := h v List.mem_cons_self
    have h2 := bl2_sum (us := us) (fun u hu => h u (List.mem_cons_of_mem _ hu)) a ha
    have h3 := bl2_add (f v) (a + (us.map f).sum)
    simp only [List.length_cons]
    omega
section
variable {Q : List Tk → Nat} (qf : QF Q) {ts : List Tk} (w : WfHall T30 ts)
include w qf
theorem lf_bl (r : Nat) : bl2 (lf Q (mt ts r)) ≤ 1 + 104 * (mt ts r).length := by
  have h1 := q_bl qf w r
  unfold lf
  have h2 := bl2_sum (us := mt ts r) (f := sk (Q (mt ts r))) (B := 1 + 103 * (mt ts r).length) (fun u hu => sk_bl qf w hu) (Q (mt ts r)) h1
  omega
theorem tp_bl : ∀ k, bl2 (tp Q ts k) ≤ 1 + k + 103 * (mu ts k).length
  | 0 => by show bl2 1 ≤ _; have : bl2 1 = 1 := by decide
            omega
  | k + 1 => by
    have h1 := bl2_mul (tp Q ts k) (Q (mt ts (k + 1)))
    have h2 := q_bl qf w (k + 1)
    have h3 := tp_bl k
    have h4 := mu_len k ts
    show bl2 (tp Q ts k * Q (mt ts (k + 1))) ≤ _
    omega
theorem bt_bl : ∀ k, bl2 (bt Q ts k) ≤ 1 + k + 104 * (mu ts k).length
  | 0 => by show bl2 1 ≤ _; have : bl2 1 = 1 := by decide
            omega
  | k + 1 => by
    have h1 := bl2_mul (bt Q ts k) (lf Q (mt ts (k + 1)))
    have h2 := lf_bl qf w (k + 1)
    have h3 := bt_bl k
    have h4 := mu_len k ts
    show bl2 (bt Q ts k * lf Q (mt ts (k + 1))) ≤ _
    omega
omit qf in
theorem mu_le (k : Nat) : (mu ts k).length ≤ 10 := Nat.le_trans (List.length_filter_le _ _) w.len
theorem tp_small {k : Nat} (hk : k ≤ 10) : bl2 (tp Q ts k) ≤ 1041 := by
  have := tp_bl qf w k
  have := mu_le w (k := k)
  omega
theorem bt_small {k : Nat} (hk : k ≤ 10) : bl2 (bt Q ts k) ≤ 1051 := by
  have := bt_bl qf w k
  have := mu_le w (k := k)
  omega
omit qf in
theorem mt_le (k : Nat) : (mt ts k).length ≤ 10 := Nat.le_trans (List.length_filter_le _ _) w.len
theorem q_small (k : Nat) : bl2 (Q (mt ts k)) ≤ 1031 := by
  have := q_bl qf w k
  have := mt_le w (k := k)
  omega
theorem lf_small (k : Nat) : bl2 (lf Q (mt ts k)) ≤ 1041 := by
  have := lf_bl qf w k
  have := mt_le w (k := k)
  omega
theorem sk_small (k : Nat) {u : Tk} (hu : u ∈ mt ts k) : bl2 (sk (Q (mt ts k)) u) ≤ 1031 := by
  have := sk_bl qf w hu
  have := mt_le w (k := k)
  omega
theorem tp_le_bt : ∀ k, tp Q ts k ≤ bt Q ts k
  | 0 => Nat.le_refl _
  | k + 1 => Nat.mul_le_mul (tp_le_bt k) (Nat.le_add_right _ _)
theorem fr_le {u : Tk} (hu : u ∈ ts) : (fr Q ts u).1 ≤ (fr Q ts u).2 := by
  have wu := w.tk u hu
  have h1 := wu.r1
  obtain ⟨k, hk⟩ : ∃ k, u.rank.toNat = k + 1 := ⟨u.rank.toNat - 1, by omega⟩
  have hm : u ∈ mt ts (k + 1) := List.mem_filter.mpr ⟨hu, decide_eq_true (by omega)⟩
  unfold fr
  rw [hk]
  dsimp only
  rw [Nat.add_sub_cancel]
  refine Nat.mul_le_mul (tp_le_bt qf w k) ?_
  have : ∀ us : List Tk, u ∈ us → sk (Q (mt ts (k + 1))) u ≤ (us.map (sk (Q (mt ts (k + 1))))).sum := fun us => by
    induction us with
    | nil => simp
    | cons v us ih =>
      intro h
      rw [List.map_cons, List.sum_cons]
      rcases List.mem_cons.mp h with rfl | h
      · omega
      · have := ih h; omega
  have := this _ hm
  unfold lf
  omega
theorem fr_small {u : Tk} (hu : u ∈ ts) : bl2 (fr Q ts u).1 ≤ 1051 ∧ bl2 (fr Q ts u).2 ≤ 1051 := by
  have wu := w.tk u hu
  have h2 := wu.r2
  have b : bl2 (fr Q ts u).2 ≤ 1051 := bt_small qf w (by omega)
  exact ⟨Nat.le_trans (bl2_mono (fr_le qf w hu)) b, b⟩
end
end HR
set_option Elab.async false
set_option linter.all false
set_option maxRecDepth 20000
set_option exponentiation.threshold 5000
namespace HR
open PySem L2
/-! ### shares_of, cycle_of: a rank's cycle -/
def dRC (us : List Tk) : D := .obj "RankCycle" [("members", .lst (us.map dMem)), ("quiet", .int (lcmL us : Nat)), ("left", .int (lf lcmL us : Nat))]
theorem pure_dRC (us : List Tk) : (dRC us).pure = true := by simp [dRC, D.pure, D.pureF]
theorem lcmF_bl {us : List Tk} (w : ∀ u ∈ us, WfTk T30 u) (k : Nat) (hl : us.length ≤ 10) : bl2 (lcmL (us.take k)) ≤ 1031 := by
  have := qf_lcm.bl (us := us.take k) fun u hu => qs_bl (w u (List.mem_of_mem_take hu))
  have : (us.take k).length ≤ 10 := by rw [List.length_take]; omega
  omega
theorem W_spk {d : D} {h : OH} {fs : List (String × D)} {q : Nat} {u : Tk} (e : insAt h d = some ("RankCycle", fs)) (hq : fs.lookup "quiet" = some (.int (q : Int))) (wu : WfTk T30 u) (hb : bl2 q ≤ 2000) {PD : D → OH → Prop} (z : PD (.int ((sk q u : Nat) : Int)) h) : (Sh.RankCycle_spoken_by [d, dMem u] h).W PD := by
  unfold Sh.RankCycle_spoken_by; rw [W_fn]; unfold Sh.RankCycle_spoken_by_b
  have d1 : divOk (q : Int) (qs u : Int) = true := divOk_bl (qs_pos wu) (by have := qs_bl wu; omega)
  have e1 : (q : Int) / (qs u : Int) = ((q / qs u : Nat) : Int) := rfl
  have m1 : mulOk ((q / qs u : Nat) : Int) (ql u : Int) = true := mulOk_bl (by have := ql_bl wu; have := bl2_mono (Nat.div_le_self q (qs u)); omega)
  have e2 : ((q / qs u : Nat) : Int) * (ql u : Int) = ((sk q u : Nat) : Int) := by rw [← Int.natCast_mul]; rfl
  simp [e, hq, dMem, dSch, List.lookup, atI_m1]
  rw [qs_int wu, ql_int wu]
  refine ⟨d1, ?_⟩
  rw [e1, e2]
  exact ⟨m1, z⟩
theorem mkRC {a : SA} {e : Env'} {h : OH} {PD : D → OH → Prop} {ts : List Tk} (w : WfHall T30 ts) (r : Nat) (z : (a e h).W fun ys h1 => ys = [.lst (ts.map dMem), .int (r : Nat)] ∧ PD (dRC (mt ts r)) h1) : (sMakeP "RankCycle" Sh.RankCycle_init a e h).W PD := by
  refine W_makeP (z.mono fun ys h1 z => ?_)
  obtain ⟨rfl, z⟩ := z
  refine ⟨by simp, ?_⟩
  have hl := w.len
  have sp := fun {d : D} {h : OH} {fs : List (String × D)} {q : Nat} {u : Tk} (e : insAt h d = some ("RankCycle", fs)) (hq : fs.lookup "quiet" = some (.int (q : Int))) (wu : WfTk T30 u) (hb : bl2 q ≤ 2000) {PD : D → OH → Prop} => W_spk e hq wu hb (PD := PD)
  have lm := fun {a b : Nat} (h : OH) (ha : 0 < a) (hb : bl2 a + bl2 b < 4000) => lcm_ok h ha hb
  unfold Sh.RankCycle_init; rw [W_fn]; unfold Sh.RankCycle_init_b
  generalize Sh.RankCycle_spoken_by = SK at sp ⊢
  generalize pureF Sh.common_multiple = CM at lm ⊢
  refine SW_seqK fun K hK => ?_
  simp [wipeD]
  refine W_lcMap ts dMem (fun t => decide (t.rank = (r : Int))) dMem _ (by simp [big]; omega) (fun x hx => ⟨_, rfl, by simp [dMem, List.lookup]; rfl⟩) ?_
  have hus : ∀ u ∈ mt ts r, WfTk T30 u := fun u hu => (mt_wf w hu).2.1
  have hln := mt_le w (k := r)
  rw [show ts.filter (fun t => decide (t.rank = (r : Int))) = mt ts r from rfl]
  generalize mt ts r = us at hus hln z ⊢
  simp
  refine hK _ _ ?_
  clear hK K
  refine SW_seqK fun K hK => ?_
  simp
  refine hK _ _ ?_
  clear hK K
  refine SW_seqK fun K hK => ?_
  simp [List.lookup]
  refine W_forL (fun k e h => h = [OO.ins "RankCycle" [("members", .lst (us.map dMem)), ("quiet", .int ((lcmL (us.take k) : Nat) : Int))]] ∧ ∃ x : Option D, e = [some (.ref 0), some (.lst (ts.map dMem)), some (.int (r : Int)), x]) _ _ _ ⟨rfl, _, rfl⟩ (fun k d hd e h hI => ?_) (fun e h hI => ?_)
  · obtain ⟨rfl, x, rfl⟩ := hI
    rw [List.getElem?_map, Option.map_eq_some_iff] at hd
    obtain ⟨u, hu, rfl⟩ := hd
    have wu := hus u (List.mem_of_getElem? hu)
    have hp : 0 < lcmL (us.take k) := qf_lcm.pos fun v hv => qs_pos (hus v (List.mem_of_mem_take hv))
    have hb := lcmF_bl hus k hln
    have hq := qs_bl wu
    have es : lcmL (us.take (k + 1)) = Nat.lcm (lcmL (us.take k)) (qs u) := by
      rw [List.take_add_one, hu]
      simp [lcmL, List.foldl_append]
    refine ⟨_, rfl, ?_⟩
    rw [es]
    generalize lcmL (us.take k) = a at hp hb ⊢
    simp [List.lookup, dMem, dSch, atI_m1]
    rw [qs_int wu, lm _ hp (by omega)]
    simp
  · obtain ⟨rfl, x, rfl⟩ := hI
    rw [List.length_map, List.take_length]
    refine hK _ _ ?_
    clear hK K
    have hb : bl2 (lcmL us) ≤ 1031 := by
      have := lcmF_bl hus us.length hln
      rwa [List.take_length] at this
    simp [List.lookup, wipeD]
    refine W_lcMap1 us dMem (fun u => .int ((sk (lcmL us) u : Nat) : Int)) _ (by simp [big]; omega) (fun u hu => ⟨_, rfl, ?_⟩) ?_
    · simp
      have v0 := fun {PD : D → OH → Prop} => sp (PD := PD) (d := .ref 0) (h := [OO.ins "RankCycle" [("members", .lst (us.map dMem)), ("quiet", .int ((lcmL us : Nat) : Int))]]) (fs := [("members", .lst (us.map dMem)), ("quiet", .int ((lcmL us : Nat) : Int))]) (q := lcmL us) (u := u) rfl rfl (hus u hu) (by omega)
      refine ⟨by simp [hasNo], v0 ?_⟩
      exact ⟨rfl, rfl⟩
    · have ei : intsOf (us.map fun u => D.int ((sk (lcmL us) u : Nat) : Int)) = some (us.map fun u => ((sk (lcmL us) u : Nat) : Int)) := by
        have := intsOf_map (us.map fun u => ((sk (lcmL us) u : Nat) : Int))
        rwa [List.map_map] at this
      have es : ((lcmL us : Nat) : Int) + (us.map fun u => ((sk (lcmL us) u : Nat) : Int)).sum = ((lf lcmL us : Nat) : Int) := by
        have : ∀ l : List Tk, (l.map fun u => ((sk (lcmL us) u : Nat) : Int)).sum = (((l.map (sk (lcmL us))).sum : Nat) : Int) := fun l => by
          induction l with
          | nil => rfl
          | cons v l ih => rw [List.map_cons, List.sum_cons, ih, List.map_cons, List.sum_cons]; omega
        rw [this]
        unfold lf
        omega
      rw [ei]
      simp
      rw [es]
      exact z
end HR
set_option Elab.async false
set_option linter.all false
set_option maxRecDepth 20000
set_option exponentiation.threshold 5000
namespace HR
open PySem L2
/-! ### cycle_of -/
/-- the tick behind the last talk of the prefix -/
def endT (ts : List Tk) (t : Tk) : Nat := TO ts (t.rank.toNat - 1) (spL ts t (t.rank.toNat - 1 + 1) (t.pre.length - 1)) + 1
def stF (ts : List Tk) (f : Nat) (t : Tk) : Nat := if t.pre.length = 0 then f else max f (endT ts t)
def stN (ts : List Tk) : Nat := ts.foldl (stF ts) 0
theorem startOf {ts : List Tk} (w : WfHall T30 ts) (h : OH) : pureF Sh.start_of [.lst (ts.map dMem)] h = .ok (.int ((stN ts : Nat) : Int)) h := by
  refine pure_eq h (by simp) rfl ?_
  have sb := fun {t : Tk} (ht : t ∈ ts) (k n : Nat) (hk : k < 10) (hr : t.rank = (k : Int) + 1) (hn : n + 1 < 2 ^ 200) (h : OH) => spanBy w ht k n hk hr hn h
  unfold Sh.start_of; rw [W_fn]; unfold Sh.start_of_b
  generalize pureF Sh.span_by = SB at sb ⊢
  refine SW_seqK fun K hK => ?_
  simp
  refine hK _ _ ?_
  clear hK K
  refine SW_seqK fun K hK => ?_
  simp
  refine W_forL (fun j e h => ∃ x2 x3 : Option D, e = [some (.lst (ts.map dMem)), some (.int (((ts.take j).foldl (stF ts) 0 : Nat) : Int)), x2, x3]) _ _ _ ⟨_, _, rfl⟩ (fun j d hd e h hI => ?_) (fun e h hI => ?_)
  · obtain ⟨x2, x3, rfl⟩ := hI
    rw [List.getElem?_map, Option.map_eq_some_iff] at hd
    obtain ⟨t, ht, rfl⟩ := hd
    have hm := List.mem_of_getElem? ht
    have wt := w.tk t hm
    have et : (ts.take (j + 1)).foldl (stF ts) 0 = stF ts ((ts.take j).foldl (stF ts) 0) t := by
      rw [List.take_add_one, ht]
      simp [List.foldl_append]
    rw [et]
    generalize (ts.take j).foldl (stF ts) 0 = f
    have r1 := wt.r1
    have r2 := wt.r2
    have lp := wt.lp
    refine ⟨_, rfl, ?_⟩
    refine SW_seqK fun K hK => ?_
    have im : ∀ g : OH, insAt g (dMem t) = some ("Member", [("name", .str t.name), ("rank", .int t.rank), ("schedule", dSch t.pre t.cyc)]) := fun g => rfl
    simp [im, List.lookup, dSch]
    refine hK _ _ ?_
    clear hK K
    by_cases hp : t.pre.length = 0
    · simp [hp, stF]
    · have hp0 : 0 < t.pre.length := by omega
      have sp := fun h => sb hm (t.rank.toNat - 1) (t.pre.length - 1) (by omega) (by omega) (by omega) h
      have en : ((t.pre.length - 1 : Nat) : Int) = (t.pre.length : Int) - 1 := by omega
      rw [en] at sp
      simp [hp0, sp]
      have e1 : stF ts f t = max f (endT ts t) := if_neg hp
      rw [e1]
      unfold endT
      generalize TO ts (t.rank.toNat - 1) (spL ts t (t.rank.toNat - 1 + 1) (t.pre.length - 1)) = x
      rw [Nat.max_def]
      split <;> split <;> omega
  · obtain ⟨x2, x3, rfl⟩ := hI
    rw [List.length_map, List.take_length]
    refine hK _ _ ?_
    simp
    rfl
/-- the length of the cycle, and what is left of it, down to a rank -/
def rnd (left L : Nat) : Nat := L / Nat.gcd left L
def cyS (p : Nat × Nat) (us : List Tk) : Nat × Nat := (p.1 * rnd p.2 (lf lcmL us), p.2 * rnd p.2 (lf lcmL us) / lf lcmL us * lcmL us)
def cyN (ts : List Tk) : Nat → Nat × Nat
  | 0 => (1, 1)
  | k + 1 => cyS (cyN ts k) (mt ts (k + 1))
theorem rnd_mul {a L : Nat} (hL : 0 < L) : a * rnd a L / L = a / Nat.gcd a L := by
  unfold rnd
  have g0 : 0 < Nat.gcd a L := Nat.gcd_pos_of_pos_right _ hL
  obtain ⟨x, hx⟩ := Nat.gcd_dvd_left a L
  obtain ⟨y, hy⟩ := Nat.gcd_dvd_right a L
  generalize Nat.gcd a L = g at g0 hx hy ⊢
  subst hx hy
  have hy0 : 0 < y := Nat.pos_of_ne_zero fun z => by rw [z, Nat.mul_zero] at hL; omega
  rw [Nat.mul_div_cancel_left _ g0, Nat.mul_div_cancel_left _ g0]
  rw [show g * x * y = (g * y) * x by ac_rfl]
  exact Nat.mul_div_cancel_left _ (Nat.mul_pos g0 hy0)
section
variable {ts : List Tk} (w : WfHall T30 ts)
include w
theorem cyN_ok : ∀ k, 0 < (cyN ts k).1 ∧ 0 < (cyN ts k).2 ∧ (cyN ts k).1 ≤ bt lcmL ts k ∧ (cyN ts k).2 ≤ tp lcmL ts k
  | 0 => ⟨Nat.one_pos, Nat.one_pos, Nat.le_refl _, Nat.le_refl _⟩
  | k + 1 => by
    obtain ⟨a, b, c, d⟩ := cyN_ok k
    have hL := lf_pos qf_lcm w (k + 1)
    have hQ := q_pos qf_lcm w (k + 1)
    have g0 : 0 < Nat.gcd (cyN ts k).2 (lf lcmL (mt ts (k + 1))) := Nat.gcd_pos_of_pos_right _ hL
    have r0 : 0 < rnd (cyN ts k).2 (lf lcmL (mt ts (k + 1))) := Nat.div_pos (Nat.le_of_dvd hL (Nat.gcd_dvd_right _ _)) g0
    have r1 : rnd (cyN ts k).2 (lf lcmL (mt ts (k + 1))) ≤ lf lcmL (mt ts (k + 1)) := Nat.div_le_self _ _
    refine ⟨Nat.mul_pos a r0, ?_, Nat.mul_le_mul c r1, ?_⟩
    · show 0 < _ / _ * _
      rw [rnd_mul hL]
      exact Nat.mul_pos (Nat.div_pos (Nat.le_of_dvd b (Nat.gcd_dvd_left _ _)) g0) hQ
    · show _ / _ * _ ≤ tp lcmL ts k * lcmL (mt ts (k + 1))
      rw [rnd_mul hL]
      exact Nat.mul_le_mul (Nat.le_trans (Nat.div_le_self _ _) d) (Nat.le_refl _)
theorem cyN_bl {k : Nat} (hk : k ≤ 10) : bl2 (cyN ts k).1 ≤ 1051 ∧ bl2 (cyN ts k).2 ≤ 1041 := by
  obtain ⟨a, b, c, d⟩ := cyN_ok w k
  exact ⟨Nat.le_trans (bl2_mono c) (bt_small qf_lcm w hk), Nat.le_trans (bl2_mono d) (tp_small qf_lcm w hk)⟩
end
theorem cycleOf {d : D} {ts : List Tk} (hd : Hallish d ts) (w : WfHall T30 ts) (h : OH) : pureF Sh.cycle_of [d] h = .ok (.tup [.int ((stN ts : Nat) : Int), .int (((cyN ts 10).1 : Nat) : Int)]) h := by
  refine pure_eq h (by simp [hd.pure]) rfl ?_
  have ch := hd.chk
  have rc := fun {a : SA} {e : Env'} {h : OH} {PD : D → OH → Prop} (r : Nat) => mkRC (a := a) (e := e) (h := h) (PD := PD) w r
  have gc := fun {a b : Nat} (h : OH) (hb : bl2 a + bl2 b < 400000) => gcd_ok h hb
  have so := startOf w
  unfold Sh.cycle_of; rw [W_fn]; unfold Sh.cycle_of_b
  generalize pureF Sh.checked_hall = CH at ch ⊢
  generalize Sh.RankCycle_init = RI at rc ⊢
  generalize pureF Sh.common_divisor = CD at gc ⊢
  generalize pureF Sh.start_of = SO at so ⊢
  refine SW_seqK fun K hK => ?_
  simp [ch]
  refine hK _ _ ?_
  clear hK K
  refine SW_seqK fun K hK => ?_
  simp
  refine hK _ _ ?_
  clear hK K
  refine SW_seqK fun K hK => ?_
  simp
  refine ⟨by decide, ?_⟩
  refine W_forL (fun k e h => ∃ x4 x5 x6 : Option D, e = [some d, some (.lst (ts.map dMem)), some (.int (((cyN ts k).1 : Nat) : Int)), some (.int (((cyN ts k).2 : Nat) : Int)), x4, x5, x6]) _ _ _ ⟨_, _, _, rfl⟩ (fun k dd hdd e h hI => ?_) (fun e h hI => ?_)
  · obtain ⟨x4, x5, x6, rfl⟩ := hI
    obtain ⟨hk, rfl⟩ := rngD_at hdd
    have hk10 : k < 10 := hk
    have er : (1 : Int) + (k : Nat) = ((k + 1 : Nat) : Int) := by omega
    rw [er]
    obtain ⟨a0, b0, _, _⟩ := cyN_ok w k
    obtain ⟨a1, b1⟩ := cyN_bl w (k := k) (by omega)
    have hL := lf_pos qf_lcm w (k + 1)
    have hL1 := lf_small qf_lcm w (k + 1)
    have hQ1 := q_small qf_lcm w (k + 1)
    have es : cyN ts (k + 1) = cyS (cyN ts k) (mt ts (k + 1)) := rfl
    rw [es]
    generalize cyN ts k = p at a0 b0 a1 b1 ⊢
    obtain ⟨a, b⟩ := p
    dsimp only at a0 b0 a1 b1 ⊢
    refine ⟨_, rfl, ?_⟩
    refine SW_seqK fun K hK => ?_
    simp
    refine rc (k + 1) ?_
    simp
    refine hK _ _ ?_
    clear hK K
    have ia : ∀ g : OH, insAt g (dRC (mt ts (k + 1))) = some ("RankCycle", [("members", .lst ((mt ts (k + 1)).map dMem)), ("quiet", .int (lcmL (mt ts (k + 1)) : Nat)), ("left", .int (lf lcmL (mt ts (k + 1)) : Nat))]) := fun g => rfl
    unfold cyS
    dsimp only
    generalize lf lcmL (mt ts (k + 1)) = L at hL hL1 ia ⊢
    generalize lcmL (mt ts (k + 1)) = Q at hQ1 ia ⊢
    generalize dRC (mt ts (k + 1)) = RC at ia ⊢
    have g := fun h => gc (a := b) (b := L) h (by omega)
    have g0 : 0 < Nat.gcd b L := Nat.gcd_pos_of_pos_right _ hL
    have gb : bl2 (Nat.gcd b L) ≤ 1041 := Nat.le_trans (bl2_mono (Nat.gcd_le_left _ b0)) b1
    have d1 : divOk (L : Int) ((Nat.gcd b L : Nat) : Int) = true := divOk_bl g0 (by omega)
    have e1 : (L : Int) / ((Nat.gcd b L : Nat) : Int) = ((rnd b L : Nat) : Int) := rfl
    have rb : bl2 (rnd b L) ≤ 1041 := Nat.le_trans (bl2_mono (Nat.div_le_self _ _)) hL1
    refine SW_seqK fun K hK => ?_
    simp [ia, List.lookup, g, d1]
    rw [e1]
    refine hK _ _ ?_
    clear hK K
    generalize rnd b L = R at rb ⊢
    have m1 : mulOk (a : Int) (R : Int) = true := mulOk_bl (by omega)
    have m2 : mulOk (b : Int) (R : Int) = true := mulOk_bl (by omega)
    have mb := bl2_mul b R
    have d2 : divOk ((b : Int) * (R : Int)) (L : Int) = true := divOk_bl hL (by omega)
    have e2 : (b : Int) * (R : Int) / (L : Int) = ((b * R / L : Nat) : Int) := by rw [← Int.natCast_mul]; rfl
    have m3 : mulOk ((b * R / L : Nat) : Int) (Q : Int) = true := mulOk_bl (by have := bl2_mono (Nat.div_le_self (b * R) L); omega)
    refine SW_seqK fun K hK => ?_
    simp [m1]
    refine hK _ _ ?_
    clear hK K
    simp [ia, List.lookup, m2, d2]
    rw [e2]
    exact m3
  · obtain ⟨x4, x5, x6, rfl⟩ := hI
    have ln : (rngD 1 10).length = 10 := rfl
    rw [ln]
    refine hK _ _ ?_
    simp [so]
end HR
set_option Elab.async false
set_option linter.all false
set_option maxRecDepth 20000
set_option exponentiation.threshold 5000
namespace HR
open PySem L2
/-! ### what the program takes for halls: any frozen value -/
@[simp] theorem isi_t1 : isiB "NoneType" "list" = false := by decide
@[simp] theorem isi_t2 : isiB "NoneType" "tuple" = false := by decide
@[simp] theorem isi_t3 : isiB "bool" "list" = false := by decide
@[simp] theorem isi_t4 : isiB "bool" "tuple" = false := by decide
@[simp] theorem isi_t5 : isiB "dict" "list" = false := by decide
@[simp] theorem isi_t6 : isiB "dict" "tuple" = false := by decide
@[simp] theorem isi_t7 : isiB "NoneType" "int" = false := by decide
@[simp] theorem isi_t8 : isiB "list" "int" = false := by decide
@[simp] theorem isi_t9 : isiB "tuple" "int" = false := by decide
@[simp] theorem isi_ta : isiB "dict" "int" = false := by decide
@[simp] theorem isi_tb : isiB "bool" "bool" = true := by decide
@[simp] theorem isi_tc : isiB "NoneType" "str" = false := by decide
@[simp] theorem isi_td : isiB "list" "str" = false := by decide
@[simp] theorem isi_te : isiB "tuple" "str" = false := by decide
@[simp] theorem isi_tf : isiB "dict" "str" = false := by decide
@[simp] theorem isi_tg : isiB "bool" "str" = false := by decide
/-! ### halls with lists and tuples exchanged -/
def AllR {ξ : Type} (R : D → ξ → Prop) (xs : List D) (ps : List ξ) : Prop := xs.length = ps.length ∧ ∀ (k : Nat) (x : D), xs[k]? = some x → ∃ p, ps[k]? = some p ∧ R x p
theorem AllR.all {ξ : Type} {R : D → ξ → Prop} {xs : List D} {ps : List ξ} (ar : AllR R xs ps) {p : D → Bool} (h : ∀ x q, x ∈ xs → q ∈ ps → R x q → p x = true) : xs.all p = true := by
  rw [List.all_eq_true]
  intro x hx
  obtain ⟨k, hk⟩ := List.mem_iff_getElem?.mp hx
  obtain ⟨q, hq, r⟩ := ar.2 k x hk
  exact h x q hx (List.mem_of_getElem? hq) r
end HR
set_option Elab.async false
set_option linter.all false
set_option maxRecDepth 20000
set_option exponentiation.threshold 5000
namespace HR
open PySem L2
/-! ### shares_of -/
theorem getK_put (ks : List (Key × D)) (k j : Key) (d : D) : getK (putD ks k d) j = if j = k then some d else getK ks j := by
  have hmap : ∀ ks : List (Key × D), getK (ks.map fun kv => if kv.1 = k then (kv.1, d) else kv) j = (getK ks j).map fun x => if j = k then d else x := by
    intro ks
    induction ks with
    | nil => rfl
    | cons p r ih =>
      unfold getK at *
      rw [List.map_cons, List.find?_cons, List.find?_cons]
      by_cases h : p.1 = k
      · rw [if_pos h]
        by_cases e : p.1 = j
        · have ejk : j = k := e.symm.trans h
          rw [show decide ((p.1, d).1 = j) = true from decide_eq_true e]
          simp [ejk]
        · rw [show decide ((p.1, d).1 = j) = false from decide_eq_false e]
          exact ih
      · rw [if_neg h]
        by_cases e : p.1 = j
        · have ejk : ¬ j = k := fun z => h (e.trans z)
          rw [show decide (p.1 = j) = true from decide_eq_true e]
          simp [ejk]
        · rw [show decide (p.1 = j) = false from decide_eq_false e]
          exact ih
  have hany : (ks.any fun kv => decide (kv.1 = k)) = (getK ks k).isSome := by
    induction ks with
    | nil => rfl
    | cons p r ih =>
      unfold getK at *
      rw [List.any_cons, List.find?_cons]
      by_cases e : p.1 = k
      · rw [decide_eq_true e]; rfl
      · rw [decide_eq_false e, Bool.false_or]; exact ih
  unfold putD
  split
  · rename_i a
    rw [hmap]
    by_cases e : j = k
    · rw [hany] at a
      obtain ⟨x, hx⟩ := Option.isSome_iff_exists.mp a
      rw [e, hx]
      simp
    · simp [e]
  · rename_i a
    rw [hany] at a
    have gn : getK ks k = none := by
      cases q : getK ks k with
      | none => rfl
      | some x => rw [q] at a; exact absurd rfl a
    unfold getK at *
    rw [List.find?_append]
    by_cases e : j = k
    · subst e
      have : ks.find? (fun kv => decide (kv.1 = j)) = none := by simpa using gn
      rw [this]
      simp
    · have : ([(k, d)] : List (Key × D)).find? (fun kv => decide (kv.1 = j)) = none := by simp; exact fun z => e z.symm
      rw [this]
      simp [e]
def dPr (p : Nat × Nat) : D := .tup [.int (p.1 : Int), .int (p.2 : Int)]
def dRow (n : D) (p : Nat × Nat) : D := .tup [n, .int (p.1 : Int), .int (p.2 : Int)]
/-- the answer -/
def sharD (ts : List Tk) : List D := (ts.map fun t => dRow (.str t.name) (red (fr lcmL ts t))) ++ [dRow .non (red (tp lcmL ts 10, bt lcmL ts 10))]
theorem shar_pure (ts : List Tk) : D.pureL (sharD ts) = true := by
  have a : ∀ l : List Tk, D.pureL (l.map fun t => dRow (.str t.name) (red (fr lcmL ts t))) = true := pureL_map _ fun t => rfl
  unfold sharD
  have app : ∀ xs ys : List D, D.pureL xs = true → D.pureL ys = true → D.pureL (xs ++ ys) = true := fun xs ys => by
    induction xs with
    | nil => exact fun _ h => h
    | cons x xs ih =>
      intro h1 h2
      simp only [List.cons_append, D.pureL, Bool.and_eq_true] at h1 ⊢
      exact ⟨h1.1, ih h1.2 h2⟩
  exact app _ _ (a ts) rfl
/-- the names with their shares -/
def shE (ts : List Tk) : List (D × (Nat × Nat)) := ts.map (fun t => (D.str t.name, fr lcmL ts t)) ++ [(.non, (tp lcmL ts 10, bt lcmL ts 10))]
theorem shE_rows (ts : List Tk) : sharD ts = (shE ts).map fun q => dRow q.1 (red q.2) := by
  unfold sharD shE
  rw [List.map_append, List.map_map]
  rfl
theorem shE_names (ts : List Tk) : ts.map (fun t => D.str t.name) ++ [.non] = (shE ts).map (·.1) := by
  unfold shE
  rw [List.map_append, List.map_map]
  rfl
theorem shE_ok {ts : List Tk} (w : WfHall T30 ts) {q : D × (Nat × Nat)} (h : q ∈ shE ts) : 0 < q.2.2 ∧ bl2 q.2.1 ≤ 1051 ∧ bl2 q.2.2 ≤ 1051 := by
  rcases List.mem_append.mp h with h | h
  · obtain ⟨u, hu, rfl⟩ := List.mem_map.mp h
    have := fr_small qf_lcm w hu
    exact ⟨bt_pos qf_lcm w _, this⟩
  · rw [List.mem_singleton] at h
    subst h
    have := tp_small qf_lcm w (k := 10) (by decide)
    exact ⟨bt_pos qf_lcm w _, by show bl2 (tp lcmL ts 10) ≤ _; omega, bt_small qf_lcm w (by decide)⟩
theorem nd_name {ts : List Tk} (w : WfHall T30 ts) {u v : Tk} (hu : u ∈ ts) (hv : v ∈ ts) (e : u.name = v.name) : u = v := by
  have nd := w.nd
  obtain ⟨i, hi⟩ := List.mem_iff_getElem?.mp hu
  obtain ⟨j, hj⟩ := List.mem_iff_getElem?.mp hv
  have l1 : (ts.map (·.name))[i]? = some u.name := by rw [List.getElem?_map, hi]; rfl
  have l2 : (ts.map (·.name))[j]? = some u.name := by rw [List.getElem?_map, hj, e]; rfl
  have := (List.getElem?_inj (List.getElem?_eq_some_iff.mp l1).1 nd).mp (l1.trans l2.symm)
  subst this
  rw [hi] at hj
  exact Option.some.inj hj
/-- the dict so far: the talkers told in S -/
structure FD (ts : List Tk) (S : Tk → Prop) (n : Nat) (ks : List (Key × D)) : Prop where
  len : ks.length ≤ n
  at_ : ∀ u ∈ ts, S u → getK ks (.inr u.name) = some (dPr (fr lcmL ts u))
theorem FD.put {ts : List Tk} (w : WfHall T30 ts) {S : Tk → Prop} {n : Nat} {ks : List (Key × D)} (f : FD ts S n ks) {v : Tk} (hv : v ∈ ts) {T : Tk → Prop} (hT : ∀ u, T u → S u ∨ u = v) : FD ts T (n + 1) (putD ks (.inr v.name) (dPr (fr lcmL ts v))) := by
  refine ⟨?_, fun u hu hs => ?_⟩
  · have := putD_len ks (.inr v.name) (dPr (fr lcmL ts v))
    have := f.len
    omega
  · rw [getK_put]
    by_cases e : u.name = v.name
    · rw [nd_name w hu hv e, if_pos rfl]
    · rw [if_neg fun z => e (Sum.inr.inj z)]
      rcases hT u hs with h | h
      · exact f.at_ u hu h
      · exact absurd (by rw [h]) e
theorem spkP {us : List Tk} {u : Tk} (wu : WfTk T30 u) (hb : bl2 (lcmL us) ≤ 2000) (h : OH) : pureF Sh.RankCycle_spoken_by [dRC us, dMem u] h = .ok (.int ((sk (lcmL us) u : Nat) : Int)) h := by
  refine pure_eq h (by simp [pure_dRC]) rfl ?_
  exact W_spk (fs := [("members", .lst (us.map dMem)), ("quiet", .int (lcmL us : Nat)), ("left", .int (lf lcmL us : Nat))]) rfl rfl wu hb rfl
noncomputable def SHB (P : Program) (w : World) (Z : SS) : SS := (sSeq (sSet 1 (sCall (withD [] (pureF Sh.checked_hall)) (sCons (sVar 0) sNil))) (sSeq (sAsg (gT 2 (gCs (gN 2) (gCs (gN 3) gNl))) (sTup (sCons (sC (.int 1)) (sCons (sC (.int 1)) sNil)))) (sSeq (sSet 4 sDctO) (sSeq (sFor (sRng2 (sC (.int 1)) (sBin opAdd (sC (.int (10))) (sC (.int 1)))) (gN 5) (sSeq (sSet 6 (sMakeP "RankCycle" Sh.RankCycle_init (sCons (sVar 1) (sCons (sVar 5) sNil)))) (sSeq (sFor (sIt (sUn (opFld "members") (sVar 6))) (gN 7) (sIxK (sVar 4) (sUn (opFld "name") (sVar 7)) (sTup (sCons (sBin opMul (sVar 2) (sMeth "RankCycle" "spoken_by" (pureF Sh.RankCycle_spoken_by) (sVar 6) (sCons (sVar 7) sNil))) (sCons (sBin opMul (sVar 3) (sUn (opFld "left") (sVar 6))) sNil))))) (sPar 2 3 (sCons (sBin opMul (sVar 2) (sUn (opFld "quiet") (sVar 6))) (sCons (sBin opMul (sVar 3) (sUn (opFld "left") (sVar 6))) sNil)))))) (sSeq (sSet 8 (sBin opAdd (sLc false (sIt (sVar 1)) (gN 7) sYes (sUn (opFld "name") (sVar 7)) [7]) (sLst (sCons (sC .non) sNil)))) (sSeq (sPutN (hexN P w) (sVar 4) (sC .non) (sTup (sCons (sVar 2) (sCons (sVar 3) sNil)))) (sSeq (sSet 9 (sLstO sNil)) (sSeq (sFor (sIt (sVar 8)) (gN 10) (sSeq (sSet 11 (sCall (withD [] (pureF Sh.common_divisor)) (sCons (sBin opIx (sBin (opGetN (hexN P w)) (sVar 4) (sVar 10)) (sC (.int 0))) (sCons (sBin opIx (sBin (opGetN (hexN P w)) (sVar 4) (sVar 10)) (sC (.int 1))) sNil)))) (sExpr (sMtO gAppend (sVar 9) (sCons (sTup (sCons (sVar 10) (sCons (sBin opDiv (sBin opIx (sBin (opGetN (hexN P w)) (sVar 4) (sVar 10)) (sC (.int 0))) (sVar 11)) (sCons (sBin opDiv (sBin opIx (sBin (opGetN (hexN P w)) (sVar 4) (sVar 10)) (sC (.int 1))) (sVar 11)) sNil)))) sNil))))) Z))))))))
theorem shb1 (P : Program) (w : World) : Sh.shares_of_1_b P w = SHB P w (sRet (frzE (sVar 9))) := rfl
set_option maxHeartbeats 1000000 in
theorem sharesB {N C B : Env' → OH → Prop} {R : D → OH → Prop} {d : D} {ts : List Tk} (hd : Hallish d ts) (w : WfHall T30 ts) (P : Program) (wd : World) (h : OH) {Z : SS} (q : ∀ ks x (e : Env'), e[9]? = some (some (.ref (h.length + 1))) → (Z e (h ++ [.nd (hexN P wd) ks x, .lst (sharD ts)])).W N C B R) :
    (SHB P wd Z [some d, none, none, none, none, none, none, none, none, none, none, none] h).W N C B R := by
  have hl := w.len
  have ch := hd.chk
  have rc := fun {a : SA} {e : Env'} {h : OH} {PD : D → OH → Prop} (r : Nat) => mkRC (a := a) (e := e) (h := h) (PD := PD) w r
  have sp := fun {us : List Tk} {u : Tk} (wu : WfTk T30 u) (hb : bl2 (lcmL us) ≤ 2000) (h : OH) => spkP wu hb h
  have gc := fun {a b : Nat} (h : OH) (hb : bl2 a + bl2 b < 400000) => gcd_ok h hb
  unfold SHB
  generalize pureF Sh.checked_hall = CH at ch ⊢
  generalize Sh.RankCycle_init = RI at rc ⊢
  generalize pureF Sh.common_divisor = CD at gc ⊢
  generalize pureF Sh.RankCycle_spoken_by = SK at sp ⊢
  refine SW_seqK fun K hK => ?_
  simp [ch]
  refine hK _ _ ?_
  clear hK K
  refine SW_seqK fun K hK => ?_
  simp [sPar]
  refine hK _ _ ?_
  clear hK K
  refine SW_seqK fun K hK => ?_
  simp
  refine hK _ _ ?_
  clear hK K
  refine SW_seqK fun K hK => ?_
  simp
  refine ⟨by decide, ?_⟩
  refine W_forL (fun k e h' => ∃ ks, FD ts (fun u => u.rank ≤ (k : Nat)) (10 * k) ks ∧ h' = h ++ [.dct ks] ∧ ∃ x5 x6 x7 : Option D, e = [some d, some (.lst (ts.map dMem)), some (.int ((tp lcmL ts k : Nat) : Int)), some (.int ((bt lcmL ts k : Nat) : Int)), some (.ref h.length), x5, x6, x7, none, none, none, none]) _ _ _
    ⟨[], ⟨Nat.le_refl _, fun u hu hs => absurd hs (by have := (w.tk u hu).r1; simp only [Int.natCast_zero]; omega)⟩, rfl, _, _, _, rfl⟩ (fun k dd hdd e h' hI => ?_) (fun e h' hI => ?_)
  · obtain ⟨ks, f, rfl, x5, x6, x7, rfl⟩ := hI
    obtain ⟨hk, rfl⟩ := rngD_at hdd
    have hk10 : k < 10 := hk
    have er : (1 : Int) + (k : Nat) = ((k + 1 : Nat) : Int) := by omega
    rw [er]
    refine ⟨_, rfl, ?_⟩
    have hqp := q_pos qf_lcm w (k + 1)
    have hqs := q_small qf_lcm w (k + 1)
    have hls := lf_small qf_lcm w (k + 1)
    have hts := tp_small qf_lcm w (k := k) (by omega)
    have hbs := bt_small qf_lcm w (k := k) (by omega)
    refine SW_seqK fun K hK => ?_
    simp
    refine rc (k + 1) ?_
    simp
    refine hK _ _ ?_
    clear hK K
    refine SW_seqK fun K hK => ?_
    simp [dRC, List.lookup]
    refine W_forL (fun j e h' => ∃ ks, FD ts (fun u => u.rank ≤ (k : Nat) ∨ u ∈ (mt ts (k + 1)).take j) (10 * k + j) ks ∧ h' = h ++ [.dct ks] ∧ ∃ x7 : Option D, e = [some d, some (.lst (ts.map dMem)), some (.int ((tp lcmL ts k : Nat) : Int)), some (.int ((bt lcmL ts k : Nat) : Int)), some (.ref h.length), some (.int ((k : Int) + 1)), some (dRC (mt ts (k + 1))), x7, none, none, none, none]) _ _ _
      ⟨ks, ⟨f.len, fun u hu hs => f.at_ u hu (by simpa using hs)⟩, rfl, _, rfl⟩ (fun j dd hdd e h' hI => ?_) (fun e h' hI => ?_)
    · obtain ⟨ks, f, rfl, x7, rfl⟩ := hI
      rw [List.getElem?_map, Option.map_eq_some_iff] at hdd
      obtain ⟨u, hu, rfl⟩ := hdd
      have hm := List.mem_of_getElem? hu
      obtain ⟨hut, wu, hur⟩ := mt_wf w hm
      have hj : j < 10 := by
        have := (List.getElem?_eq_some_iff.mp hu).1
        have := mt_le w (k := k + 1)
        omega
      refine ⟨_, rfl, ?_⟩
      have e1 : ((tp lcmL ts k : Nat) : Int) * ((sk (lcmL (mt ts (k + 1))) u : Nat) : Int) = (((fr lcmL ts u).1 : Nat) : Int) := by
        have : u.rank.toNat = k + 1 := by omega
        unfold fr
        rw [this, ← Int.natCast_mul]
        rfl
      have e2 : ((bt lcmL ts k : Nat) : Int) * ((lf lcmL (mt ts (k + 1)) : Nat) : Int) = (((fr lcmL ts u).2 : Nat) : Int) := by
        have : u.rank.toNat = k + 1 := by omega
        unfold fr
        rw [this, ← Int.natCast_mul]
        rfl
      have m1 : mulOk ((tp lcmL ts k : Nat) : Int) ((sk (lcmL (mt ts (k + 1))) u : Nat) : Int) = true := mulOk_bl (by have := sk_small qf_lcm w (k + 1) hm; omega)
      have m2 : mulOk ((bt lcmL ts k : Nat) : Int) ((lf lcmL (mt ts (k + 1)) : Nat) : Int) = true := mulOk_bl (by omega)
      have s1 := fun h => sp (us := mt ts (k + 1)) wu (by omega) h
      have f2 := f.put w hut (T := fun u => u.rank ≤ (k : Nat) ∨ u ∈ (mt ts (k + 1)).take (j + 1)) fun v hv => by
        rcases hv with hv | hv
        · exact .inl (.inl hv)
        · rw [List.take_add_one, hu] at hv
          simp at hv
          rcases hv with hv | hv
          · exact .inl (.inr hv)
          · exact .inr hv
      have hks := f.len
      have hRC : dRC (mt ts (k + 1)) = .obj "RankCycle" [("members", .lst ((mt ts (k + 1)).map dMem)), ("quiet", .int (lcmL (mt ts (k + 1)) : Nat)), ("left", .int (lf lcmL (mt ts (k + 1)) : Nat))] := rfl
      have ia : ∀ g : OH, insAt g (dRC (mt ts (k + 1))) = some ("RankCycle", [("members", .lst ((mt ts (k + 1)).map dMem)), ("quiet", .int (lcmL (mt ts (k + 1)) : Nat)), ("left", .int (lf lcmL (mt ts (k + 1)) : Nat))]) := fun g => rfl
      have im : ∀ g : OH, insAt g (dMem u) = some ("Member", [("name", .str u.name), ("rank", .int u.rank), ("schedule", dSch u.pre u.cyc)]) := fun g => rfl
      have hn : hasNo [("members", .lst ((mt ts (k + 1)).map dMem)), ("quiet", .int (lcmL (mt ts (k + 1)) : Nat)), ("left", .int (lf lcmL (mt ts (k + 1)) : Nat))] "spoken_by" := rfl
      simp [ia, im, hn, List.lookup, s1, m1, m2, e1, e2]
      refine ⟨by simp only [big]; omega, ?_⟩
      simpa [dPr, Nat.add_assoc] using f2
    · obtain ⟨ks, f, rfl, x7, rfl⟩ := hI
      rw [List.length_map, List.take_length] at f
      refine hK _ _ ?_
      clear hK K
      have ia : ∀ g : OH, insAt g (dRC (mt ts (k + 1))) = some ("RankCycle", [("members", .lst ((mt ts (k + 1)).map dMem)), ("quiet", .int (lcmL (mt ts (k + 1)) : Nat)), ("left", .int (lf lcmL (mt ts (k + 1)) : Nat))]) := fun g => rfl
      have m1 : mulOk ((tp lcmL ts k : Nat) : Int) ((lcmL (mt ts (k + 1)) : Nat) : Int) = true := mulOk_bl (by omega)
      have m2 : mulOk ((bt lcmL ts k : Nat) : Int) ((lf lcmL (mt ts (k + 1)) : Nat) : Int) = true := mulOk_bl (by omega)
      have e1 : ((tp lcmL ts k : Nat) : Int) * ((lcmL (mt ts (k + 1)) : Nat) : Int) = ((tp lcmL ts (k + 1) : Nat) : Int) := by rw [← Int.natCast_mul]; rfl
      have e2 : ((bt lcmL ts k : Nat) : Int) * ((lf lcmL (mt ts (k + 1)) : Nat) : Int) = ((bt lcmL ts (k + 1) : Nat) : Int) := by rw [← Int.natCast_mul]; rfl
      simp [sPar, ia, List.lookup, m1, m2, e1, e2]
      refine ⟨?_, fun u hu hs => f.at_ u hu ?_⟩
      · have := f.len
        have := mt_le w (k := k + 1)
        omega
      · by_cases c : u.rank ≤ (k : Nat)
        · exact .inl c
        · exact .inr (List.mem_filter.mpr ⟨hu, decide_eq_true (by omega)⟩)
  · obtain ⟨ks, f, rfl, x5, x6, x7, rfl⟩ := hI
    refine hK _ _ ?_
    clear hK K
    have ln : (rngD 1 10).length = 10 := rfl
    rw [ln] at f ⊢
    refine SW_seqK fun K hK => ?_
    simp [wipeD]
    refine W_lcMap1 ts dMem (fun t => .str t.name) _ (by simp [big]; omega) (fun x hx => ⟨_, rfl, by simp [dMem, List.lookup]⟩) ?_
    simp
    refine ⟨by omega, ?_⟩
    rw [shE_names]
    refine hK _ _ ?_
    clear hK K
    refine SW_seqK fun K hK => ?_
    simp
    refine hK _ _ ?_
    clear hK K
    refine SW_seqK fun K hK => ?_
    simp
    refine hK _ _ ?_
    clear hK K
    have q2 := q ks (dPr (tp lcmL ts 10, bt lcmL ts 10))
    rw [shE_rows] at q2
    have gets : ∀ e ∈ shE ts, ∀ (g : OH) (PD : D → OH → Prop), g[h.length]? = some (.nd (hexN P wd) ks (dPr (tp lcmL ts 10, bt lcmL ts 10))) → (opGetN (hexN P wd) (.ref h.length) e.1 g).W PD = PD (dPr e.2) g := by
      intro e he g PD hg
      rcases List.mem_append.mp he with he | he
      · obtain ⟨u, hu, rfl⟩ := List.mem_map.mp he
        exact W_getN1 hg (f.at_ u hu (by have := (w.tk u hu).r2; simpa using this))
      · rw [List.mem_singleton] at he
        subst he
        exact W_getN0 hg
    have oks := fun q (hq : q ∈ shE ts) => shE_ok w hq
    have len : (shE ts).length ≤ 11 := by simp [shE]; omega
    have hx : D.tup [D.int ((tp lcmL ts 10 : Nat) : Int), D.int ((bt lcmL ts 10 : Nat) : Int)] = dPr (tp lcmL ts 10, bt lcmL ts 10) := rfl
    rw [hx]
    clear hx
    generalize shE ts = E at q2 gets oks len ⊢
    generalize dPr (tp lcmL ts 10, bt lcmL ts 10) = x0 at q2 gets ⊢
    refine SW_seqK fun K hK => ?_
    simp
    refine W_forL (fun j e h' => h' = h ++ [.nd (hexN P wd) ks x0, .lst ((E.take j).map fun q => dRow q.1 (red q.2))] ∧ ∃ x10 x11 : Option D, e = [some d, some (.lst (ts.map dMem)), some (.int ((tp lcmL ts 10 : Nat) : Int)), some (.int ((bt lcmL ts 10 : Nat) : Int)), some (.ref h.length), x5, x6, x7, some (.lst (E.map (·.1))), some (.ref (h.length + 1)), x10, x11]) _ _ _
      ⟨rfl, _, _, rfl⟩ (fun j dd hdd e h' hI => ?_) (fun e h' hI => ?_)
    · obtain ⟨rfl, x10, x11, rfl⟩ := hI
      rw [List.getElem?_map, Option.map_eq_some_iff] at hdd
      obtain ⟨⟨n, p⟩, hp, rfl⟩ := hdd
      have hm := List.mem_of_getElem? hp
      have hj : j < 11 := by
        have := (List.getElem?_eq_some_iff.mp hp).1
        omega
      obtain ⟨p0, p1, p2⟩ := oks _ hm
      have gt := gets _ hm
      dsimp only at p0 p1 p2 gt ⊢
      rw [List.take_add_one, hp]
      have g := fun h => gc (a := p.1) (b := p.2) h (by omega)
      have g0 : 0 < Nat.gcd p.1 p.2 := Nat.gcd_pos_of_pos_right _ p0
      have gb : bl2 (Nat.gcd p.1 p.2) ≤ 1051 := Nat.le_trans (bl2_mono (Nat.gcd_le_right _ p0)) p2
      have d1 : divOk (p.1 : Int) ((Nat.gcd p.1 p.2 : Nat) : Int) = true := divOk_bl g0 (by omega)
      have d2 : divOk (p.2 : Int) ((Nat.gcd p.1 p.2 : Nat) : Int) = true := divOk_bl g0 (by omega)
      have e1 : (p.1 : Int) / ((Nat.gcd p.1 p.2 : Nat) : Int) = (((red p).1 : Nat) : Int) := rfl
      have e2 : (p.2 : Int) / ((Nat.gcd p.1 p.2 : Nat) : Int) = (((red p).2 : Nat) : Int) := rfl
      refine ⟨_, rfl, ?_⟩
      refine SW_seqK fun K hK => ?_
      have gt2 := fun (l : List D) (PD : D → OH → Prop) => gt (h ++ [.nd (hexN P wd) ks x0, .lst l]) PD (by simp)
      simp [gt2, dPr, g]
      refine hK _ _ ?_
      clear hK K
      simp [gt2, dPr, d1, d2, e1, e2]
      exact ⟨by omega, rfl⟩
    · obtain ⟨rfl, x10, x11, rfl⟩ := hI
      rw [List.length_map, List.take_length]
      refine hK _ _ ?_
      exact q2 _ rfl
theorem shares1 {d : D} {ts : List Tk} (hd : Hallish d ts) (w : WfHall T30 ts) (P : Program) (wd : World) (h : OH) : pureF (Sh.shares_of_1 P wd) [d] h = .ok (.lst (sharD ts)) h := by
  refine pure_eq h (by simp [hd.pure]) (by rw [D.pure]; exact shar_pure ts) ?_
  unfold Sh.shares_of_1; rw [W_fn, shb1]
  refine sharesB hd w P wd [] fun ks x e he => ?_
  have v9 : ∀ (h : OH) (PD : D → OH → Prop), (sVar 9 e h).W PD = PD (.ref 1) h := fun h PD => by simp only [sVar, he]; rfl
  simp [v9]
end HR
set_option Elab.async false
set_option linter.all false
set_option maxRecDepth 20000
set_option exponentiation.threshold 5000
namespace HR
open PySem L2
/-! ### cycles of ranks: the maths (law k34) -/
/-- a talker without the rank -/
abbrev Co := Str × List (Int × Int) × List (Int × Int)
def core (t : Tk) : Co := (t.name, t.pre, t.cyc)
def un (x : Co) : Tk := ⟨x.1, 1, x.2.1, x.2.2⟩
def cm (ts : List Tk) (r : Nat) : List Co := (mt ts r).map core
def nl (x : Run) : Str × Int := (x.t.name, x.len)
def nlC (q : Nat) (x : Co) : Option (Str × Int) := if 0 < cnt x.2.1 x.2.2 q ∧ acc (·.1) x.2.1 x.2.2 (cnt x.2.1 x.2.2 q) = (q : Int) then some (x.1, (nth x.2.1 x.2.2 (cnt x.2.1 x.2.2 q - 1)).2) else none
theorem runL_nl (r q : Nat) : ∀ ts : List Tk, (runL ts r q).map nl = (cm ts r).filterMap (nlC q)
  | [] => rfl
  | t :: ts => by
    have ih := runL_nl r q ts
    unfold runL cm mt at *
    rw [List.filterMap_cons, List.filter_cons]
    by_cases c : t.rank = (r : Int)
    · rw [if_pos (by simpa using c), List.map_cons, List.filterMap_cons]
      by_cases d : 0 < cnt t.pre t.cyc q ∧ acc (·.1) t.pre t.cyc (cnt t.pre t.cyc q) = (q : Int)
      · have e1 : runAt r q t = some ⟨t, cnt t.pre t.cyc q - 1, (nth t.pre t.cyc (cnt t.pre t.cyc q - 1)).2⟩ := if_pos ⟨c, d⟩
        have e2 : nlC q (core t) = some (t.name, (nth t.pre t.cyc (cnt t.pre t.cyc q - 1)).2) := if_pos d
        rw [e1, e2, List.map_cons, ih]
        rfl
      · have e1 : runAt r q t = none := if_neg fun z => d z.2
        have e2 : nlC q (core t) = none := if_neg d
        rw [e1, e2]
        exact ih
    · rw [if_neg (by simpa using c)]
      have e1 : runAt r q t = none := if_neg fun z => c z.1
      rw [e1]
      exact ih
theorem sfold_nl (x : Str) : ∀ (l l' : List Run) (f : Int), l.map nl = l'.map nl → sfold x f l = sfold x f l'
  | [], [], _, _ => rfl
  | [], _ :: _, _, h => by simp at h
  | _ :: _, [], _, h => by simp at h
  | y :: l, y' :: l', f, h => by
    simp only [List.map_cons, List.cons.injEq, nl, Prod.mk.injEq] at h
    obtain ⟨⟨h1, h2⟩, h3⟩ := h
    unfold sfold
    rw [h1, h2, sfold_nl x l l' _ h3]
section
variable {ts ts' : List Tk} {r r' : Nat}
theorem LL_cm (h : cm ts r = cm ts' r') (q : Nat) : LL ts r q = LL ts' r' q := by
  have e : ∀ (us : List Tk) (s : Nat), LL us s q = ((cm us s).map fun x => len2 x.2.1 x.2.2 q).sum := fun us s => by
    unfold cm
    rw [List.map_map]
    rfl
  rw [e, e, h]
theorem sf_cm (h : cm ts r = cm ts' r') (q : Nat) (x : Str) (f : Int) : sfold x f (runL ts r q) = sfold x f (runL ts' r' q) :=
  sfold_nl x _ _ f (by rw [runL_nl, runL_nl, h])
theorem lcm_core (us : List Tk) : lcmL us = lcmL ((us.map core).map un) := by
  unfold lcmL
  rw [List.foldl_map, List.foldl_map]
  rfl
theorem lf_core (us : List Tk) : lf lcmL us = lf lcmL ((us.map core).map un) := by
  unfold lf
  rw [← lcm_core, List.map_map, List.map_map]
  rfl
theorem lcm_cm (h : cm ts r = cm ts' r') : lcmL (mt ts r) = lcmL (mt ts' r') := by
  have h' : (mt ts r).map core = (mt ts' r').map core := h
  rw [lcm_core, h', ← lcm_core]
theorem lf_cm (h : cm ts r = cm ts' r') : lf lcmL (mt ts r) = lf lcmL (mt ts' r') := by
  have h' : (mt ts r).map core = (mt ts' r').map core := h
  rw [lf_core, h', ← lf_core]
theorem cm_nil (h : cm ts r = []) : mt ts r = [] := List.map_eq_nil_iff.mp h
end
theorem cyS_nil (p : Nat × Nat) : cyS p [] = p := by
  have e1 : lf lcmL [] = 1 := rfl
  have e2 : lcmL [] = 1 := rfl
  have e3 : rnd p.2 1 = 1 := by simp [rnd]
  unfold cyS
  rw [e1, e2, e3]
  simp
/-- halls alike but for the numbers of the ranks -/
def RelC (c : Nat → Nat) (ts ts' : List Tk) (K : Nat) : Prop := c 0 = 0 ∧ ∀ k, k < K → (cm ts (k + 1) = [] ∧ c (k + 1) = c k) ∨ (c (k + 1) = c k + 1 ∧ cm ts' (c k + 1) = cm ts (k + 1))
section
variable {c : Nat → Nat} {ts ts' : List Tk} {K : Nat} (R : RelC c ts ts' K)
include R
theorem TO_rel : ∀ {k : Nat}, k ≤ K → ∀ q, TO ts' (c k) q = TO ts k q
  | 0, _, q => by rw [R.1]; rfl
  | k + 1, hk, q => by
    have ih := fun q => TO_rel (k := k) (by omega) q
    rcases R.2 k (by omega) with ⟨a, b⟩ | ⟨a, b⟩
    · rw [b, ih]
      have e : LL ts (k + 1) q = 0 := by
        rw [LL_cm (ts' := []) (r' := 0) (by rw [a]; rfl)]
        rfl
      show _ = TO ts k (q + LL ts (k + 1) q)
      rw [e, Nat.add_zero]
    · rw [a]
      show TO ts' (c k) (q + LL ts' (c k + 1) q) = TO ts k (q + LL ts (k + 1) q)
      rw [LL_cm b, ih]
theorem cyN_rel : ∀ {k : Nat}, k ≤ K → cyN ts' (c k) = cyN ts k
  | 0, _ => by rw [R.1]; rfl
  | k + 1, hk => by
    have ih := cyN_rel (k := k) (by omega)
    rcases R.2 k (by omega) with ⟨a, b⟩ | ⟨a, b⟩
    · rw [b, ih]
      show _ = cyS (cyN ts k) (mt ts (k + 1))
      rw [cm_nil a, cyS_nil]
    · rw [a]
      show cyS (cyN ts' (c k)) (mt ts' (c k + 1)) = cyS (cyN ts k) (mt ts (k + 1))
      rw [ih]
      unfold cyS
      rw [lcm_cm b, lf_cm b]
theorem tb_rel : ∀ {k : Nat}, k ≤ K → tp lcmL ts' (c k) = tp lcmL ts k ∧ bt lcmL ts' (c k) = bt lcmL ts k
  | 0, _ => by rw [R.1]; exact ⟨rfl, rfl⟩
  | k + 1, hk => by
    have ih := tb_rel (k := k) (by omega)
    rcases R.2 k (by omega) with ⟨a, b⟩ | ⟨a, b⟩
    · rw [b, ih.1, ih.2]
      show _ = tp lcmL ts k * lcmL (mt ts (k + 1)) ∧ _ = bt lcmL ts k * lf lcmL (mt ts (k + 1))
      rw [cm_nil a, show lcmL [] = 1 from rfl, show lf lcmL [] = 1 from rfl, Nat.mul_one, Nat.mul_one]
      exact ⟨rfl, rfl⟩
    · rw [a]
      show tp lcmL ts' (c k) * lcmL (mt ts' (c k + 1)) = tp lcmL ts k * lcmL (mt ts (k + 1)) ∧ bt lcmL ts' (c k) * lf lcmL (mt ts' (c k + 1)) = bt lcmL ts k * lf lcmL (mt ts (k + 1))
      rw [lcm_cm b, lf_cm b, ih.1, ih.2]
      exact ⟨rfl, rfl⟩
/-- a talker of a rank that is used -/
theorem rel_at {t t' : Tk} (ht : t ∈ ts) (h0 : 1 ≤ t.rank) (h1 : t.rank ≤ K) (hr : t'.rank.toNat = c t.rank.toNat) : ∃ k, t.rank.toNat = k + 1 ∧ k < K ∧ t'.rank.toNat = c k + 1 ∧ cm ts' (c k + 1) = cm ts (k + 1) := by
  refine ⟨t.rank.toNat - 1, by omega, by omega, ?_⟩
  have e : t.rank.toNat - 1 + 1 = t.rank.toNat := by omega
  rcases R.2 (t.rank.toNat - 1) (by omega) with ⟨a, b⟩ | ⟨a, b⟩
  · exfalso
    have hm : t ∈ mt ts (t.rank.toNat - 1 + 1) := List.mem_filter.mpr ⟨ht, decide_eq_true (by omega)⟩
    rw [cm_nil a] at hm
    simp at hm
  · rw [e] at a
    exact ⟨by rw [hr, a], b⟩
theorem endT_rel {t t' : Tk} (ht : t ∈ ts) (h0 : 1 ≤ t.rank) (h1 : t.rank ≤ K) (hr : t'.rank.toNat = c t.rank.toNat) (hc : core t' = core t) : endT ts' t' = endT ts t := by
  obtain ⟨k, e1, e2, e3, e4⟩ := rel_at R ht h0 h1 hr
  simp only [core, Prod.mk.injEq] at hc
  obtain ⟨c1, c2, c3⟩ := hc
  unfold endT spL spI Q1
  rw [e1, e3, Nat.add_sub_cancel, Nat.add_sub_cancel, c1, c2, c3, TO_rel R (by omega), sf_cm e4, LI, LI, LL_cm e4]
theorem fr_rel {t t' : Tk} (ht : t ∈ ts) (h0 : 1 ≤ t.rank) (h1 : t.rank ≤ K) (hr : t'.rank.toNat = c t.rank.toNat) (hc : core t' = core t) : fr lcmL ts' t' = fr lcmL ts t := by
  obtain ⟨k, e1, e2, e3, e4⟩ := rel_at R ht h0 h1 hr
  simp only [core, Prod.mk.injEq] at hc
  obtain ⟨c1, c2, c3⟩ := hc
  have e5 : c (k + 1) = c k + 1 := by rw [← e1, ← hr, e3]
  have tb := tb_rel R (k := k + 1) (by omega)
  rw [e5] at tb
  have es : ∀ q, sk q t' = sk q t := fun q => by
    unfold sk qs ql
    rw [c3]
  unfold fr
  rw [e1, e3, Nat.add_sub_cancel, Nat.add_sub_cancel, (tb_rel R (k := k) (by omega)).1, tb.2, lcm_cm e4, es]
end
/-! the start -/
def sv (ts : List Tk) (t : Tk) : Nat := if t.pre.length = 0 then 0 else endT ts t
theorem stN_sv (ts : List Tk) : stN ts = (ts.map (sv ts)).foldl max 0 := by
  unfold stN
  rw [List.foldl_map]
  congr 1
  funext f t
  unfold stF sv
  split
  · rw [Nat.max_zero]
  · rfl
theorem fmax_le {b : Nat} : ∀ {l : List Nat} {a : Nat}, a ≤ b → (∀ x ∈ l, x ≤ b) → l.foldl max a ≤ b
  | [], _, h, _ => h
  | x :: l, a, h, hl => fmax_le (l := l) (Nat.max_le.mpr ⟨h, hl x List.mem_cons_self⟩) fun y hy => hl y (List.mem_cons_of_mem _ hy)
theorem le_fmax : ∀ {l : List Nat} {a : Nat}, a ≤ l.foldl max a ∧ ∀ x ∈ l, x ≤ l.foldl max a
  | [], _ => ⟨Nat.le_refl _, by simp⟩
  | x :: l, a => by
    obtain ⟨h1, h2⟩ := le_fmax (l := l) (a := max a x)
    rw [List.foldl_cons]
    refine ⟨Nat.le_trans (Nat.le_max_left _ _) h1, fun y hy => ?_⟩
    rcases List.mem_cons.mp hy with rfl | hy
    · exact Nat.le_trans (Nat.le_max_right _ _) h1
    · exact h2 y hy
theorem cyN_stop {ts : List Tk} {K : Nat} : ∀ {N : Nat}, K ≤ N → (∀ k, K ≤ k → k < N → mt ts (k + 1) = []) → cyN ts N = cyN ts K ∧ tp lcmL ts N = tp lcmL ts K ∧ bt lcmL ts N = bt lcmL ts K
  | 0, h, _ => by rw [Nat.le_zero.mp h]; exact ⟨rfl, rfl, rfl⟩
  | N + 1, h, e => by
    by_cases z : K = N + 1
    · subst z; exact ⟨rfl, rfl, rfl⟩
    · have ih := cyN_stop (N := N) (by omega) fun k a b => e k a (by omega)
      rw [← ih.1, ← ih.2.1, ← ih.2.2]
      have en := e N (by omega) (by omega)
      refine ⟨?_, ?_, ?_⟩
      · show cyS (cyN ts N) (mt ts (N + 1)) = _
        rw [en, cyS_nil]
      · show tp lcmL ts N * lcmL (mt ts (N + 1)) = _
        rw [en, show lcmL [] = 1 from rfl, Nat.mul_one]
      · show bt lcmL ts N * lf lcmL (mt ts (N + 1)) = _
        rw [en, show lf lcmL [] = 1 from rfl, Nat.mul_one]
/-! the talkers down to a rank -/
section
variable {ts : List Tk}
theorem mu_mt {r k : Nat} (h : k ≤ r) : mt (mu ts r) k = mt ts k := by
  unfold mt mu
  rw [List.filter_filter]
  refine List.filter_congr fun t _ => ?_
  by_cases c : t.rank = (k : Int)
  · have : t.rank ≤ (r : Int) := by omega
    simp [c, this]
    omega
  · simp [c]
theorem mu_mt0 {r k : Nat} (h : r < k) : mt (mu ts r) k = [] := by
  unfold mt mu
  rw [List.filter_filter]
  refine List.filter_eq_nil_iff.mpr fun t _ => ?_
  simp
  omega
theorem mu_rel (r : Nat) : RelC id ts (mu ts r) r := ⟨rfl, fun k hk => .inr ⟨rfl, by unfold cm; rw [id, mu_mt (by omega)]⟩⟩
theorem mu_cyN {r : Nat} (h : r ≤ 10) : cyN (mu ts r) 10 = cyN ts r := by
  rw [(cyN_stop (K := r) h fun k a _ => mu_mt0 (by omega)).1]
  exact cyN_rel (mu_rel r) (Nat.le_refl r)
theorem mu_sv {r : Nat} (w : WfHall T30 ts) {t : Tk} (ht : t ∈ mu ts r) : sv (mu ts r) t = sv ts t := by
  obtain ⟨a, b⟩ := List.mem_filter.mp ht
  have b := of_decide_eq_true b
  unfold sv
  rw [endT_rel (mu_rel r) (t := t) (t' := t) a (w.tk t a).r1 b rfl rfl]
theorem mu_st {r s : Nat} (w : WfHall T30 ts) (h : r ≤ s) : stN (mu ts r) ≤ stN (mu ts s) := by
  rw [stN_sv, stN_sv]
  refine fmax_le (Nat.zero_le _) fun x hx => ?_
  obtain ⟨t, ht, rfl⟩ := List.mem_map.mp hx
  rw [mu_sv w ht]
  have hs : t ∈ mu ts s := by
    obtain ⟨a, b⟩ := List.mem_filter.mp ht
    have b := of_decide_eq_true b
    exact List.mem_filter.mpr ⟨a, decide_eq_true (by omega)⟩
  refine le_fmax.2 _ (List.mem_map.mpr ⟨t, hs, mu_sv w hs⟩)
theorem mu_wf (w : WfHall T30 ts) (r : Nat) : WfHall T30 (mu ts r) := ⟨Nat.le_trans (List.length_filter_le _ _) w.len, fun t ht => w.tk t (List.mem_filter.mp ht).1, List.Nodup.sublist (List.Sublist.map _ List.filter_sublist) w.nd⟩
end
end HR
set_option Elab.async false
set_option linter.all false
set_option maxRecDepth 20000
set_option exponentiation.threshold 5000
namespace HR
open PySem L2
/-! ### without prefixes -/
def np (t : Tk) : Tk := { t with pre := [] }
theorem np_wf {ts : List Tk} (w : WfHall T30 ts) : WfHall T30 (ts.map np) := by
  refine ⟨by rw [List.length_map]; exact w.len, fun t ht => ?_, ?_⟩
  · obtain ⟨u, hu, rfl⟩ := List.mem_map.mp ht
    have v := w.tk u hu
    exact ⟨v.name, v.r1, v.r2, by simp [np], v.lc1, v.lc, by simp [np], v.cyc⟩
  · rw [List.map_map]
    exact w.nd
theorem np_st (ts : List Tk) : stN (ts.map np) = 0 := by
  rw [stN_sv]
  refine Nat.le_zero.mp (fmax_le (Nat.le_refl 0) fun x hx => ?_)
  obtain ⟨t, ht, rfl⟩ := List.mem_map.mp hx
  obtain ⟨u, _, rfl⟩ := List.mem_map.mp ht
  exact Nat.le_refl 0
theorem np_mt (ts : List Tk) (r : Nat) : mt (ts.map np) r = (mt ts r).map np := by
  unfold mt
  rw [List.filter_map]
  rfl
theorem np_lcm (us : List Tk) : lcmL (us.map np) = lcmL us := by
  unfold lcmL
  rw [List.foldl_map]
  rfl
theorem np_lf (us : List Tk) : lf lcmL (us.map np) = lf lcmL us := by
  unfold lf
  rw [np_lcm, List.map_map]
  rfl
theorem cyN_congr {ts ts' : List Tk} (h : ∀ k, lcmL (mt ts' (k + 1)) = lcmL (mt ts (k + 1)) ∧ lf lcmL (mt ts' (k + 1)) = lf lcmL (mt ts (k + 1))) : ∀ k, cyN ts' k = cyN ts k
  | 0 => rfl
  | k + 1 => by
    show cyS (cyN ts' k) (mt ts' (k + 1)) = cyS (cyN ts k) (mt ts (k + 1))
    rw [cyN_congr h k]
    unfold cyS
    rw [(h k).1, (h k).2]
theorem np_cyN (ts : List Tk) (k : Nat) : cyN (ts.map np) k = cyN ts k := cyN_congr (fun k => by rw [np_mt, np_lcm, np_lf]; exact ⟨rfl, rfl⟩) k
/-! ### one rank alone -/
theorem mt_mt {ts : List Tk} {r k : Nat} : mt (mt ts r) k = if k = r then mt ts r else [] := by
  by_cases c : k = r
  · subst c
    rw [if_pos rfl]
    unfold mt
    rw [List.filter_filter]
    simp
  · rw [if_neg c]
    unfold mt
    rw [List.filter_filter]
    refine List.filter_eq_nil_iff.mpr fun t _ => ?_
    simp
    omega
theorem alone_cyN {ts : List Tk} {r : Nat} (h0 : 1 ≤ r) (h1 : r ≤ 10) : (cyN ((mt ts r).map np) 10).1 = lf lcmL (mt ts r) := by
  rw [np_cyN]
  obtain ⟨j, rfl⟩ : ∃ j, r = j + 1 := ⟨r - 1, by omega⟩
  rw [(cyN_stop (K := j + 1) h1 fun k a _ => by rw [mt_mt, if_neg (by omega)]).1]
  show (cyS (cyN (mt ts (j + 1)) j) (mt (mt ts (j + 1)) (j + 1))).1 = _
  rw [(cyN_stop (K := 0) (Nat.zero_le j) fun k _ b => by rw [mt_mt, if_neg (by omega)]).1, mt_mt, if_pos rfl]
  show 1 * rnd 1 _ = _
  simp [rnd]
/-! ### the other way round -/
theorem lcmF_min : ∀ (us : List Tk) (a M : Nat), a ∣ M → (∀ u ∈ us, qs u ∣ M) → us.foldl (fun a u => Nat.lcm a (qs u)) a ∣ M
  | [], _, _, h, _ => h
  | u :: us, a, M, h, hl => lcmF_min us _ M (Nat.lcm_dvd h (hl u List.mem_cons_self)) fun v hv => hl v (List.mem_cons_of_mem _ hv)
theorem lcm_rev (us : List Tk) : lcmL us.reverse = lcmL us := by
  refine Nat.dvd_antisymm ?_ ?_
  · exact lcmF_min _ 1 _ (Nat.one_dvd _) fun u hu => (lcmF_dvd us 1).2 u (List.mem_reverse.mp hu)
  · exact lcmF_min _ 1 _ (Nat.one_dvd _) fun u hu => (lcmF_dvd us.reverse 1).2 u (List.mem_reverse.mpr hu)
theorem lf_rev (us : List Tk) : lf lcmL us.reverse = lf lcmL us := by
  unfold lf
  rw [lcm_rev, List.map_reverse, List.sum_reverse]
theorem rev_cyN (ts : List Tk) (k : Nat) : cyN ts.reverse k = cyN ts k := cyN_congr (fun k => by
  have e : mt ts.reverse (k + 1) = (mt ts (k + 1)).reverse := by unfold mt; rw [List.filter_reverse]
  rw [e, lcm_rev, lf_rev]
  exact ⟨rfl, rfl⟩) k
theorem rev_wf {ts : List Tk} (w : WfHall T30 ts) : WfHall T30 ts.reverse := ⟨by rw [List.length_reverse]; exact w.len, fun t ht => w.tk t (List.mem_reverse.mp ht), by rw [List.map_reverse]; exact (List.reverse_perm _).nodup_iff.mpr w.nd⟩
/-! ### packed ranks -/
/-- how many ranks down to one are in use -/
def cU (ts : List Tk) : Nat → Nat
  | 0 => 0
  | k + 1 => if mt ts (k + 1) = [] then cU ts k else cU ts k + 1
def pk (ts : List Tk) (t : Tk) : Tk := { t with rank := ((cU ts t.rank.toNat : Nat) : Int) }
section
variable {ts : List Tk} (w : WfHall T30 ts)
theorem cU_le : ∀ k, cU ts k ≤ k
  | 0 => Nat.le_refl _
  | k + 1 => by
    have := cU_le k
    unfold cU
    split <;> omega
theorem cU_mono {j : Nat} : ∀ {k : Nat}, j ≤ k → cU ts j ≤ cU ts k
  | 0, h => by rw [Nat.le_zero.mp h]; exact Nat.le_refl _
  | k + 1, h => by
    by_cases e : j = k + 1
    · subst e; exact Nat.le_refl _
    · have := cU_mono (k := k) (j := j) (by omega)
      show _ ≤ if mt ts (k + 1) = [] then cU ts k else cU ts k + 1
      split <;> omega
include w
theorem cU_at {t : Tk} (ht : t ∈ ts) : ∃ k, t.rank = ((k + 1 : Nat) : Int) ∧ k < 10 ∧ t.rank.toNat = k + 1 ∧ cU ts (k + 1) = cU ts k + 1 := by
  have v := w.tk t ht
  have r1 := v.r1
  have r2 := v.r2
  refine ⟨t.rank.toNat - 1, by omega, by omega, by omega, ?_⟩
  show (if _ then _ else _) = _
  rw [if_neg fun z => ?_]
  have hm : t ∈ mt ts (t.rank.toNat - 1 + 1) := List.mem_filter.mpr ⟨ht, decide_eq_true (by omega)⟩
  rw [z] at hm
  simp at hm
theorem pk_wf : WfHall T30 (ts.map (pk ts)) := by
  refine ⟨by rw [List.length_map]; exact w.len, fun t ht => ?_, ?_⟩
  · obtain ⟨u, hu, rfl⟩ := List.mem_map.mp ht
    have v := w.tk u hu
    obtain ⟨k, e1, e2, e3, e4⟩ := cU_at w hu
    have := cU_le (ts := ts) (k + 1)
    exact ⟨v.name, by show (1 : Int) ≤ ((cU ts u.rank.toNat : Nat) : Int); rw [e3]; omega, by show ((cU ts u.rank.toNat : Nat) : Int) ≤ 10; rw [e3]; omega, v.lp, v.lc1, v.lc, v.pre, v.cyc⟩
  · rw [List.map_map]
    exact w.nd
theorem pk_mt {k : Nat} (hk : mt ts (k + 1) ≠ []) : mt (ts.map (pk ts)) (cU ts k + 1) = (mt ts (k + 1)).map (pk ts) := by
  unfold mt
  rw [List.filter_map]
  congr 1
  refine List.filter_congr fun t ht => ?_
  obtain ⟨j, e1, e2, e3, e4⟩ := cU_at w ht
  have ck : cU ts (k + 1) = cU ts k + 1 := if_neg hk
  show decide (((cU ts t.rank.toNat : Nat) : Int) = ((cU ts k + 1 : Nat) : Int)) = decide (t.rank = ((k + 1 : Nat) : Int))
  rw [e3, e1, e4]
  by_cases c : j = k
  · subst c; simp
  · rw [decide_eq_false (by omega : ¬ ((j + 1 : Nat) : Int) = ((k + 1 : Nat) : Int))]
    refine decide_eq_false fun z => ?_
    rcases Nat.lt_or_gt_of_ne c with c | c
    · have := cU_mono (ts := ts) (j := j + 1) (k := k) (by omega)
      omega
    · have := cU_mono (ts := ts) (j := k + 1) (k := j) (by omega)
      omega
theorem pk_rel : RelC (cU ts) ts (ts.map (pk ts)) 10 := ⟨rfl, fun k hk => by
  by_cases c : mt ts (k + 1) = []
  · exact .inl ⟨by unfold cm; rw [c]; rfl, if_pos c⟩
  · refine .inr ⟨if_neg c, ?_⟩
    unfold cm
    rw [pk_mt w c, List.map_map]
    rfl⟩
theorem pk_mt0 {k : Nat} (hk : cU ts 10 < k) : mt (ts.map (pk ts)) k = [] := by
  refine List.filter_eq_nil_iff.mpr fun t ht => ?_
  obtain ⟨u, hu, rfl⟩ := List.mem_map.mp ht
  obtain ⟨j, e1, e2, e3, e4⟩ := cU_at w hu
  have := cU_mono (ts := ts) (j := j + 1) (k := 10) (by omega)
  intro z
  have z : ((cU ts u.rank.toNat : Nat) : Int) = (k : Int) := of_decide_eq_true z
  rw [e3] at z
  omega
theorem pk_all : cyN (ts.map (pk ts)) 10 = cyN ts 10 ∧ tp lcmL (ts.map (pk ts)) 10 = tp lcmL ts 10 ∧ bt lcmL (ts.map (pk ts)) 10 = bt lcmL ts 10 := by
  obtain ⟨a, b, c⟩ := cyN_stop (ts := ts.map (pk ts)) (K := cU ts 10) (N := 10) (cU_le 10) fun k h _ => pk_mt0 w (by omega)
  have R := pk_rel w
  rw [a, b, c]
  exact ⟨cyN_rel R (Nat.le_refl _), tb_rel R (Nat.le_refl _)⟩
theorem pk_st : stN (ts.map (pk ts)) = stN ts := by
  rw [stN_sv, stN_sv, List.map_map]
  congr 1
  refine List.map_congr_left fun t ht => ?_
  have v := w.tk t ht
  show (if (pk ts t).pre.length = 0 then 0 else _) = if t.pre.length = 0 then 0 else _
  rw [endT_rel (pk_rel w) (t' := pk ts t) ht v.r1 v.r2 rfl rfl]
  rfl
theorem pk_sh : sharD (ts.map (pk ts)) = sharD ts := by
  unfold sharD
  rw [(pk_all w).2.1, (pk_all w).2.2, List.map_map]
  congr 1
  refine List.map_congr_left fun t ht => ?_
  have v := w.tk t ht
  show dRow _ (red (fr lcmL _ (pk ts t))) = _
  rw [fr_rel (pk_rel w) (t' := pk ts t) ht v.r1 v.r2 rfl rfl]
  rfl
end
end HR
set_option Elab.async false
set_option linter.all false
set_option maxRecDepth 20000
set_option exponentiation.threshold 5000
namespace HR
open PySem L2
/-! ### law k34: the law's own sums -/
def lcmN (ns : List Nat) : Nat := ns.foldl Nat.lcm 1
theorem lmult {ns : List Nat} (hl : ns.length ≤ 100) (h0 : ∀ n ∈ ns, 0 < n ∧ bl2 n ≤ 2000) (hb : ∀ k, bl2 (lcmN (ns.take k)) ≤ 3000) (h : OH) : pureF Sh.l_multiple [.lst (ns.map fun n => .int ((n : Nat) : Int))] h = .ok (.int ((lcmN ns : Nat) : Int)) h := by
  refine pure_eq h (by
    have : D.pureL (ns.map fun n => D.int ((n : Nat) : Int)) = true := pureL_map _ (fun _ => rfl) _
    simp [D.pure, this]) rfl ?_
  unfold Sh.l_multiple; rw [W_fn]; unfold Sh.l_multiple_b
  refine SW_seqK fun K hK => ?_
  simp
  refine hK _ _ ?_
  clear hK K
  refine SW_seqK fun K hK => ?_
  simp
  refine W_forL (fun k e h => ∃ x2 x3 x4 : Option D, e = [some (.lst (ns.map fun n => .int ((n : Nat) : Int))), some (.int ((lcmN (ns.take k) : Nat) : Int)), x2, x3, x4]) _ _ _ ⟨_, _, _, rfl⟩ (fun k d hd e h hI => ?_) (fun e h hI => ?_)
  · obtain ⟨x2, x3, x4, rfl⟩ := hI
    rw [List.getElem?_map, Option.map_eq_some_iff] at hd
    obtain ⟨n, hn, rfl⟩ := hd
    obtain ⟨n0, nb⟩ := h0 n (List.mem_of_getElem? hn)
    have ab := hb k
    have es : lcmN (ns.take (k + 1)) = Nat.lcm (lcmN (ns.take k)) n := by
      rw [List.take_add_one, hn]
      simp [lcmN, List.foldl_append]
    refine ⟨_, rfl, ?_⟩
    rw [es]
    generalize lcmN (ns.take k) = a at ab ⊢
    have g0 : 0 < Nat.gcd a n := Nat.gcd_pos_of_pos_right _ n0
    have g1 : bl2 (Nat.gcd a n) ≤ bl2 n := bl2_mono (Nat.gcd_le_right _ n0)
    have d1 : divOk (a : Int) ((Nat.gcd a n : Nat) : Int) = true := divOk_bl g0 (by omega)
    have e1 : (a : Int) / ((Nat.gcd a n : Nat) : Int) = ((a / Nat.gcd a n : Nat) : Int) := rfl
    have m1 : mulOk ((a / Nat.gcd a n : Nat) : Int) (n : Int) = true := mulOk_bl (by have := bl2_mono (Nat.div_le_self a (Nat.gcd a n)); omega)
    have e2 : ((a / Nat.gcd a n : Nat) : Int) * (n : Int) = ((Nat.lcm a n : Nat) : Int) := by
      rw [← Int.natCast_mul]
      congr 1
      rw [Nat.lcm, Nat.div_mul_right_comm (Nat.gcd_dvd_left a n)]
    refine SW_seqK fun K hK => ?_
    simp [sPar]
    refine hK _ _ ?_
    clear hK K
    refine SW_seqK fun K hK => ?_
    refine W_while (I := fun e _ => ∃ x y : Nat, e = [some (.lst (ns.map fun n => .int ((n : Nat) : Int))), some (.int (a : Int)), some (.int (n : Int)), some (.int (x : Int)), some (.int (y : Int))] ∧ Nat.gcd x y = Nat.gcd a n) (fun e _ => match e with
      | [_, _, _, some (.int x), some (.int y)] => gmu x.toNat y.toNat
      | _ => 0) ⟨a, n, rfl, rfl⟩ (by show gmu (a : Int).toNat (n : Int).toNat < 1000000; simp only [Int.toNat_natCast, gmu]; split <;> omega) fun e h hI => ?_
    obtain ⟨x, y, rfl, hg⟩ := hI
    simp
    by_cases hy : 0 < y
    · have hy2 : (0 : Int) < y := by omega
      simp [sPar, hy, hy2]
      exact ⟨⟨y, x % y, ⟨rfl, rfl⟩, by rw [← hg, Nat.gcd_comm x y, Nat.gcd_rec y x, Nat.gcd_comm]⟩, gmu_step hy⟩
    · have hy0 : y = 0 := by omega
      subst hy0
      rw [Nat.gcd_zero_right] at hg
      subst hg
      simp
      refine hK _ _ ?_
      simp [d1]
      rw [e1, m1, e2]
      exact ⟨rfl, rfl⟩
  · obtain ⟨x2, x3, x4, rfl⟩ := hI
    rw [List.length_map, List.take_length]
    refine hK _ _ ?_
    simp
theorem lcmN_us (us : List Tk) : lcmN (us.map qs) = lcmL us := by
  unfold lcmN lcmL
  rw [List.foldl_map]
/-- a sum over the talks of a cycle, as the law writes it -/
theorem cyc34 {j : Int} {f : Int × Int → Int} (hj : (j = 0 ∧ f = fun p => p.1) ∨ (j = 1 ∧ f = fun p => p.2)) {a0 a1 a2 a4 a5 a6 : Option D} {t : Tk} (hl : t.cyc.length ≤ 8) (h : OH) {PD : D → OH → Prop} (z : PD (.int (t.cyc.map f).sum) h) :
    (sCall (b1 opSum) (sCons (sLc false (sIt (sBin opIx (sVar 3) (sC (.int 3)))) (gN 2) sYes (sBin opIx (sVar 2) (sC (.int j))) [2]) sNil) [a0, a1, a2, some (dTk t), a4, a5, a6] h).W PD := by
  simp [dTk, wipeD]
  refine W_lcMap1 t.cyc dT (fun p => .int (f p)) _ (by simp [big]; omega) (fun p hp => ⟨_, rfl, ?_⟩) ?_
  · rcases hj with ⟨rfl, rfl⟩ | ⟨rfl, rfl⟩ <;> simp [dT]
  · rw [ints_mapF f]
    simpa using z
theorem lalone {ts : List Tk} (w : WfHall T30 ts) (r : Nat) (h : OH) : pureF Sh.l_alone [.lst ((mt ts r).map dTk)] h = .ok (.tup [.int ((lcmL (mt ts r) : Nat) : Int), .int ((lf lcmL (mt ts r) : Nat) : Int)]) h := by
  have hus : ∀ u ∈ mt ts r, WfTk T30 u := fun u hu => (mt_wf w hu).2.1
  have hln := mt_le w (k := r)
  generalize mt ts r = us at hus hln ⊢
  refine pure_eq h (by simp) rfl ?_
  have hb := fun k => lcmF_bl hus k hln
  have hbL : bl2 (lcmL us) ≤ 1031 := by
    have := hb us.length
    rwa [List.take_length] at this
  have lm := fun h => lmult (ns := us.map qs) (by simp; omega) (fun n hn => by
    obtain ⟨u, hu, rfl⟩ := List.mem_map.mp hn
    exact ⟨qs_pos (hus u hu), by have := qs_bl (hus u hu); omega⟩) (fun k => by
    rw [← List.map_take, lcmN_us]
    have := hb k
    omega) h
  rw [lcmN_us, List.map_map] at lm
  have lm : ∀ h, pureF Sh.l_multiple [.lst (us.map fun u => .int ((qs u : Nat) : Int))] h = .ok (.int ((lcmL us : Nat) : Int)) h := lm
  unfold Sh.l_alone; rw [W_fn]; unfold Sh.l_alone_b
  generalize pureF Sh.l_multiple = LM at lm ⊢
  refine SW_seqK fun K hK => ?_
  simp [wipeD]
  refine W_lcMap1 us dTk (fun u => .int ((qs u : Nat) : Int)) _ (by simp [big]; omega) (fun u hu => ⟨_, rfl, ?_⟩) ?_
  · have wu := hus u hu
    simp only [List.set_cons_succ, List.set_cons_zero]
    rw [W_sYes]
    refine ⟨rfl, rfl, cyc34 (.inl ⟨rfl, rfl⟩) wu.lc _ ?_⟩
    rw [qs_int wu]
    exact ⟨rfl, rfl⟩
  refine hK _ _ ?_
  clear hK K
  refine SW_seqK fun K hK => ?_
  simp [lm]
  refine hK _ _ ?_
  clear hK K lm
  refine SW_seqK fun K hK => ?_
  have ez : zipD (us.map fun u => D.int ((qs u : Nat) : Int)) (us.map dTk) = us.map fun u => .tup [.int ((qs u : Nat) : Int), dTk u] := by
    unfold zipD
    rw [List.zipWith_map, List.zipWith_self]
  simp [wipeD, ez]
  refine W_lcMap1 us (fun u => .tup [.int ((qs u : Nat) : Int), dTk u]) (fun u => .int ((sk (lcmL us) u : Nat) : Int)) _ (by simp [big]; omega) (fun u hu => ?_) ?_
  · have wu := hus u hu
    have d1 : divOk ((lcmL us : Nat) : Int) ((qs u : Nat) : Int) = true := divOk_bl (qs_pos wu) (by have := qs_bl wu; omega)
    have e1 : ((lcmL us : Nat) : Int) / ((qs u : Nat) : Int) = ((lcmL us / qs u : Nat) : Int) := rfl
    have m1 : mulOk ((lcmL us / qs u : Nat) : Int) ((ql u : Nat) : Int) = true := mulOk_bl (by have := ql_bl wu; have := bl2_mono (Nat.div_le_self (lcmL us) (qs u)); omega)
    have e2 : ((lcmL us / qs u : Nat) : Int) * ((ql u : Nat) : Int) = ((sk (lcmL us) u : Nat) : Int) := by rw [← Int.natCast_mul]; rfl
    refine ⟨_, rfl, ?_⟩
    rw [W_sYes]
    refine ⟨rfl, rfl, ?_⟩
    simp only [W_sBin, List.set_cons_succ, List.set_cons_zero]
    rw [W_varS, W_varS, W_varS, W_varS, W_var0, W_varS, W_varS, W_varS, W_varS, W_varS, W_varS, W_var0]
    have dv : ∀ (h : OH) (PD : D → OH → Prop), (opDiv (.int ((lcmL us : Nat) : Int)) (.int ((qs u : Nat) : Int)) h).W PD = PD (.int ((lcmL us / qs u : Nat) : Int)) h := fun h PD => by simp [d1]
    rw [dv]
    refine cyc34 (.inr ⟨rfl, rfl⟩) wu.lc _ ?_
    rw [ql_int wu]
    simp
    rw [e1, m1, e2]
    exact ⟨rfl, rfl⟩
  have ei : intsOf (us.map fun u => D.int ((sk (lcmL us) u : Nat) : Int)) = some (us.map fun u => ((sk (lcmL us) u : Nat) : Int)) := by
    have := intsOf_map (us.map fun u => ((sk (lcmL us) u : Nat) : Int))
    rwa [List.map_map] at this
  have es : ((lcmL us : Nat) : Int) + (us.map fun u => ((sk (lcmL us) u : Nat) : Int)).sum = ((lf lcmL us : Nat) : Int) := by
    have : ∀ l : List Tk, (l.map fun u => ((sk (lcmL us) u : Nat) : Int)).sum = (((l.map (sk (lcmL us))).sum : Nat) : Int) := fun l => by
      induction l with
      | nil => rfl
      | cons v l ih => rw [List.map_cons, List.sum_cons, ih, List.map_cons, List.sum_cons]; omega
    rw [this]
    unfold lf
    omega
  refine hK _ _ ?_
  simp [ei]
  rw [es]
end HR
set_option Elab.async false
set_option linter.all false
set_option maxRecDepth 20000
namespace HR
open PySem L2
/-! ### the reel of laws 21 to 41: draw, talks, halls -/
abbrev RM : Int := 170141183460469231731687303715884105727
structure RlS (gs ms : List Int) (c s : Int) : Prop where
  g0 : ∀ g ∈ gs, 0 ≤ g
  gl : gs.length ≤ 63
  mn : ms ≠ []
  ml : ms.length ≤ 64
  m0 : ∀ x ∈ ms, 0 ≤ x ∧ x < 1000003
  c0 : 0 ≤ c
  s0 : 0 ≤ s
  s1 : s < RM
def rlD (gs ms : List Int) (c s : Int) : OO := .lst [.lst (gs.map D.int), .lst (ms.map D.int), .int c, .int s]
/-- the reel at i -/
def Rl (h : OH) (i : Nat) : Prop := ∃ (gs ms : List Int) (c s : Int), h[i]? = some (rlD gs ms c s) ∧ RlS gs ms c s
theorem Rl.lt {h : OH} {i : Nat} (s : Rl h i) : i < h.length := by
  obtain ⟨a, b, c, d, e, _⟩ := s
  exact (List.getElem?_eq_some_iff.mp e).1
theorem Rl.app {h : OH} {i : Nat} (s : Rl h i) (t : OH) : Rl (h ++ t) i := by
  have := s.lt
  obtain ⟨a, b, c, d, e, r⟩ := s
  exact ⟨a, b, c, d, by rw [List.getElem?_append_left this]; exact e, r⟩
theorem Rl.set {h : OH} {i j : Nat} (s : Rl h i) (n : j ≠ i) (o : OO) : Rl (h.set j o) i := by
  obtain ⟨a, b, c, d, e, r⟩ := s
  exact ⟨a, b, c, d, by rw [List.getElem?_set_ne n]; exact e, r⟩
theorem RM_bits {s : Int} (s0 : 0 ≤ s) (s1 : s < RM) : s.natAbs < 2 ^ 127 := by
  have : (2 : Nat) ^ 127 = 170141183460469231731687303715884105728 := by decide
  simp only [RM] at s1
  omega
theorem mulOk_63 : mulOk 18446744073709551616 9223372036854775808 = true := mulOk_pow 65 64 (by decide) (by decide) (by decide) (by decide) (by decide)
theorem cM : sBin opSub (sBin opMul (sBin opPow (sC (.int 2)) (sC (.int 64))) (sBin opPow (sC (.int 2)) (sC (.int 63)))) (sC (.int 1)) = sC (.int RM) := by
  funext e h
  have e1 : opPow (.int 2) (.int 64) h = .ok (.int 18446744073709551616) h := by simp [opI2]
  have e2 : opPow (.int 2) (.int 63) h = .ok (.int 9223372036854775808) h := by simp [opI2]
  simp only [sBin, sC, Res.bind_ok, e1, e2]
  simp [opMul, mulOk_63, opI2, RM]
theorem c41 : sBin opPow (sC (.int 2)) (sC (.int 41)) = sC (.int 2199023255552) := by
  funext e h
  have e1 : opPow (.int 2) (.int 41) h = .ok (.int 2199023255552) h := by simp [opI2]
  simp only [sBin, sC, Res.bind_ok, e1]
theorem c1136 : sBin opPow (sC (.int 11)) (sC (.int 36)) = sC (.int 30912680532870672635673352936887453361) := by
  funext e h
  have e1 : opPow (.int 11) (.int 36) h = .ok (.int 30912680532870672635673352936887453361) h := by simp [opI2]
  simp only [sBin, sC, Res.bind_ok, e1]
theorem c1018 : sBin opPow (sC (.int 10)) (sC (.int 18)) = sC (.int 1000000000000000000) := by
  funext e h
  have e1 : opPow (.int 10) (.int 18) h = .ok (.int 1000000000000000000) h := by simp [opI2]
  simp only [sBin, sC, Res.bind_ok, e1]
theorem rdraw_g {h : OH} {i : Nat} {n g : Int} {gs ms : List Int} {c s : Int} (hi : i < h.length) (hn : 0 < n) (hn2 : Small n) (e : h[i]? = some (rlD (g :: gs) ms c s)) (r : RlS (g :: gs) ms c s) {P : D → OH → Prop} (q : ∀ v h', 0 ≤ v → v < n → Rl h' i → Chg i h h' → P (.int v) h') : (Sh.l_draw_1 [.ref i, .int n] h).W P := by
  unfold rlD at e
  unfold Sh.l_draw_1
  rw [W_fn]
  unfold Sh.l_draw_1_b
  rw [cM, c41]
  have k1 : ∀ x : Int, 0 ≤ x % n := fun x => Int.emod_nonneg _ (by omega)
  have k2 : ∀ x : Int, x % n < n := fun x => Int.emod_lt_of_pos _ hn
  have hset : ∀ o : OO, (h.set i o)[i]? = some o := fun o => by simp [hi]
  have hd := divOk_small (i := g) hn2 hn
  have g0 := r.g0 g List.mem_cons_self
  have gl := r.gl
  simp only [List.length_cons] at gl
  have l2 : 1 + gs.length ≤ 1000000 := by omega
  have l3 : gs.length ≤ 1000000 := by omega
  have t : (sTest (sBin (opNil true) (sBin opIx (sVar 0) (sC (.int 0))) (sLst sNil)) [some (.ref i), some (.int n), none, none, none] h).W fun b h1 => b = true ∧ h1 = h := by simp [e]
  have u0 : List.map some [D.ref i, D.int n] ++ List.replicate (5 - [D.ref i, D.int n].length) none = [some (.ref i), some (.int n), none, none, none] := rfl
  rw [u0, SW_seq, SW_if]
  refine t.mono fun b h1 z => ?_
  obtain ⟨rfl, rfl⟩ := z
  rw [if_pos rfl]
  refine SRes.W.mono (N := nov) (C := nov) (B := nov) (R := P) ?_ (fun _ _ z => z.elim) (fun _ _ z => z.elim) (fun _ _ z => z.elim) fun _ _ z => z
  have m1 : ∀ PD : D → OH → Prop, (opMul (.lst [.int (g / n)]) (.int 1) h1).W PD = PD (.lst [.int (g / n)]) h1 := fun PD => by simp [opMul, lstAt, big]
  have m0 : ∀ PD : D → OH → Prop, (opMul (.lst [.int (g / n)]) (.int 0) h1).W PD = PD (.lst []) h1 := fun PD => by simp [opMul, lstAt, big]
  by_cases hg : n ≤ g
  · simp [e, hd, hn, hg, cutD_drop, m1, hset, l2]
    refine q _ _ (k1 _) (k2 _) ⟨g / n :: gs, ms, c, s, by simp [rlD, hset], ?_⟩ (Chg.set ..)
    exact { g0 := fun y hy => (List.mem_cons.mp hy).elim (fun z => by rw [z]; exact Int.ediv_nonneg g0 (by omega)) (fun z => r.g0 y (List.mem_cons_of_mem _ z)), gl := by simpa using gl, mn := r.mn, ml := r.ml, m0 := r.m0, c0 := r.c0, s0 := r.s0, s1 := r.s1 }
  · simp [e, hd, hn, hg, cutD_drop, m0, hset, l3]
    refine q _ _ (k1 _) (k2 _) ⟨gs, ms, c, s, by simp [rlD, hset], ?_⟩ (Chg.set ..)
    exact { g0 := fun y hy => r.g0 y (List.mem_cons_of_mem _ hy), gl := by omega, mn := r.mn, ml := r.ml, m0 := r.m0, c0 := r.c0, s0 := r.s0, s1 := r.s1 }
section
variable {h : OH} {i : Nat} {n : Int} {ms : List Int} {c s x st : Int} {N C B : Env' → OH → Prop} {R : D → OH → Prop} {P : D → OH → Prop}
theorem pA (e : h[i]? = some (.lst [.lst [], .lst (ms.map D.int), .int c, .int s])) (q : N [some (.ref i), some (.int n), none, none, none] (h.set i (.lst [.lst [], .lst (ms.map D.int), .int (c + 1), .int s]))) :
    ((sIxS (sVar 0) (sC (.int 2)) (sBin opAdd (sBin opIx (sVar 0) (sC (.int 2))) (sC (.int 1)))) [some (.ref i), some (.int n), none, none, none] h).W N C B R := by
  simp [e]
  exact q
theorem pB (e : h[i]? = some (.lst [.lst [], .lst (ms.map D.int), .int c, .int s])) (lp : 0 < ms.length) (c0 : 0 ≤ c) (q : ∀ x ∈ ms, N [some (.ref i), some (.int n), none, some (.int x), none] h) :
    ((sSet 3 (sBin opIx (sBin opIx (sVar 0) (sC (.int 1))) (sBin opMod (sBin opIx (sVar 0) (sC (.int 2))) (sCall bLen (sCons (sBin opIx (sVar 0) (sC (.int 1))) sNil))))) [some (.ref i), some (.int n), none, none, none] h).W N C B R := by
  simp [e, lp]
  exact pickI (ns := ms) (Int.emod_nonneg _ (by omega)) (Int.emod_lt_of_pos _ (by omega)) q
theorem pC (e : h[i]? = some (.lst [.lst [], .lst (ms.map D.int), .int c, .int s])) (m1 : mulOk s s = true) (q : N [some (.ref i), some (.int n), none, some (.int x), some (.int (s * s + (x + 5) * 92821 + c * 1000039))] h) :
    ((sSet 4 (sBin opAdd (sBin opAdd (sBin opMul (sBin opIx (sVar 0) (sC (.int 3))) (sBin opIx (sVar 0) (sC (.int 3)))) (sBin opMul (sBin opAdd (sVar 3) (sC (.int 5))) (sC (.int 92821)))) (sBin opMul (sBin opIx (sVar 0) (sC (.int 2))) (sC (.int 1000039))))) [some (.ref i), some (.int n), none, some (.int x), none] h).W N C B R := by
  have m3 : mulOk c 1000039 = true := mulOk_r (by decide)
  have m2 : mulOk (x + 5) 92821 = true := mulOk_r (by decide)
  simp [e, m1, m2, m3]
  exact q
theorem pD (e : h[i]? = some (.lst [.lst [], .lst (ms.map D.int), .int c, .int s])) (q : N [some (.ref i), some (.int n), none, some (.int x), some (.int st)] (h.set i (.lst [.lst [], .lst (ms.map D.int), .int c, .int (st % RM)]))) :
    ((sIxS (sVar 0) (sC (.int 3)) (sBin opMod (sVar 4) (sC (.int RM)))) [some (.ref i), some (.int n), none, some (.int x), some (.int st)] h).W N C B R := by
  have i3 : ixN 4 3 = some 3 := by decide
  have r0 : 0 < RM := by decide
  generalize RM = M at *
  simp [e, i3, r0]
  exact q
theorem pE (e : h[i]? = some (.lst [.lst [], .lst (ms.map D.int), .int c, .int s])) (hn : 0 < n) (q : P (.int (s / 2199023255552 % n)) h) :
    ((sBin opMod (sBin opDiv (sBin opIx (sVar 0) (sC (.int 3))) (sC (.int 2199023255552))) (sVar 1)) [some (.ref i), some (.int n), none, some (.int x), some (.int st)] h).W P := by
  have hdv : ∀ x : Int, divOk x 2199023255552 = true := fun x => divOk_small (small_64 (by decide)) (by decide)
  simp [e, hdv, hn]
  exact q
end
theorem rdraw_n {h : OH} {i : Nat} {n : Int} {ms : List Int} {c s : Int} (hi : i < h.length) (hn : 0 < n) (e : h[i]? = some (rlD [] ms c s)) (r : RlS [] ms c s) {P : D → OH → Prop} (q : ∀ v h', 0 ≤ v → v < n → Rl h' i → Chg i h h' → P (.int v) h') : (Sh.l_draw_1 [.ref i, .int n] h).W P := by
  unfold rlD at e
  unfold Sh.l_draw_1
  rw [W_fn]
  unfold Sh.l_draw_1_b
  rw [cM, c41]
  have hset : ∀ o : OO, (h.set i o)[i]? = some o := fun o => by simp [hi]
  have lp : 0 < ms.length := List.length_pos_iff.mpr r.mn
  have c0 := r.c0
  have m1 : mulOk s s = true := mulOk_pow 127 127 (RM_bits r.s0 r.s1) (RM_bits r.s0 r.s1) (by decide) (by decide) (by decide)
  have t : (sTest (sBin (opNil true) (sBin opIx (sVar 0) (sC (.int 0))) (sLst sNil)) [some (.ref i), some (.int n), none, none, none] h).W fun b h1 => b = false ∧ h1 = h := by simp [e]
  have u0 : List.map some [D.ref i, D.int n] ++ List.replicate (5 - [D.ref i, D.int n].length) none = [some (.ref i), some (.int n), none, none, none] := rfl
  rw [u0, SW_seq, SW_if]
  refine t.mono fun b h1 z => ?_
  obtain ⟨rfl, rfl⟩ := z
  rw [if_neg Bool.false_ne_true, SW_next, SW_seq]
  refine pA e ?_
  rw [SW_seq]
  refine pB (hset _) lp (by omega) fun x hx => ?_
  rw [SW_seq]
  refine pC (hset _) m1 ?_
  rw [SW_seq]
  refine pD (hset _) ?_
  rw [List.set_set, SW_ret]
  refine pE (hset _) hn ?_
  refine q _ _ (Int.emod_nonneg _ (by omega)) (Int.emod_lt_of_pos _ hn) ⟨[], ms, c + 1, _, hset _, ?_⟩ (Chg.set ..)
  exact { g0 := r.g0, gl := r.gl, mn := r.mn, ml := r.ml, m0 := r.m0, c0 := by omega, s0 := Int.emod_nonneg _ (by decide), s1 := Int.emod_lt_of_pos _ (by decide) }
theorem rdraw_ok {h : OH} {i : Nat} {n : Int} (hs : Rl h i) (hn : 0 < n) (hn2 : Small n) {P : D → OH → Prop} (q : ∀ v h', 0 ≤ v → v < n → Rl h' i → Chg i h h' → P (.int v) h') : (Sh.l_draw_1 [.ref i, .int n] h).W P := by
  have hi := hs.lt
  obtain ⟨gs, ms, c, s, e, r⟩ := hs
  cases gs with
  | cons g gs => exact rdraw_g hi hn hn2 e r q
  | nil => exact rdraw_n hi hn e r q
theorem reel_ok (ns : List Int) (h : OH) {P : D → OH → Prop} (q : ∀ o, Rl (h ++ [o]) h.length → P (.ref h.length) (h ++ [o])) : (Sh.l_reel [.scr (ns.map D.int)] h).W P := by
  unfold Sh.l_reel
  rw [W_fn]
  unfold Sh.l_reel_b
  rw [cM, c1136, c1018]
  simp [cutD_take]
  try rw [← List.map_take]
  obtain ⟨us, hu⟩ : ∃ us, us = ns.take 63 := ⟨_, rfl⟩
  have tl : us.length ≤ 63 := by rw [hu]; simp; omega
  rw [← hu]
  refine W_forL (fun k e h' => h' = h ∧ ∃ (s : Int) (c g : Option D), e = [some (.scr (ns.map D.int)), some (.int s), c, g] ∧ 0 ≤ s ∧ s < RM) _ _ _ ⟨rfl, _, none, none, rfl, by decide, by decide⟩ (fun k d hd e h' hI => ?_) (fun e h' hI => ?_)
  · obtain ⟨rfl, s, c, g, rfl, s0, s1⟩ := hI
    rw [List.getElem?_map, Option.map_eq_some_iff] at hd
    obtain ⟨x, hx, rfl⟩ := hd
    have m1 : mulOk s s = true := mulOk_pow 127 127 (RM_bits s0 s1) (RM_bits s0 s1) (by decide) (by decide) (by decide)
    refine ⟨_, rfl, ?_⟩
    simp [m1]
    exact ⟨by decide, Int.emod_nonneg _ (by decide), Int.emod_lt_of_pos _ (by decide)⟩
  · obtain ⟨rfl, s, c, g, rfl, s0, s1⟩ := hI
    simp [wipeD, cutD_take]
    try rw [← List.map_take]
    rw [← hu]
    refine W_lcMap us D.int (fun x => decide (1000000000000000000 ≤ x)) (fun x => .int (x - 1000000000000000000)) _ (by simp only [big]; omega) (fun x hx => ⟨_, rfl, by simp⟩) ?_
    try simp [wipeD, cutD_take]
    try rw [← List.map_take]
    try rw [← hu]
    refine W_lcMap1 us D.int (fun x => .int (x % 1000003)) _ (by simp only [big]; omega) (fun x hx => ⟨_, rfl, by simp⟩) ?_
    obtain ⟨gs, hg⟩ : ∃ gs, gs = (us.filter fun x => decide (1000000000000000000 ≤ x)).map fun x => x - 1000000000000000000 := ⟨_, rfl⟩
    obtain ⟨ms, hm⟩ : ∃ ms, ms = (us.map fun x => x % 1000003) ++ [57] := ⟨_, rfl⟩
    have e1 : List.map (fun x => D.int (x - 1000000000000000000)) (List.filter (fun x => decide (1000000000000000000 ≤ x)) us) = gs.map D.int := by rw [hg]; simp
    have e2 : List.map (fun x => D.int (x % 1000003)) us ++ [D.int 57] = ms.map D.int := by rw [hm]; simp
    have ll : us.length + 1 ≤ 1000000 := by omega
    simp [ll, e1, e2]
    refine ⟨by omega, ?_⟩
    refine q _ ⟨gs, ms, 0, s, by simp [rlD], ?_⟩
    refine { g0 := fun g hg2 => ?_, gl := ?_, mn := by rw [hm]; simp, ml := by rw [hm]; simp; omega, m0 := fun x hx => ?_, c0 := by decide, s0 := s0, s1 := s1 }
    · rw [hg] at hg2
      obtain ⟨x, hx, rfl⟩ := List.mem_map.mp hg2
      have := (List.mem_filter.mp hx).2
      simp at this
      omega
    · rw [hg, List.length_map]
      exact Nat.le_trans (List.length_filter_le ..) tl
    · rw [hm] at hx
      rcases List.mem_append.mp hx with hx | hx
      · obtain ⟨y, hy, rfl⟩ := List.mem_map.mp hx
        exact ⟨Int.emod_nonneg _ (by decide), Int.emod_lt_of_pos _ (by decide)⟩
      · rw [List.mem_singleton.mp hx]
        exact ⟨by decide, by decide⟩
theorem rtalks_ok {h : OH} {i : Nat} {many longest : Int} (hs : Rl h i) (hl : 0 ≤ many) (hl2 : many ≤ 100) (hg : 0 < longest) (hg2 : Small longest) {P : D → OH → Prop}
    (q : ∀ (ts : List (Int × Int)) h', Rl h' i → Chg i h h' → (ts.length : Int) = many → (∀ p ∈ ts, In1 longest p) → P (.lst (ts.map dT)) h') : (Sh.l_talks_1 [.ref i, .int many, .int longest] h).W P := by
  unfold Sh.l_talks_1
  rw [W_fn]
  unfold Sh.l_talks_1_b
  have r : rngOk many = true := by simp [rngOk]; omega
  simp [r]
  refine W_lcGo (fun k acc h' => Rl h' i ∧ Chg i h h' ∧ ∃ ts : List (Int × Int), acc = ts.map dT ∧ ts.length = k ∧ ∀ p ∈ ts, In1 longest p) _ _ _ ⟨hs, Chg.refl _ _, [], rfl, rfl, by simp⟩ (fun k d hd acc h' hI => ?_) (fun acc h' hI => ?_)
  · obtain ⟨s2, c2, ts, rfl, hk, ht⟩ := hI
    obtain ⟨hk2, rfl⟩ := rngD_at hd
    refine ⟨_, rfl, ?_⟩
    simp [wipeD]
    refine rdraw_ok s2 hg hg2 fun a h2 a0 a1 s3 c3 => ?_
    simp
    refine rdraw_ok s3 hg hg2 fun b h3 b0 b1 s4 c4 => ?_
    simp
    refine ⟨by omega, s4, c2.trans (c3.trans c4), ts ++ [(1 + a, 1 + b)], by simp [dT], by simp [hk], fun p hp hq => ?_⟩
    rcases List.mem_append.mp hq with hq | hq
    · exact ht (p, hp) hq
    · simp only [List.mem_singleton, Prod.mk.injEq] at hq
      obtain ⟨rfl, rfl⟩ := hq
      refine ⟨?_, ?_, ?_, ?_⟩ <;> dsimp only <;> omega
  · obtain ⟨s2, c2, ts, rfl, hk, ht⟩ := hI
    rw [rngD_len] at hk
    exact q ts h' s2 c2 (by omega) ht
end HR
set_option Elab.async false
set_option linter.all false
set_option maxRecDepth 20000
namespace HR
open PySem L2
def POOL : List Str := ["a", "b", "ab", "ba", "zz", "z", "abcdefgh", "m", "q", "aa"]
theorem pool_wf : ∀ x ∈ POOL, WfN x := by unfold WfN; decide +kernel
theorem pool_nd : POOL.Nodup := by decide +kernel
theorem rhall_ok {h : OH} {i : Nat} {many ranks longest : Int} (hs : Rl h i) (ht0 : 0 ≤ many) (ht1 : many ≤ 10) (hr0 : 1 ≤ ranks) (hr1 : ranks ≤ 10) (hg : 0 < longest) (hg2 : Small longest) {P : D → OH → Prop}
    (q : ∀ (ts : List Tk) h', Rl h' i → Chg i h h' → ts.length ≤ many → WfHall longest ts → (∀ t ∈ ts, t.name ∈ POOL ∧ t.rank ≤ ranks) → P (.lst (ts.map dTk)) h') : (Sh.l_hall_1 [.ref i, .int many, .int ranks, .int longest] h).W P := by
  have hi := hs.lt
  unfold Sh.l_hall_1
  rw [W_fn]
  unfold Sh.l_hall_1_b
  try simp
  refine rdraw_ok (hs.app _) (by omega) (small_64 (by omega)) fun w h2 w0 w1 s2 c2 => ?_
  have r : rngOk w = true := by simp [rngOk]; omega
  simp [r]
  have hl2 : h.length + 2 ≤ h2.length := by simpa using c2.1
  have hn2 : h2[h.length]? = some (.lst (POOL.map D.str)) := c2.get (by simp; rfl) (by omega)
  have hf2 : h2[h.length + 1]? = some (.lst []) := c2.get (by simp) (by omega)
  have hc2 : Chg i h h2 := (Chg.app i h _).trans c2
  refine W_forL (fun k e h' => Rl h' i ∧ Chg i h h' ∧ ∃ (ts : List Tk) (ns : List Str) (a b c d f : Option D), e = [some (.ref i), some (.int many), some (.int ranks), some (.int longest), some (.ref h.length), some (.ref (h.length + 1)), a, b, c, d, f] ∧
      h'[h.length]? = some (.lst (ns.map D.str)) ∧ h'[h.length + 1]? = some (.lst (ts.map dTk)) ∧ ts.length = k ∧ ns.length + k = 10 ∧ (ts.map (·.name) ++ ns).Perm POOL ∧ ∀ t ∈ ts, WfTk longest t ∧ t.rank ≤ ranks) _ _ _
    ⟨s2, hc2, [], POOL, none, none, none, none, none, rfl, hn2, hf2, rfl, rfl, List.Perm.refl _, by simp⟩ (fun k d hd e h' hI => ?_) (fun e h' hI => ?_)
  · obtain ⟨s, c, ts, ns, ea, eb, ec, ed, ef, rfl, g1, g2, hk, hns, hp, hw⟩ := hI
    obtain ⟨hk2, rfl⟩ := rngD_at hd
    have hk3 : k < 10 := by omega
    refine ⟨_, rfl, ?_⟩
    try simp
    refine rdraw_ok s (by decide) (small_64 (by decide)) fun a h3 a0 a1 s3 c3 => ?_
    try simp
    refine rdraw_ok s3 (by decide) (small_64 (by decide)) fun b h4 b0 b1 s4 c4 => ?_
    try simp
    refine rdraw_ok s4 (by decide) (small_64 (by decide)) fun cc h5 cc0 cc1 s5 c5 => ?_
    try simp
    refine pickI (ns := [0, 1, a, b]) cc0 cc1 fun few hf => ?_
    have hf' : 0 ≤ few ∧ few ≤ 8 := by simp at hf; omega
    try simp
    refine rtalks_ok s5 hf'.1 (by omega) hg hg2 fun pre h6 s6 c6 l6 w6 => ?_
    try simp
    refine rdraw_ok s6 (by decide) (small_64 (by decide)) fun a2 h7 a20 a21 s7 c7 => ?_
    try simp
    refine rdraw_ok s7 (by decide) (small_64 (by decide)) fun b2 h8 b20 b21 s8 c8 => ?_
    try simp
    refine rdraw_ok s8 (by decide) (small_64 (by decide)) fun cc2 h9 cc20 cc21 s9 c9 => ?_
    try simp
    refine pickI (ns := [1, 2, 1 + a2, 1 + b2]) cc20 cc21 fun more hm => ?_
    have hm' : 1 ≤ more ∧ more ≤ 8 := by simp at hm; omega
    try simp
    refine rtalks_ok s9 (by omega) (by omega) hg hg2 fun cyc h10 s10 c10 l10 w10 => ?_
    have cA := c3.trans (c4.trans (c5.trans (c6.trans (c7.trans (c8.trans (c9.trans c10))))))
    have g1' := cA.get g1 (by omega)
    have g2' := cA.get g2 (by omega)
    simp [g1', g2']
    refine rdraw_ok s10 (by omega) (small_64 (by omega)) fun p h11 p0 p1 s11 c11 => ?_
    have n11 := c11.get g1' (by omega)
    have f11 := c11.get g2' (by omega)
    simp [n11]
    have hpl : p.toNat < ns.length := by omega
    refine W_popAt p0 (y := .str ns[p.toNat]) (by simp [hpl]) (by omega) ?_
    have c11' := ((c.trans cA).trans c11).setNew (j := h.length) (Nat.le_refl _) (.lst ((ns.map D.str).eraseIdx p.toNat))
    have s11' := s11.set (j := h.length) (by omega) (.lst ((ns.map D.str).eraseIdx p.toNat))
    have f12 : (h11.set h.length (.lst ((ns.map D.str).eraseIdx p.toNat)))[h.length + 1]? = some (.lst (ts.map dTk)) := by rw [List.getElem?_set_ne (by omega)]; exact f11
    have n12 : (h11.set h.length (.lst ((ns.map D.str).eraseIdx p.toNat)))[h.length]? = some (.lst ((ns.eraseIdx p.toNat).map D.str)) := by
      rw [List.getElem?_set_self (List.getElem?_eq_some_iff.mp n11).1, eraseIdx_mapF]
    generalize h11.set h.length (.lst ((ns.map D.str).eraseIdx p.toNat)) = h12 at s11' c11' f12 n12 ⊢
    try simp
    refine rdraw_ok s11' (by omega) (small_64 (by omega)) fun rk h13 rk0 rk1 s13 c13 => ?_
    have f13 := c13.get f12 (by omega)
    have n13 := c13.get n12 (by omega)
    have hx : ns[p.toNat] ∈ POOL := hp.mem_iff.mp (List.mem_append_right _ (List.getElem_mem hpl))
    simp [f13]
    refine ⟨by omega, s13.set (by omega) _, (c11'.trans c13).setNew (by omega) _, ts ++ [⟨ns[p.toNat], 1 + rk, pre, cyc⟩], ns.eraseIdx p.toNat, ?_, ?_, by simp [hk], ?_, ?_, ?_⟩
    · exact n13
    · rw [List.getElem?_set_self (List.getElem?_eq_some_iff.mp f13).1]; simp [dTk]
    · rw [List.length_eraseIdx, if_pos hpl]; omega
    · refine List.Perm.trans ?_ hp
      simp only [List.map_append, List.map_cons, List.map_nil, List.append_assoc, List.singleton_append]
      exact List.Perm.append_left _ (eraseIdx_permF ns _ hpl)
    · intro t htm
      rcases List.mem_append.mp htm with htm | htm
      · exact hw t htm
      · simp only [List.mem_singleton] at htm
        subst htm
        exact ⟨⟨pool_wf _ hx, by dsimp only; omega, by dsimp only; omega, by dsimp only; omega, by dsimp only; omega, by dsimp only; omega, w6, w10⟩, by dsimp only; omega⟩
  · obtain ⟨s, c, ts, ns, ea, eb, ec, ed, ef, rfl, g1, g2, hk, hns, hp, hw⟩ := hI
    rw [rngD_len] at hk hns
    simp [g2]
    refine q ts _ (s.set (by omega) _) (c.setNew (by omega) _) (by omega) ⟨by omega, fun t ht => (hw t ht).1, ?_⟩ fun t ht => ⟨hp.mem_iff.mp (List.mem_append_left _ (List.mem_map.mpr ⟨t, ht, rfl⟩)), (hw t ht).2⟩
    have := hp.symm.nodup pool_nd
    exact (List.nodup_append.mp this).1
end HR
set_option Elab.async false
set_option linter.all false
set_option maxRecDepth 20000
set_option exponentiation.threshold 5000
namespace HR
open PySem L2
/-! ### a value equals itself -/
def EqOk (k : Nat) (d : D) : Prop := ∃ p : PyData, (∀ get, pyG get d = some p) ∧ p.canLay0 = true ∧ p.depth ≤ k
def EqOks (k : Nat) (ds : List D) : Prop := ∃ ps : List PyData, (∀ get, pyGL get ds = some ps) ∧ PyData.canLayAll0 ps = true ∧ PyData.depthAll ps ≤ k
theorem EqOk.mono {k m : Nat} {d : D} (e : EqOk k d) (h : k ≤ m) : EqOk m d := by
  obtain ⟨p, a, b, c⟩ := e
  exact ⟨p, a, b, by omega⟩
theorem eqOk_int (i : Int) : EqOk 0 (.int i) := ⟨.int i, fun _ => rfl, rfl, Nat.le_refl _⟩
theorem eqOk_non : EqOk 0 .non := ⟨.none, fun _ => rfl, rfl, Nat.le_refl _⟩
theorem eqOk_str {x : Str} (h : PyData.strOk x = true) : EqOk 0 (.str x) := ⟨.str x, fun _ => rfl, h, Nat.le_refl _⟩
theorem eqOks_nil (k : Nat) : EqOks k [] := ⟨[], fun _ => rfl, rfl, Nat.zero_le _⟩
theorem eqOks_cons {k : Nat} {d : D} {ds : List D} (a : EqOk k d) (b : EqOks k ds) : EqOks k (d :: ds) := by
  obtain ⟨p, a1, a2, a3⟩ := a
  obtain ⟨ps, b1, b2, b3⟩ := b
  exact ⟨p :: ps, fun get => by simp [pyGL, a1, b1], by simp [PyData.canLayAll0, a2, b2], by simp only [PyData.depthAll]; omega⟩
theorem eqOks_all {k : Nat} : ∀ {ds : List D}, (∀ d ∈ ds, EqOk k d) → EqOks k ds
  | [], _ => eqOks_nil k
  | d :: ds, h => eqOks_cons (h d List.mem_cons_self) (eqOks_all fun x hx => h x (List.mem_cons_of_mem _ hx))
theorem eqOk_lst {k : Nat} {ds : List D} (e : EqOks k ds) : EqOk (k + 1) (.lst ds) := by
  obtain ⟨ps, b1, b2, b3⟩ := e
  exact ⟨.list ps, fun get => by simp [pyG, b1], b2, by simp only [PyData.depth]; omega⟩
theorem eqOk_tup {k : Nat} {ds : List D} (e : EqOks k ds) : EqOk (k + 1) (.tup ds) := by
  obtain ⟨ps, b1, b2, b3⟩ := e
  exact ⟨.tuple ps, fun get => by simp [pyG, b1], b2, by simp only [PyData.depth]; omega⟩
theorem W_eqRf {k : Nat} {d : D} (e : EqOk k d) (hk : k ≤ 64) (neg : Bool) (h : OH) {PD : D → OH → Prop} : (opEq neg d d h).W PD = PD (.bl (!neg)) h := by
  obtain ⟨p, g, l, dp⟩ := e
  have sh : SeqAt.shaped p = true := by simp [SeqAt.shaped, l]; omega
  have e := SeqAt.eqv_refl _ l
  simp only [opEq, pyAt, g, sh, e, Bool.and_self, if_true]
  cases neg <;> rfl
end HR
set_option Elab.async false
set_option linter.all false
set_option maxRecDepth 20000
set_option exponentiation.threshold 5000
namespace HR
open PySem L2
/-! ### law k34: packed ranks, as the law writes them -/
def upTo (k : Nat) (l : List Int) : Nat := (l.filter fun y => decide (y ≤ (k : Int))).length
theorem upTo_step (k : Nat) : ∀ {S : List Int}, S.Pairwise (· < ·) → upTo (k + 1) S = upTo k S + if ((k + 1 : Nat) : Int) ∈ S then 1 else 0
  | [], _ => by simp [upTo]
  | x :: S, h => by
    obtain ⟨h1, h2⟩ := List.pairwise_cons.mp h
    have ih := upTo_step k h2
    unfold upTo at *
    rw [List.filter_cons, List.filter_cons]
    by_cases a : x ≤ (k : Int)
    · have nx : ((k + 1 : Nat) : Int) ≠ x := by omega
      rw [if_pos (decide_eq_true (by omega)), if_pos (decide_eq_true a), List.length_cons, List.length_cons, ih]
      simp only [List.mem_cons, nx, false_or]
      omega
    · rw [if_neg (c := decide (x ≤ (k : Int)) = true) (by simpa using a)]
      have f0 : ∀ j : Nat, (j : Int) ≤ x → S.filter (fun y => decide (y ≤ (j : Int))) = [] := fun j hj => List.filter_eq_nil_iff.mpr fun y hy => by
        have := h1 y hy
        simp only [decide_eq_true_eq]
        omega
      by_cases b : x = ((k + 1 : Nat) : Int)
      · subst b
        rw [if_pos (decide_eq_true (Int.le_refl _)), List.length_cons, f0 (k + 1) (Int.le_refl _), f0 k (by omega)]
        simp
      · rw [if_neg (by simp only [decide_eq_true_eq]; omega), ih]
        have nx : ((k + 1 : Nat) : Int) ≠ x := fun z => b z.symm
        simp only [List.mem_cons, nx, false_or]
section
variable {ts : List Tk} (w : WfHall T30 ts)
include w
theorem upTo_cU : ∀ k, upTo k (sortU (ts.map (·.rank))) = cU ts k
  | 0 => by
    have : (sortU (ts.map (·.rank))).filter (fun y => decide (y ≤ ((0 : Nat) : Int))) = [] := List.filter_eq_nil_iff.mpr fun y hy => by
      rw [sortU_mem] at hy
      obtain ⟨t, ht, rfl⟩ := List.mem_map.mp hy
      have := (w.tk t ht).r1
      simp only [decide_eq_true_eq]
      omega
    unfold upTo
    rw [this]
    rfl
  | k + 1 => by
    rw [upTo_step k (sortU_lt _), upTo_cU k]
    show _ = if mt ts (k + 1) = [] then cU ts k else cU ts k + 1
    have e : (((k + 1 : Nat) : Int) ∈ sortU (ts.map (·.rank))) ↔ ¬ mt ts (k + 1) = [] := by
      rw [sortU_mem, List.mem_map]
      constructor
      · rintro ⟨t, ht, e⟩ z
        have : t ∈ mt ts (k + 1) := List.mem_filter.mpr ⟨ht, decide_eq_true e⟩
        rw [z] at this
        simp at this
      · intro z
        obtain ⟨t, l, e⟩ := List.exists_cons_of_ne_nil z
        have : t ∈ mt ts (k + 1) := by rw [e]; exact List.mem_cons_self
        obtain ⟨a, b⟩ := List.mem_filter.mp this
        exact ⟨t, a, of_decide_eq_true b⟩
    by_cases c : mt ts (k + 1) = []
    · rw [if_neg fun z => e.mp z c, if_pos c]; rfl
    · rw [if_pos (e.mpr c), if_neg c]
theorem pk_ix {t : Tk} (ht : t ∈ ts) : ∃ A B, sortU (ts.map (·.rank)) = A ++ t.rank :: B ∧ (∀ y ∈ A, y ≠ t.rank) ∧ (A.length : Int) + 1 = (pk ts t).rank := by
  have hm : t.rank ∈ sortU (ts.map (·.rank)) := (sortU_mem _ _).mpr (List.mem_map_of_mem ht)
  obtain ⟨A, B, e⟩ := List.append_of_mem hm
  have p := sortU_lt (ts.map (·.rank))
  have u := upTo_cU w t.rank.toNat
  rw [e] at p u
  rw [List.pairwise_append, List.pairwise_cons] at p
  obtain ⟨_, ⟨pB, _⟩, pA⟩ := p
  have r1 := (w.tk t ht).r1
  have en : ((t.rank.toNat : Nat) : Int) = t.rank := by omega
  have eA : A.filter (fun y => decide (y ≤ ((t.rank.toNat : Nat) : Int))) = A := List.filter_eq_self.mpr fun y hy => decide_eq_true (by have := pA y hy t.rank List.mem_cons_self; omega)
  have eB : B.filter (fun y => decide (y ≤ ((t.rank.toNat : Nat) : Int))) = [] := List.filter_eq_nil_iff.mpr fun y hy => by
    have := pB y hy
    simp only [decide_eq_true_eq]
    omega
  refine ⟨A, B, e, fun y hy => Int.ne_of_lt (pA y hy t.rank List.mem_cons_self), ?_⟩
  unfold upTo at u
  rw [List.filter_append, List.filter_cons, if_pos (decide_eq_true (by omega)), eA, eB, List.length_append] at u
  show _ = ((cU ts t.rank.toNat : Nat) : Int)
  rw [← u]
  simp
end
theorem idx_int (A B : List Int) (x : Int) (hA : ∀ y ∈ A, y ≠ x) : idxV (.int x) ((A ++ x :: B).map V.int) = some A.length := by
  induction A with
  | nil => simp [idxV, eqV]
  | cons y A ih =>
    have r := ih fun z hz => hA z (List.mem_cons_of_mem _ hz)
    have ne : eqV (.int y) (.int x) = false := by
      have := hA y List.mem_cons_self
      simpa [eqV] using this
    rw [List.map_append, List.map_cons] at r
    simp [idxV, ne, r]
theorem W_idxI {A B : List Int} {x : Int} (hA : ∀ y ∈ A, y ≠ x) (h : OH) {PD : D → OH → Prop} : (opIdx (.lst ((A ++ x :: B).map D.int)) (.int x) h).W PD = PD (.int A.length) h := by
  have fl : ∀ l : List Int, flatsD (l.map D.int) = some (l.map V.int) := fun l => by
    induction l with
    | nil => rfl
    | cons y ys ih => simp [flatsD, flatD, ih]
  have f : ∀ l : List Int, (l.map V.int).all flatV = true := fun l => by simp [flatV]
  unfold opIdx
  simp only [lsqAt, seqAt, Option.bind_some, fl, flatD, f, idx_int A B x hA]
  simp [flatV]
theorem W_sIdx34 (o : SE) (a : SA) (e : Env') (h : OH) {PD : D → OH → Prop} : (sIdx o a e h).W PD = (o e h).W fun x h1 => if (lsqAt h1 x).isSome then (a e h1).W fun ys h2 => (match ys with
  | [y] => (opIdx x y h2).W PD
  | _ => False) else False := by
  unfold sIdx
  rw [W_bind]
  congr; funext x h1
  split
  · rw [W_bind]
    congr; funext ys h2
    match ys with
    | [] => rfl
    | [_] => rfl
    | _ :: _ :: _ => rfl
  · rfl
theorem stepIx_rev34 (n : Nat) : stepIx n none none (some (-1)) = (List.range n).map fun k => n - 1 - k := by
  have e1 : (sliceBounds none none (some (-1)) n) = ((n : Int) - 1, -1, -1) := rfl
  unfold stepIx
  rw [e1]
  unfold sliceRange
  dsimp only
  rw [if_neg (by decide)]
  have cnt : (if ((n : Int) - 1) > -1 then (((n : Int) - 1) - (-1) - (-1) - 1) / (-(-1)) else 0) = (n : Int) := by
    by_cases z : n = 0
    · subst z; rfl
    · rw [if_pos (by omega)]
      have : -(-1 : Int) = 1 := rfl
      rw [this, Int.ediv_one]
      omega
  rw [cnt]
  simp only [Int.toNat_natCast]
  refine List.map_congr_left fun k hk => ?_
  have := List.mem_range.mp hk
  omega
theorem pickA_m34 {α : Type} {xs : List α} {g : Nat → Nat} {f : Nat → α} : ∀ {ix : List Nat}, (∀ k ∈ ix, xs[g k]? = some (f k)) → pickA xs (ix.map g) = ix.map f
  | [], _ => rfl
  | k :: ix, h => by
    rw [List.map_cons, pickA_cons_some (h k List.mem_cons_self), pickA_m34 fun y hy => h y (List.mem_cons_of_mem _ hy)]
    rfl
theorem stepD_rev34 (xs : List D) : stepD xs none none (some (-1)) = xs.reverse := by
  unfold stepD
  rw [stepIx_rev34, pickA_m34 (f := fun k => xs.reverse.getD k .non) fun k hk => ?_]
  · refine List.ext_getElem (by simp) fun i h1 h2 => ?_
    simp at h1 h2
    simp [h1]
  · have hk := List.mem_range.mp hk
    rw [List.getD_eq_getElem?_getD, List.getElem?_reverse hk, List.getElem?_eq_getElem (by omega)]
    rfl
end HR
set_option Elab.async false
set_option linter.all false
set_option maxRecDepth 20000
set_option exponentiation.threshold 5000
namespace HR
open PySem L2
/-! ### law k01: its own checks, on any frozen value -/
theorem p1030 : sBin opPow (sC (.int 10)) (sC (.int 30)) = sC (.int T30) := by
  funext e h
  simp only [T30]
  rfl
end HR
set_option Elab.async false
set_option linter.all false
set_option maxRecDepth 20000
set_option exponentiation.threshold 5000
namespace HR
open PySem L2
/-! ### law k34, the law -/
def pairD (a b : Nat) : D := .tup [.int (a : Int), .int (b : Int)]
theorem pairEq (a b : Nat) (h : OH) {PD : D → OH → Prop} : (opEq true (pairD a b) (pairD a b) h).W PD = PD (.bl false) h := W_eqRf (k := 1) (eqOk_tup (eqOks_cons (eqOk_int _) (eqOks_cons (eqOk_int _) (eqOks_nil _)))) (by decide) true h
theorem shEq34 {ts : List Tk} (w : WfHall T30 ts) (h : OH) {PD : D → OH → Prop} : (opEq true (.lst (sharD ts)) (.lst (sharD ts)) h).W PD = PD (.bl false) h := by
  refine W_eqRf (k := 2) (eqOk_lst (eqOks_all fun d hd => ?_)) (by decide) true h
  rw [shE_rows] at hd
  obtain ⟨q, hq, rfl⟩ := List.mem_map.mp hd
  have hn : EqOk 0 q.1 := by
    rcases List.mem_append.mp hq with z | z
    · obtain ⟨u, hu, rfl⟩ := List.mem_map.mp z
      exact eqOk_str (strOk_nm (w.tk u hu).name)
    · rw [List.mem_singleton] at z
      subst z
      exact eqOk_non
  exact eqOk_tup (eqOks_cons hn (eqOks_cons (eqOk_int _) (eqOks_cons (eqOk_int _) (eqOks_nil _))))
theorem mul34 {a b : Nat} (ha : 0 < a) (hb : 0 < b) (h1 : bl2 a ≤ 1041) (h2 : bl2 b ≤ 1041) (h : OH) : pureF Sh.l_multiple [.lst [.int (a : Int), .int (b : Int)]] h = .ok (.int ((Nat.lcm a b : Nat) : Int)) h := by
  have e := lmult (ns := [a, b]) (by simp) (fun n hn => by
    simp only [List.mem_cons, List.not_mem_nil, or_false] at hn
    rcases hn with rfl | rfl
    · exact ⟨ha, by omega⟩
    · exact ⟨hb, by omega⟩) (fun k => by
    have b0 : bl2 1 ≤ 3000 := by decide
    match k with
    | 0 => exact b0
    | 1 => show bl2 (Nat.lcm 1 a) ≤ 3000; rw [Nat.lcm_one_left]; omega
    | k + 2 =>
      rw [show List.take (k + 2) [a, b] = [a, b] by simp]
      show bl2 (Nat.lcm (Nat.lcm 1 a) b) ≤ 3000
      rw [Nat.lcm_one_left]
      have h3 := bl2_mono (Nat.le_of_dvd (Nat.mul_pos ha hb) (Nat.lcm_dvd_mul a b))
      have h4 := bl2_mul a b
      omega) h
  have e2 : lcmN [a, b] = Nat.lcm a b := by
    show Nat.lcm (Nat.lcm 1 a) b = _
    rw [Nat.lcm_one_left]
  rw [e2] at e
  exact e
theorem rnd34 {a L : Nat} (ha : 0 < a) : Nat.lcm a L / a = rnd a L := by
  unfold rnd
  rw [Nat.lcm, Nat.mul_div_assoc _ (Nat.gcd_dvd_right a L), Nat.mul_div_cancel_left _ ha]
theorem cut2_34 (a b c d : D) : cutD [a, b, c, d] none (some 2) = [a, b] := by
  rw [cutD_take _ _ (by decide)]
  rfl
theorem mt_hall {ts : List Tk} (w : WfHall T30 ts) (r : Nat) : WfHall T30 (mt ts r) := ⟨Nat.le_trans (List.length_filter_le _ _) w.len, fun t ht => w.tk t (List.mem_filter.mp ht).1, List.Nodup.sublist (List.Sublist.map _ List.filter_sublist) w.nd⟩
theorem cutT34 (a b c d : D) (h : OH) {PD : D → OH → Prop} : (opCut false (.tup [a, b, c, d]) none (some 2) h).W PD = PD (.tup [a, b]) h := by
  have e : opCut false (.tup [a, b, c, d]) none (some 2) h = .ok (.tup [a, b]) h := by
    unfold opCut
    rw [show lsqAt h (.tup [a, b, c, d]) = none from rfl]
    dsimp only
    rw [cut2_34, if_pos (by simp; decide)]
  rw [e]
  rfl
theorem addT34 (a b : D) (l m : List D) (h : OH) {PD : D → OH → Prop} : (opAdd (.tup [a, b]) (.tup [.lst l, .lst m]) h).W PD = PD (.tup [a, b, .lst l, .lst m]) h := by
  have e : opAdd (.tup [a, b]) (.tup [.lst l, .lst m]) h = .ok (.tup [a, b, .lst l, .lst m]) h := rfl
  rw [e]
  rfl
theorem pE0 (L : Nat) (h : OH) {PD : D → OH → Prop} : (opEq true (pairD 0 L) (.tup [.int 0, .int (L : Int)]) h).W PD = PD (.bl false) h := pairEq 0 L h
set_option maxHeartbeats 1000000 in
theorem law34 (P : Program) (wd : World) (ns : List Int) (hl : ns.length ≤ 63) : ∃ h', Sh.law_k34 P wd [.scr (ns.map D.int)] [] = .ok (.bl true) h' := by
  have fin : (Sh.law_k34 P wd [.scr (ns.map D.int)] []).W (fun d _ => d = .bl true) := by
    have cy := fun {ts : List Tk} (w : WfHall T30 ts) (h : OH) => show noXF (pureF Sh.cycle_of) [.lst (ts.map dTk)] h = .ok (pairD (stN ts) (cyN ts 10).1) h by rw [noXF_at, cycleOf (hallish w) w]; rfl
    have sh := fun {ts : List Tk} (w : WfHall T30 ts) (h : OH) => show noXF (pureF (Sh.shares_of_1 P wd)) [.lst (ts.map dTk)] h = .ok (.lst (sharD ts)) h by rw [noXF_at, shares1 (hallish w) w P wd]; rfl
    have al := fun {ts : List Tk} (w : WfHall T30 ts) (r : Nat) (h : OH) => lalone w r h
    have mu2 := fun {a b : Nat} (ha : 0 < a) (hb : 0 < b) (h1 : bl2 a ≤ 1041) (h2 : bl2 b ≤ 1041) (h : OH) => mul34 ha hb h1 h2 h
    unfold Sh.law_k34; rw [W_fn]; unfold Sh.law_k34_b
    rw [p1030]
    generalize noXF (pureF Sh.cycle_of) = CY at cy ⊢
    generalize noXF (pureF (Sh.shares_of_1 P wd)) = SH at sh ⊢
    generalize pureF Sh.l_alone = AL at al ⊢
    generalize pureF Sh.l_multiple = MU at mu2 ⊢
    refine SW_seqK fun K hK => ?_
    simp
    refine reel_ok ns [] fun o so => ?_
    simp only [List.length_nil, List.nil_append] at so ⊢
    refine hK _ _ ?_
    clear hK K
    have r : rngOk (1 + if 3 < (ns.length : Int) then 3 else (ns.length : Int)) = true := by
      simp only [rngOk, Bool.and_eq_true, decide_eq_true_eq]
      split <;> omega
    refine SW_seqK fun K hK => ?_
    simp [r]
    refine W_forL (fun k e h' => Rl h' 0 ∧ ∃ a2 a3 a4 a5 a6 a7 a8 a9 a10 a11 a12 a13 a14 a15 : Option D, e = [some (.scr (ns.map D.int)), some (.ref 0), a2, a3, a4, a5, a6, a7, a8, a9, a10, a11, a12, a13, a14, a15]) _ _ _ ⟨so, _, _, _, _, _, _, _, _, _, _, _, _, _, _, rfl⟩ (fun k d hd e h' hI => ?_) (fun e h' hI => ?_)
    · obtain ⟨s, a2, a3, a4, a5, a6, a7, a8, a9, a10, a11, a12, a13, a14, a15, rfl⟩ := hI
      refine ⟨_, rfl, ?_⟩
      refine SW_seqK fun K1 hK1 => ?_
      simp
      refine rdraw_ok s (by decide) (small_64 (by decide)) fun x h1 x0 x1 s1 c1 => ?_
      simp
      refine pickI (ns := [4, 10]) x0 x1 fun rk hrk => ?_
      refine rdraw_ok s1 (by decide) (small_64 (by decide)) fun y h2 y0 y1 s2 c2 => ?_
      simp
      refine pickI (ns := [6, T30]) y0 y1 fun longest hlg => ?_
      have hrk' : 1 ≤ rk ∧ rk ≤ 10 := by simp at hrk; omega
      have hlg' : 0 < longest ∧ longest ≤ T30 := by simp at hlg; simp only [T30] at hlg ⊢; omega
      refine rhall_ok s2 (by decide) (by decide) hrk'.1 hrk'.2 hlg'.1 (small_lt 200 (by omega) (by simp only [T30] at hlg'; omega)) fun ts h3 s3 c3 lts wf0 _ => ?_
      have w := wf0.mono hlg'.2
      have lts' : ts.length ≤ 10 := w.len
      refine hK1 _ _ ?_
      clear hK1 K1 s1 c1 s2 c2 wf0 c3 s
      refine SW_seqK fun K1 hK1 => ?_
      simp
      refine hK1 _ _ ?_
      clear hK1 K1
      refine SW_seqK fun K1 hK1 => ?_
      simp [gT, gCs, gN, gNl, seqAt]
      refine hK1 _ _ ?_
      clear hK1 K1
      refine SW_seqK fun K1 hK1 => ?_
      simp
      refine ⟨⟨by decide, by decide⟩, ?_⟩
      have em : mu ts 0 = [] := mu_zero fun t ht => (w.tk t ht).r1
      refine W_forL (fun k e h' => h' = h3 ∧ ∃ x7 x8 x9 x10 x11 x12 x13 : Option D, e = [some (.scr (ns.map D.int)), some (.ref 0), some d, some (.lst (ts.map dTk)), some (pairD (stN (mu ts k)) (cyN ts k).1), some (.int ((cyN ts k).1 : Int)), some (.int ((cyN ts k).2 : Int)), x7, x8, x9, x10, x11, x12, x13, a14, a15]) _ _ _ ⟨rfl, _, _, _, _, _, _, _, by rw [em]; rfl⟩ (fun k dd hdd e h' hI => ?_) (fun e h' hI => ?_)
      · obtain ⟨rfl, x7, x8, x9, x10, x11, x12, x13, rfl⟩ := hI
        obtain ⟨hk, rfl⟩ := rngD_at hdd
        have hk10 : k < 10 := hk
        obtain ⟨p0, q0, _, _⟩ := cyN_ok w k
        obtain ⟨p1, q1⟩ := cyN_bl w (k := k) (by omega)
        have hL := lf_pos qf_lcm w (k + 1)
        have hL1 := lf_small qf_lcm w (k + 1)
        have hQ1 := q_small qf_lcm w (k + 1)
        have es : cyN ts (k + 1) = cyS (cyN ts k) (mt ts (k + 1)) := rfl
        have mono := mu_st w (r := k) (s := k + 1) (by omega)
        have cM := fun h => cy (np_wf (mt_hall w (k + 1))) h
        rw [np_st, alone_cyN (by omega) (by omega)] at cM
        have cU := fun h => cy (mu_wf w (k + 1)) h
        rw [mu_cyN (by omega), es] at cU
        have alk := fun h => al w (k + 1) h
        have mm := fun h => mu2 q0 hL q1 hL1 h
        have fm : ts.filter (fun t => decide (t.rank = ((k + 1 : Nat) : Int))) = mt ts (k + 1) := rfl
        have fu : ts.filter (fun t => decide (t.rank ≤ ((k + 1 : Nat) : Int))) = mu ts (k + 1) := rfl
        have hun : (mt ts (k + 1)).length ≤ 10 := mt_le w (k := k + 1)
        rw [es]
        unfold cyS at cU ⊢
        generalize lf lcmL (mt ts (k + 1)) = L at *
        generalize lcmL (mt ts (k + 1)) = Q at *
        generalize mt ts (k + 1) = us at *
        generalize mu ts (k + 1) = vs at *
        generalize stN vs = S' at *
        generalize stN (mu ts k) = S0 at *
        generalize cyN ts k = p at *
        obtain ⟨a, b⟩ := p
        dsimp only at *
        have er : (1 : Int) + (k : Nat) = ((k + 1 : Nat) : Int) := by omega
        rw [er]
        generalize ((k + 1 : Nat) : Int) = R at *
        refine ⟨_, rfl, ?_⟩
        refine SW_seqK fun K2 hK2 => ?_
        simp [wipeD]
        refine W_lcMap ts dTk (fun t => decide (t.rank = R)) dTk _ (by simp [big]; omega) (fun x hx => ⟨_, rfl, ?_⟩) ?_
        · simp [dTk]
          rfl
        rw [fm]
        refine hK2 _ _ ?_
        clear hK2 K2 fm
        refine SW_seqK fun K2 hK2 => ?_
        simp [alk, gT, gCs, gN, gNl, seqAt]
        refine hK2 _ _ ?_
        clear hK2 K2 alk
        refine SW_seqK fun K2 hK2 => ?_
        simp [wipeD]
        refine W_lcMap1 us dTk (fun u => dTk (np u)) _ (by simp [big]; omega) (fun u hu => ⟨_, rfl, ?_⟩) ?_
        · simp [dTk, cutT34, addT34, np]
        rw [show us.map (fun u => dTk (np u)) = (us.map np).map dTk by rw [List.map_map]; rfl]
        rw [List.map_map] at cM ⊢
        simp [cM, pE0]
        refine hK2 _ _ ?_
        clear hK2 K2 cM
        have d1 : divOk ((Nat.lcm b L : Nat) : Int) (b : Int) = true := divOk_bl q0 (by omega)
        have e1 : ((Nat.lcm b L : Nat) : Int) / (b : Int) = ((rnd b L : Nat) : Int) := by rw [← rnd34 q0]; rfl
        refine SW_seqK fun K2 hK2 => ?_
        simp [mm, d1]
        rw [e1]
        refine hK2 _ _ ?_
        clear hK2 K2 mm d1 e1
        have rb : bl2 (rnd b L) ≤ 1041 := Nat.le_trans (bl2_mono (Nat.div_le_self _ _)) hL1
        generalize rnd b L = Z at *
        have m1 : mulOk (a : Int) (Z : Int) = true := mulOk_bl (by omega)
        have m2 : mulOk (b : Int) (Z : Int) = true := mulOk_bl (by omega)
        have mb := bl2_mul b Z
        have d2 : divOk ((b : Int) * (Z : Int)) (L : Int) = true := divOk_bl hL (by omega)
        have e2 : (b : Int) * (Z : Int) / (L : Int) = ((b * Z / L : Nat) : Int) := by rw [← Int.natCast_mul]; rfl
        have m3 : mulOk ((b * Z / L : Nat) : Int) (Q : Int) = true := mulOk_bl (by have := bl2_mono (Nat.div_le_self (b * Z) L); omega)
        have e3 : (a : Int) * (Z : Int) = ((a * Z : Nat) : Int) := by rw [Int.natCast_mul]
        have e4 : ((b * Z / L : Nat) : Int) * (Q : Int) = ((b * Z / L * Q : Nat) : Int) := by rw [Int.natCast_mul]
        refine SW_seqK fun K2 hK2 => ?_
        simp [sPar, m1, m2, d2]
        rw [e2, e3, e4]
        refine ⟨m3, ?_⟩
        refine hK2 _ _ ?_
        clear hK2 K2
        refine SW_seqK fun K2 hK2 => ?_
        simp [wipeD]
        refine W_lcMap ts dTk (fun t => decide (t.rank ≤ R)) dTk _ (by simp [big]; omega) (fun x hx => ⟨_, rfl, ?_⟩) ?_
        · simp [dTk]
        rw [fu]
        simp [cU]
        refine hK2 _ _ ?_
        clear hK2 K2
        simp [pairD]
        exact mono
      · obtain ⟨rfl, x7, x8, x9, x10, x11, x12, x13, rfl⟩ := hI
        refine hK1 _ _ ?_
        clear hK1 K1
        rw [show (rngD 1 10).length = 10 from rfl, mu_all fun t ht => (w.tk t ht).r2]
        have c0 := fun h => cy w h
        have cR := fun h => cy (rev_wf w) h
        rw [rev_cyN] at cR
        have cP := fun h => cy (pk_wf w) h
        rw [pk_st w, (pk_all w).1] at cP
        have cN := fun h => cy (np_wf w) h
        rw [np_st, np_cyN] at cN
        have sP := fun h => sh (pk_wf w) h
        rw [pk_sh w] at sP
        have s0 := fun h => sh w h
        have sE := fun (h : OH) (PD : D → OH → Prop) => shEq34 w h (PD := PD)
        generalize stN ts.reverse = SR at *
        generalize stN ts = S0 at *
        generalize (cyN ts 10).1 = C0 at *
        generalize (cyN ts 10).2 = C1 at *
        generalize sharD ts = SD at *
        have pE := fun (h : OH) (PD : D → OH → Prop) => pairEq S0 C0 h (PD := PD)
        have rv : ∀ (e : Env') (h : OH) (PD : D → OH → Prop), e[3]? = some (some (.lst (ts.map dTk))) → (sCutS false (sVar 3) sNoPart sNoPart (sPart (sUn opNeg (sC (D.int 1)))) e h).W PD = PD (.lst (ts.reverse.map dTk)) h := fun e h PD e3 => by
          unfold sCutS
          rw [W_bind, W_sVar', e3]
          dsimp only
          simp [sNoPart, sPart, stepD_rev34]
        have c1R : ∀ (h : OH) (PD : D → OH → Prop), (opIx (pairD SR C0) (.int 1) h).W PD = PD (.int (C0 : Int)) h := fun h PD => by simp [pairD]
        have c10 : ∀ (h : OH) (PD : D → OH → Prop), (opIx (pairD S0 C0) (.int 1) h).W PD = PD (.int (C0 : Int)) h := fun h PD => by simp [pairD]
        refine SW_seqK fun K2 hK2 => ?_
        simp [c0, pE]
        rw [rv _ _ _ rfl, cR]
        simp [c1R, c10]
        refine hK2 _ _ ?_
        clear hK2 K2
        refine SW_seqK fun K2 hK2 => ?_
        simp [wipeD]
        refine W_lcMap1 ts dTk (fun t => .int t.rank) _ (by simp [big]; omega) (fun u hu => ⟨_, rfl, ?_⟩) ?_
        · simp [dTk]
        rw [show (lsqAt h' (.lst (ts.map fun t => D.int t.rank))).bind intsOf = some (ts.map (·.rank)) from ints_mapF (fun t : Tk => t.rank) ts]
        refine ⟨by rw [List.length_map]; omega, ?_⟩
        refine hK2 _ _ ?_
        clear hK2 K2
        have ix := fun {t : Tk} (ht : t ∈ ts) => pk_ix w ht
        generalize sortU (ts.map (·.rank)) = S at *
        refine SW_seqK fun K2 hK2 => ?_
        simp [wipeD]
        refine W_lcMap1 ts dTk (fun t => dTk (pk ts t)) _ (by simp [big]; omega) (fun u hu => ⟨_, rfl, ?_⟩) ?_
        · obtain ⟨A, B, eS, hA, hr⟩ := ix hu
          subst eS
          have wi := fun (h : OH) (PD : D → OH → Prop) => W_idxI (B := B) hA h (PD := PD)
          have ls : ∀ h : OH, (lsqAt h (.lst ((A ++ u.rank :: B).map D.int))).isSome = true := fun _ => rfl
          generalize (A ++ u.rank :: B).map D.int = LS at *
          simp [W_sIdx34, ls, wi, dTk]
          exact ⟨rfl, hr, rfl, rfl⟩
        rw [show ts.map (fun t => dTk (pk ts t)) = (ts.map (pk ts)).map dTk by rw [List.map_map]; rfl]
        refine hK2 _ _ ?_
        clear hK2 K2 ix
        refine SW_seqK fun K2 hK2 => ?_
        generalize ts.map (pk ts) = ps at *
        simp [cP, pE, sP, s0, sE]
        refine hK2 _ _ ?_
        clear hK2 K2
        simp [wipeD]
        refine W_lcMap1 ts dTk (fun t => dTk (np t)) _ (by simp [big]; omega) (fun u hu => ⟨_, rfl, ?_⟩) ?_
        · simp [dTk, cutT34, addT34, np]
        rw [show ts.map (fun u => dTk (np u)) = (ts.map np).map dTk by rw [List.map_map]; rfl]
        rw [List.map_map] at cN ⊢
        simp [cN, c10, pE0]
        exact s3
    · obtain ⟨s, a2, a3, a4, a5, a6, a7, a8, a9, a10, a11, a12, a13, a14, a15, rfl⟩ := hI
      refine hK _ _ ?_
      simp
  obtain ⟨d, h', e, rfl⟩ := fin.out
  exact ⟨h', e⟩
end HR
set_option Elab.async false
set_option linter.all false
set_option maxRecDepth 100000
set_option maxHeartbeats 4000000
/-! the text of law_k34_whole_cycles_of_ranks: facts of its head, the derivations -/
namespace HR
open PySem L2
open PyProof.Rows (envOfC)
namespace Tk34
def top (i : Nat) : Stmt := PySem.Challenge.pw_hushranks_k34_whole_cycles_of_ranks.main.body.getD i (.Pass ⟨0, 0, 0, 0⟩)
def d_is_integer : He.DefD := ⟨("is_integer", none), "is_integer", "is_integer", defArgs (top 10), defBody (top 10), defScope (top 10), [.non], []⟩
def d_is_sequence : He.DefD := ⟨("is_sequence", none), "is_sequence", "is_sequence", defArgs (top 11), defBody (top 11), defScope (top 11), [], []⟩
def d_is_name : He.DefD := ⟨("is_name", none), "is_name", "is_name", defArgs (top 12), defBody (top 12), defScope (top 12), [], []⟩
def d_is_talk : He.DefD := ⟨("is_talk", none), "is_talk", "is_talk", defArgs (top 13), defBody (top 13), defScope (top 13), [], []⟩
def d_are_talks : He.DefD := ⟨("are_talks", none), "are_talks", "are_talks", defArgs (top 14), defBody (top 14), defScope (top 14), [], []⟩
def d_is_talker : He.DefD := ⟨("is_talker", none), "is_talker", "is_talker", defArgs (top 15), defBody (top 15), defScope (top 15), [], []⟩
def d_is_hall : He.DefD := ⟨("is_hall", none), "is_hall", "is_hall", defArgs (top 16), defBody (top 16), defScope (top 16), [], []⟩
def d_running_sums : He.DefD := ⟨("running_sums", none), "running_sums", "running_sums", defArgs (top 17), defBody (top 17), defScope (top 17), [], []⟩
def d_Schedule_init : He.DefD := ⟨("Schedule", some "__init__"), "__init__", "Schedule.__init__", defArgs (inClass (top 18) 0), defBody (inClass (top 18) 0), defScope (inClass (top 18) 0), [], []⟩
def d_Schedule_nth_talk : He.DefD := ⟨("Schedule", some "nth_talk"), "nth_talk", "Schedule.nth_talk", defArgs (inClass (top 18) 1), defBody (inClass (top 18) 1), defScope (inClass (top 18) 1), [], []⟩
def d_Schedule_sum_of_first : He.DefD := ⟨("Schedule", some "sum_of_first"), "sum_of_first", "Schedule.sum_of_first", defArgs (inClass (top 18) 2), defBody (inClass (top 18) 2), defScope (inClass (top 18) 2), [], []⟩
def d_Schedule_nth_ready : He.DefD := ⟨("Schedule", some "nth_ready"), "nth_ready", "Schedule.nth_ready", defArgs (inClass (top 18) 3), defBody (inClass (top 18) 3), defScope (inClass (top 18) 3), [], []⟩
def d_Schedule_count_ready : He.DefD := ⟨("Schedule", some "count_ready"), "count_ready", "Schedule.count_ready", defArgs (inClass (top 18) 4), defBody (inClass (top 18) 4), defScope (inClass (top 18) 4), [], []⟩
def d_Schedule_length_ready : He.DefD := ⟨("Schedule", some "length_ready"), "length_ready", "Schedule.length_ready", defArgs (inClass (top 18) 5), defBody (inClass (top 18) 5), defScope (inClass (top 18) 5), [], []⟩
def d_Member_init : He.DefD := ⟨("Member", some "__init__"), "__init__", "Member.__init__", defArgs (inClass (top 19) 0), defBody (inClass (top 19) 0), defScope (inClass (top 19) 0), [], []⟩
def d_checked_hall : He.DefD := ⟨("checked_hall", none), "checked_hall", "checked_hall", defArgs (top 20), defBody (top 20), defScope (top 20), [], []⟩
def d_rank_length : He.DefD := ⟨("rank_length", none), "rank_length", "rank_length", defArgs (top 22), defBody (top 22), defScope (top 22), [], []⟩
def d_left_index : He.DefD := ⟨("left_index", none), "left_index", "left_index", defArgs (top 23), defBody (top 23), defScope (top 23), [], []⟩
def d_tick_of : He.DefD := ⟨("tick_of", none), "tick_of", "tick_of", defArgs (top 24), defBody (top 24), defScope (top 24), [], []⟩
def d_run_of : He.DefD := ⟨("run_of", none), "run_of", "run_of", defArgs (top 26), defBody (top 26), defScope (top 26), [], []⟩
def d_span_by : He.DefD := ⟨("span_by", none), "span_by", "span_by", defArgs (top 28), defBody (top 28), defScope (top 28), [], []⟩
def d_common_divisor : He.DefD := ⟨("common_divisor", none), "common_divisor", "common_divisor", defArgs (top 30), defBody (top 30), defScope (top 30), [], []⟩
def d_common_multiple : He.DefD := ⟨("common_multiple", none), "common_multiple", "common_multiple", defArgs (top 31), defBody (top 31), defScope (top 31), [], []⟩
def d_RankCycle_init : He.DefD := ⟨("RankCycle", some "__init__"), "__init__", "RankCycle.__init__", defArgs (inClass (top 32) 0), defBody (inClass (top 32) 0), defScope (inClass (top 32) 0), [], []⟩
def d_RankCycle_spoken_by : He.DefD := ⟨("RankCycle", some "spoken_by"), "spoken_by", "RankCycle.spoken_by", defArgs (inClass (top 32) 1), defBody (inClass (top 32) 1), defScope (inClass (top 32) 1), [], []⟩
def d_start_of : He.DefD := ⟨("start_of", none), "start_of", "start_of", defArgs (top 33), defBody (top 33), defScope (top 33), [], []⟩
def d_cycle_of : He.DefD := ⟨("cycle_of", none), "cycle_of", "cycle_of", defArgs (top 34), defBody (top 34), defScope (top 34), [], []⟩
def d_shares_of_1 : He.DefD := ⟨("shares_of", none), "shares_of", "shares_of", defArgs (top 35), defBody (top 35), defScope (top 35), [], []⟩
def d_l_reel : He.DefD := ⟨("_law_reel", none), "_law_reel", "_law_reel", defArgs (top 37), defBody (top 37), defScope (top 37), [], []⟩
def d_l_draw_1 : He.DefD := ⟨("_law_draw", none), "_law_draw", "_law_draw", defArgs (top 38), defBody (top 38), defScope (top 38), [], []⟩
def d_l_talks_1 : He.DefD := ⟨("_law_talks", none), "_law_talks", "_law_talks", defArgs (top 39), defBody (top 39), defScope (top 39), [], []⟩
def d_l_hall_1 : He.DefD := ⟨("_law_hall", none), "_law_hall", "_law_hall", defArgs (top 40), defBody (top 40), defScope (top 40), [], []⟩
def d_l_multiple : He.DefD := ⟨("_law_multiple", none), "_law_multiple", "_law_multiple", defArgs (top 41), defBody (top 41), defScope (top 41), [], []⟩
def d_l_alone : He.DefD := ⟨("_law_alone", none), "_law_alone", "_law_alone", defArgs (top 42), defBody (top 42), defScope (top 42), [], []⟩
def d_law_k34 : He.DefD := ⟨("law", none), "law", "law", defArgs (top 43), defBody (top 43), defScope (top 43), [], []⟩
def fn : List He.DefD := [d_is_integer, d_is_sequence, d_is_name, d_is_talk, d_are_talks, d_is_talker, d_is_hall, d_running_sums, d_Schedule_init, d_Schedule_nth_talk, d_Schedule_sum_of_first, d_Schedule_nth_ready, d_Schedule_count_ready, d_Schedule_length_ready, d_Member_init, d_checked_hall, d_rank_length, d_left_index, d_tick_of, d_run_of, d_span_by, d_common_divisor, d_common_multiple, d_RankCycle_init, d_RankCycle_spoken_by, d_start_of, d_cycle_of, d_shares_of_1, d_l_reel, d_l_draw_1, d_l_talks_1, d_l_hall_1, d_l_multiple, d_l_alone, d_law_k34]
def fa0 : List He.Fa := [.glo "HushError", .exc "HushError", .glo "InvalidHall", .exc "InvalidHall", .str "LETTERS" "abcdefghijklmnopqrstuvwxyz", .int "MAX_NAME" (8), .int "MAX_TIME" (1000000000000000000000000000000), .int "MAX_RANK" (10), .int "MAX_TALKS" (8), .int "MAX_TALKERS" (10), .glo "is_integer", .glo "is_sequence", .glo "is_name", .glo "is_talk", .glo "are_talks", .glo "is_talker", .glo "is_hall", .glo "running_sums", .glo "Schedule", .cls "Schedule", .mkr "Schedule", .noat "Schedule" "prefix", .noat "Schedule" "cycle", .noat "Schedule" "prefix_silences", .noat "Schedule" "prefix_lengths", .noat "Schedule" "cycle_silences", .noat "Schedule" "cycle_lengths", .meth "Schedule" "nth_talk", .meth "Schedule" "sum_of_first", .meth "Schedule" "nth_ready"]
def fa1 : List He.Fa := [.meth "Schedule" "count_ready", .meth "Schedule" "length_ready", .glo "Member", .cls "Member", .mkr "Member", .noat "Member" "name", .noat "Member" "rank", .noat "Member" "schedule", .glo "checked_hall", .glo "rank_length", .glo "left_index", .glo "tick_of", .glo "run_of", .glo "span_by", .glo "common_divisor", .glo "common_multiple", .glo "RankCycle", .cls "RankCycle", .mkr "RankCycle", .noat "RankCycle" "members", .noat "RankCycle" "quiet", .noat "RankCycle" "left", .meth "RankCycle" "spoken_by", .glo "start_of", .glo "cycle_of", .glo "shares_of", .glo "_law_reel", .glo "_law_draw", .glo "_law_talks", .glo "_law_hall"]
def fa2 : List He.Fa := [.glo "_law_multiple", .glo "_law_alone", .glo "law", .free "ValueError", .free "all", .free "bool", .free "divmod", .free "int", .free "isinstance", .free "len", .free "list", .free "max", .free "min", .free "range", .free "set", .free "sorted", .free "str", .free "sum", .free "tuple", .free "zip"]
def fa : List He.Fa := fa0 ++ fa1 ++ fa2
theorem hu_ {A : Around} {k : Nat} (hr : Room k A) : A.units + 64 < cLine := hr.units
section
variable {P : Program} {w : World} {K : PySem.W.Frag} {mg : Str → Option Value} {base h : Heap}
theorem sc_l_reel : FnScope ["_law_script", "_law_stir", "_law_cell", "_law_great"] ["_law_script"] (defScope (top 37)) := ⟨rfl, rfl, rfl, by decide +kernel, rfl, by decide +kernel, by decide +kernel⟩
theorem okb_l_reel (c : He.SaysD fa fn K) (X0 : K.In h) (G : h.Ns mainGlobals mg) {fd : FuncData} (F : FunD K d_l_reel.name d_l_reel.qual d_l_reel.params d_l_reel.body d_l_reel.scope (d_l_reel.dvs K) (d_l_reel.kws K) (He.ga K "_law_reel") fd) : FnOk P w K mg base CX0 1 (He.ga K "_law_reel") fd ["_law_script"] (spN K 1 Sh.l_reel) := by
  have sc := sc_l_reel
  refine fn_ok F sc (by decide) (fun cdv A outer s H E hr => ?_)
  exact (ds_cons (ds_set 1 sc.nd (de_pow de_int de_int)) (ds_cons (ds_for (vs := [2]) (passes_of rfl) rfl (di_any (de_cut false (de_var 0) do_none (do_some de_int))) (dg_name 2 sc.nd) (ds_one (ds_set 1 sc.nd (de_mod (de_add (de_add (de_mul (de_var 1) (de_var 1)) (de_mod (de_var 2) de_int)) de_int) (de_sub (de_mul (de_pow de_int de_int) (de_pow de_int de_int)) de_int))))) (ds_cons (ds_setLc (X := _) 3 false [("_law_cell", 2)] rfl sc.nd (di_any (de_cut false (de_var 0) do_none (do_some de_int))) (blkOk_by (by kernel_rfl)) (fun _ _ _ _ _ => (dg_name 2 sc.nd)) (fun _ _ _ _ _ => (dts_one (dt_ge (de_var 2) (de_pow de_int de_int)))) (fun _ _ _ _ _ => (de_sub (de_var 2) (de_pow de_int de_int))) (sw_true rfl rfl rfl (by decide +kernel))) (ds_one (ds_ret (de_lstO (da_cons (de_var 3) (da_cons (de_add (de_lc false [("_law_cell", 2)] rfl sc.nd (di_any (de_cut false (de_var 0) do_none (do_some de_int))) (blkOk_by (by kernel_rfl)) (fun _ _ _ _ _ => (dg_name 2 sc.nd)) (fun _ _ _ _ _ => dts_nil) (fun _ _ _ _ _ => (de_mod (de_var 2) de_int))) (de_lst (da_cons de_int da_nil))) (da_cons de_int (da_cons (de_var 1) da_nil))))))))))
theorem ok_l_reel (c : He.SaysD fa fn K) (X0 : K.In h) (G : h.Ns mainGlobals mg) : Def P w K mg base CX0 1 (He.ga K "_law_reel") ["_law_script"] [] Sh.l_reel := by
  obtain ⟨fd, F⟩ := c.def_ 28 (d := d_l_reel) rfl
  exact ⟨⟨fd, [], okb_l_reel c X0 G F, F.bindsN fun _ _ _ _ _ _ us hl => match us, hl with | [_], _ => rfl, .nil⟩, F.kp⟩
theorem sc_l_draw_1 : FnScope ["_law_reel_here", "_law_many", "_law_rest", "_law_extra", "_law_stir"] ["_law_reel_here", "_law_many"] (defScope (top 38)) := ⟨rfl, rfl, rfl, by decide +kernel, rfl, by decide +kernel, by decide +kernel⟩
theorem okb_l_draw_1 (c : He.SaysD fa fn K) (X0 : K.In h) (G : h.Ns mainGlobals mg) {fd : FuncData} (F : FunD K d_l_draw_1.name d_l_draw_1.qual d_l_draw_1.params d_l_draw_1.body d_l_draw_1.scope (d_l_draw_1.dvs K) (d_l_draw_1.kws K) (He.ga K "_law_draw") fd) : FnOk P w K mg base CX0 1 (He.ga K "_law_draw") fd ["_law_reel_here", "_law_many"] (spN K 2 Sh.l_draw_1) := by
  have sc := sc_l_draw_1
  refine fn_ok F sc (by decide) (fun cdv A outer s H E hr => ?_)
  exact (ds_cons (ds_if (dt_neN (hu_ hr) (de_ix (de_var 0) de_int) (de_lst da_nil)) (ds_cons (ds_set 2 sc.nd (de_ix (de_ix (de_var 0) de_int) de_int)) (ds_cons (ds_ix (de_var 0) de_int (de_add (de_mul (de_lst (da_cons (de_div (de_var 2) (de_var 1)) da_nil)) (de_toint (by rfl) (He.free_ok X0 G (c.fact 67 (f := .free "int") (by rfl))) (de_ge (de_var 2) (de_var 1)))) (de_cut false (de_ix (de_var 0) de_int) (do_some de_int) do_none)) (pg_sub (de_var 0) de_int set_list)) (ds_one (ds_ret (de_mod (de_var 2) (de_var 1)))))) ds_nil) (ds_cons (ds_ix (de_var 0) de_int (de_add (de_ix (de_var 0) de_int) de_int) (pg_sub (de_var 0) de_int set_list)) (ds_cons (ds_set 3 sc.nd (de_ix (de_ix (de_var 0) de_int) (de_mod (de_ix (de_var 0) de_int) (de_len (by rfl) (He.free_ok X0 G (c.fact 69 (f := .free "len") (by rfl))) (de_ix (de_var 0) de_int))))) (ds_cons (ds_set 4 sc.nd (de_add (de_add (de_mul (de_ix (de_var 0) de_int) (de_ix (de_var 0) de_int)) (de_mul (de_add (de_var 3) de_int) de_int)) (de_mul (de_ix (de_var 0) de_int) de_int))) (ds_cons (ds_ix (de_var 0) de_int (de_mod (de_var 4) (de_sub (de_mul (de_pow de_int de_int) (de_pow de_int de_int)) de_int)) (pg_sub (de_var 0) de_int set_list)) (ds_one (ds_ret (de_mod (de_div (de_ix (de_var 0) de_int) (de_pow de_int de_int)) (de_var 1)))))))))
theorem ok_l_draw_1 (c : He.SaysD fa fn K) (X0 : K.In h) (G : h.Ns mainGlobals mg) : Def P w K mg base CX0 1 (He.ga K "_law_draw") ["_law_reel_here", "_law_many"] [] Sh.l_draw_1 := by
  obtain ⟨fd, F⟩ := c.def_ 29 (d := d_l_draw_1) rfl
  exact ⟨⟨fd, [], okb_l_draw_1 c X0 G F, F.bindsN fun _ _ _ _ _ _ us hl => match us, hl with | [_, _], _ => rfl, .nil⟩, F.kp⟩
theorem sc_l_talks_1 : FnScope ["_law_reel_here", "_law_many", "_law_longest", "_law_turn"] ["_law_reel_here", "_law_many", "_law_longest"] (defScope (top 39)) := ⟨rfl, rfl, rfl, by decide +kernel, rfl, by decide +kernel, by decide +kernel⟩
theorem okb_l_talks_1 (c : He.SaysD fa fn K) (X0 : K.In h) (G : h.Ns mainGlobals mg) {fd : FuncData} (F : FunD K d_l_talks_1.name d_l_talks_1.qual d_l_talks_1.params d_l_talks_1.body d_l_talks_1.scope (d_l_talks_1.dvs K) (d_l_talks_1.kws K) (He.ga K "_law_talks") fd) : FnOk P w K mg base CX0 2 (He.ga K "_law_talks") fd ["_law_reel_here", "_law_many", "_law_longest"] (spN K 3 Sh.l_talks_1) := by
  have H_l_draw_1 := ok_l_draw_1 (P := P) (w := w) (base := base) c X0 G
  have sc := sc_l_talks_1
  refine fn_ok F sc (by decide) (fun cdv A outer s H E hr => ?_)
  exact (ds_one (ds_ret (de_lc false [("_law_turn", 3)] rfl sc.nd (di_rng1 (by rfl) (He.free_ok X0 G (c.fact 73 (f := .free "range") (by rfl))) (de_var 1)) (blkOk_by (by kernel_rfl)) (fun _ _ _ _ _ => (dg_name 3 sc.nd)) (fun _ _ _ _ _ => dts_nil) (fun _ _ _ _ _ => (de_tup (da_cons (de_add de_int (de_callF [] (H_l_draw_1.up (by decide)) hr (He.glo_ok X0 G (c.fact 57 (f := .glo "_law_draw") (by rfl))) (fun _ _ => .nil) (fun _ => passAt0) (da_cons (de_var 0) (da_cons (de_var 2) da_nil)) (sCons_len (sCons_len sNil_len)))) (da_cons (de_add de_int (de_callF [] (H_l_draw_1.up (by decide)) hr (He.glo_ok X0 G (c.fact 57 (f := .glo "_law_draw") (by rfl))) (fun _ _ => .nil) (fun _ => passAt0) (da_cons (de_var 0) (da_cons (de_var 2) da_nil)) (sCons_len (sCons_len sNil_len)))) da_nil)))))))
theorem ok_l_talks_1 (c : He.SaysD fa fn K) (X0 : K.In h) (G : h.Ns mainGlobals mg) : Def P w K mg base CX0 2 (He.ga K "_law_talks") ["_law_reel_here", "_law_many", "_law_longest"] [] Sh.l_talks_1 := by
  obtain ⟨fd, F⟩ := c.def_ 30 (d := d_l_talks_1) rfl
  exact ⟨⟨fd, [], okb_l_talks_1 c X0 G F, F.bindsN fun _ _ _ _ _ _ us hl => match us, hl with | [_, _, _], _ => rfl, .nil⟩, F.kp⟩
theorem sc_l_hall_1 : FnScope ["_law_reel_here", "_law_many", "_law_ranks", "_law_longest", "_law_pool", "_law_found", "_law_turn", "_law_few", "_law_prefix", "_law_more", "_law_cycle"] ["_law_reel_here", "_law_many", "_law_ranks", "_law_longest"] (defScope (top 40)) := ⟨rfl, rfl, rfl, by decide +kernel, rfl, by decide +kernel, by decide +kernel⟩
theorem okb_l_hall_1 (c : He.SaysD fa fn K) (X0 : K.In h) (G : h.Ns mainGlobals mg) {fd : FuncData} (F : FunD K d_l_hall_1.name d_l_hall_1.qual d_l_hall_1.params d_l_hall_1.body d_l_hall_1.scope (d_l_hall_1.dvs K) (d_l_hall_1.kws K) (He.ga K "_law_hall") fd) : FnOk P w K mg base CX0 3 (He.ga K "_law_hall") fd ["_law_reel_here", "_law_many", "_law_ranks", "_law_longest"] (spN K 4 Sh.l_hall_1) := by
  have H_l_draw_1 := ok_l_draw_1 (P := P) (w := w) (base := base) c X0 G
  have H_l_talks_1 := ok_l_talks_1 (P := P) (w := w) (base := base) c X0 G
  have sc := sc_l_hall_1
  refine fn_ok F sc (by decide) (fun cdv A outer s H E hr => ?_)
  exact (ds_cons (ds_set 4 sc.nd (de_lstO (da_cons de_str (da_cons de_str (da_cons de_str (da_cons de_str (da_cons de_str (da_cons de_str (da_cons de_str (da_cons de_str (da_cons de_str (da_cons de_str da_nil)))))))))))) (ds_cons (ds_set 5 sc.nd (de_lstO da_nil)) (ds_cons (ds_for (vs := [6]) (passes_of rfl) rfl (di_rng1 (by rfl) (He.free_ok X0 G (c.fact 73 (f := .free "range") (by rfl))) (de_callF [] (H_l_draw_1.up (by decide)) hr (He.glo_ok X0 G (c.fact 57 (f := .glo "_law_draw") (by rfl))) (fun _ _ => .nil) (fun _ => passAt0) (da_cons (de_var 0) (da_cons (de_add (de_var 1) de_int) da_nil)) (sCons_len (sCons_len sNil_len)))) (dg_name 6 sc.nd) (ds_cons (ds_set 7 sc.nd (de_ix (de_lst (da_cons de_int (da_cons de_int (da_cons (de_callF [] (H_l_draw_1.up (by decide)) hr (He.glo_ok X0 G (c.fact 57 (f := .glo "_law_draw") (by rfl))) (fun _ _ => .nil) (fun _ => passAt0) (da_cons (de_var 0) (da_cons de_int da_nil)) (sCons_len (sCons_len sNil_len))) (da_cons (de_callF [] (H_l_draw_1.up (by decide)) hr (He.glo_ok X0 G (c.fact 57 (f := .glo "_law_draw") (by rfl))) (fun _ _ => .nil) (fun _ => passAt0) (da_cons (de_var 0) (da_cons de_int da_nil)) (sCons_len (sCons_len sNil_len))) da_nil))))) (de_callF [] (H_l_draw_1.up (by decide)) hr (He.glo_ok X0 G (c.fact 57 (f := .glo "_law_draw") (by rfl))) (fun _ _ => .nil) (fun _ => passAt0) (da_cons (de_var 0) (da_cons de_int da_nil)) (sCons_len (sCons_len sNil_len))))) (ds_cons (ds_set 8 sc.nd (de_callF [] (H_l_talks_1.up (by decide)) hr (He.glo_ok X0 G (c.fact 58 (f := .glo "_law_talks") (by rfl))) (fun _ _ => .nil) (fun _ => passAt0) (da_cons (de_var 0) (da_cons (de_var 7) (da_cons (de_var 3) da_nil))) (sCons_len (sCons_len (sCons_len sNil_len))))) (ds_cons (ds_set 9 sc.nd (de_ix (de_lst (da_cons de_int (da_cons de_int (da_cons (de_add de_int (de_callF [] (H_l_draw_1.up (by decide)) hr (He.glo_ok X0 G (c.fact 57 (f := .glo "_law_draw") (by rfl))) (fun _ _ => .nil) (fun _ => passAt0) (da_cons (de_var 0) (da_cons de_int da_nil)) (sCons_len (sCons_len sNil_len)))) (da_cons (de_add de_int (de_callF [] (H_l_draw_1.up (by decide)) hr (He.glo_ok X0 G (c.fact 57 (f := .glo "_law_draw") (by rfl))) (fun _ _ => .nil) (fun _ => passAt0) (da_cons (de_var 0) (da_cons de_int da_nil)) (sCons_len (sCons_len sNil_len)))) da_nil))))) (de_callF [] (H_l_draw_1.up (by decide)) hr (He.glo_ok X0 G (c.fact 57 (f := .glo "_law_draw") (by rfl))) (fun _ _ => .nil) (fun _ => passAt0) (da_cons (de_var 0) (da_cons de_int da_nil)) (sCons_len (sCons_len sNil_len))))) (ds_cons (ds_set 10 sc.nd (de_callF [] (H_l_talks_1.up (by decide)) hr (He.glo_ok X0 G (c.fact 58 (f := .glo "_law_talks") (by rfl))) (fun _ _ => .nil) (fun _ => passAt0) (da_cons (de_var 0) (da_cons (de_var 9) (da_cons (de_var 3) da_nil))) (sCons_len (sCons_len (sCons_len sNil_len))))) (ds_one (ds_expr (de_append (de_var 5) (de_tup (da_cons (de_popAt (de_var 4) (de_callF [] (H_l_draw_1.up (by decide)) hr (He.glo_ok X0 G (c.fact 57 (f := .glo "_law_draw") (by rfl))) (fun _ _ => .nil) (fun _ => passAt0) (da_cons (de_var 0) (da_cons (de_len (by rfl) (He.free_ok X0 G (c.fact 69 (f := .free "len") (by rfl))) (de_var 4)) da_nil)) (sCons_len (sCons_len sNil_len)))) (da_cons (de_add de_int (de_callF [] (H_l_draw_1.up (by decide)) hr (He.glo_ok X0 G (c.fact 57 (f := .glo "_law_draw") (by rfl))) (fun _ _ => .nil) (fun _ => passAt0) (da_cons (de_var 0) (da_cons (de_var 2) da_nil)) (sCons_len (sCons_len sNil_len)))) (da_cons (de_var 8) (da_cons (de_var 10) da_nil))))))))))))) (ds_one (ds_ret (de_frz (de_var 5)))))))
theorem ok_l_hall_1 (c : He.SaysD fa fn K) (X0 : K.In h) (G : h.Ns mainGlobals mg) : Def P w K mg base CX0 3 (He.ga K "_law_hall") ["_law_reel_here", "_law_many", "_law_ranks", "_law_longest"] [] Sh.l_hall_1 := by
  obtain ⟨fd, F⟩ := c.def_ 31 (d := d_l_hall_1) rfl
  exact ⟨⟨fd, [], okb_l_hall_1 c X0 G F, F.bindsN fun _ _ _ _ _ _ us hl => match us, hl with | [_, _, _, _], _ => rfl, .nil⟩, F.kp⟩
theorem sc_l_multiple : FnScope ["_law_numbers", "_law_found", "_law_number", "_law_one", "_law_other"] ["_law_numbers"] (defScope (top 41)) := ⟨rfl, rfl, rfl, by decide +kernel, rfl, by decide +kernel, by decide +kernel⟩
theorem okb_l_multiple (c : He.SaysD fa fn K) (X0 : K.In h) (G : h.Ns mainGlobals mg) {fd : FuncData} (F : FunD K d_l_multiple.name d_l_multiple.qual d_l_multiple.params d_l_multiple.body d_l_multiple.scope (d_l_multiple.dvs K) (d_l_multiple.kws K) (He.ga K "_law_multiple") fd) : FnOk P w K mg base CX0 1 (He.ga K "_law_multiple") fd ["_law_numbers"] (spN K 1 Sh.l_multiple) := by
  have sc := sc_l_multiple
  refine fn_ok F sc (by decide) (fun cdv A outer s H E hr => ?_)
  exact (ds_cons (ds_set 1 sc.nd de_int) (ds_cons (ds_for (vs := [2]) (passes_of rfl) rfl (di_any (de_var 0)) (dg_name 2 sc.nd) (ds_cons (ds_par (i := 3) (j := 4) rfl sc.nd (da_cons (de_var 1) (da_cons (de_var 2) da_nil))) (ds_cons (ds_whileA (passes_of rfl) (dt_gt (de_var 4) de_int) (ds_one (ds_par (i := 3) (j := 4) rfl sc.nd (da_cons (de_var 4) (da_cons (de_mod (de_var 3) (de_var 4)) da_nil))))) (ds_one (ds_set 1 sc.nd (de_mul (de_div (de_var 1) (de_var 3)) (de_var 2))))))) (ds_one (ds_ret (de_var 1)))))
theorem ok_l_multiple (c : He.SaysD fa fn K) (X0 : K.In h) (G : h.Ns mainGlobals mg) : Def P w K mg base CX0 1 (He.ga K "_law_multiple") ["_law_numbers"] [] Sh.l_multiple := by
  obtain ⟨fd, F⟩ := c.def_ 32 (d := d_l_multiple) rfl
  exact ⟨⟨fd, [], okb_l_multiple c X0 G F, F.bindsN fun _ _ _ _ _ _ us hl => match us, hl with | [_], _ => rfl, .nil⟩, F.kp⟩
theorem sc_l_alone : FnScope ["_law_mates", "_law_silences", "_law_one", "_law_talker", "_law_quiet", "_law_spoken", "_law_silence"] ["_law_mates"] (defScope (top 42)) := ⟨rfl, rfl, rfl, by decide +kernel, rfl, by decide +kernel, by decide +kernel⟩
theorem okb_l_alone (c : He.SaysD fa fn K) (X0 : K.In h) (G : h.Ns mainGlobals mg) {fd : FuncData} (F : FunD K d_l_alone.name d_l_alone.qual d_l_alone.params d_l_alone.body d_l_alone.scope (d_l_alone.dvs K) (d_l_alone.kws K) (He.ga K "_law_alone") fd) : FnOk P w K mg base CX0 2 (He.ga K "_law_alone") fd ["_law_mates"] (spN K 1 Sh.l_alone) := by
  have H_l_multiple := ok_l_multiple (P := P) (w := w) (base := base) c X0 G
  have sc := sc_l_alone
  refine fn_ok F sc (by decide) (fun cdv A outer s H E hr => ?_)
  exact (ds_cons (ds_setLc (X := _) 1 false [("_law_talker", 3)] rfl sc.nd (di_any (de_var 0)) (blkOk_by (by kernel_rfl)) (fun _ _ _ _ _ => (dg_name 3 sc.nd)) (fun _ _ _ _ _ => dts_nil) (fun _ _ _ _ _ => (de_sum rfl (by rfl) (He.free_ok X0 G (c.fact 77 (f := .free "sum") (by rfl))) (de_lc false [("_law_one", 2)] rfl sc.nd (di_any (de_ix (de_var 3) de_int)) (blkOk_by (by kernel_rfl)) (fun _ _ _ _ _ => (dg_name 2 sc.nd)) (fun _ _ _ _ _ => dts_nil) (fun _ _ _ _ _ => (de_ix (de_var 2) de_int))))) (sw_true rfl rfl rfl (by decide +kernel))) (ds_cons (ds_set 4 sc.nd (de_callF [] ((H_l_multiple.up (by decide)).pure) hr (He.glo_ok X0 G (c.fact 60 (f := .glo "_law_multiple") (by rfl))) (fun _ _ => .nil) (fun _ => passAt0) (da_cons (de_var 1) da_nil) (sCons_len sNil_len))) (ds_cons (ds_setLc (X := _) 5 false [("_law_silence", 6), ("_law_talker", 3)] rfl sc.nd (di_zip (by rfl) (He.free_ok X0 G (c.fact 79 (f := .free "zip") (by rfl))) (de_var 1) (de_var 0)) (blkOk_by (by kernel_rfl)) (fun _ _ _ _ _ => (dg_tup (n := 2) rfl (dg_cons (dg_name 6 sc.nd) (dg_cons (dg_name 3 sc.nd) dg_nil)) rfl (pg_tup rfl (dg_cons (dg_name 6 sc.nd) (dg_cons (dg_name 3 sc.nd) dg_nil))) (pg_lst rfl (dg_cons (dg_name 6 sc.nd) (dg_cons (dg_name 3 sc.nd) dg_nil))))) (fun _ _ _ _ _ => dts_nil) (fun _ _ _ _ _ => (de_mul (de_div (de_var 4) (de_var 6)) (de_sum rfl (by rfl) (He.free_ok X0 G (c.fact 77 (f := .free "sum") (by rfl))) (de_lc false [("_law_one", 2)] rfl sc.nd (di_any (de_ix (de_var 3) de_int)) (blkOk_by (by kernel_rfl)) (fun _ _ _ _ _ => (dg_name 2 sc.nd)) (fun _ _ _ _ _ => dts_nil) (fun _ _ _ _ _ => (de_ix (de_var 2) de_int)))))) (sw_true rfl rfl rfl (by decide +kernel))) (ds_one (ds_ret (de_tup (da_cons (de_var 4) (da_cons (de_add (de_var 4) (de_sum rfl (by rfl) (He.free_ok X0 G (c.fact 77 (f := .free "sum") (by rfl))) (de_var 5))) da_nil))))))))
theorem ok_l_alone (c : He.SaysD fa fn K) (X0 : K.In h) (G : h.Ns mainGlobals mg) : Def P w K mg base CX0 2 (He.ga K "_law_alone") ["_law_mates"] [] Sh.l_alone := by
  obtain ⟨fd, F⟩ := c.def_ 33 (d := d_l_alone) rfl
  exact ⟨⟨fd, [], okb_l_alone c X0 G F, F.bindsN fun _ _ _ _ _ _ us hl => match us, hl with | [_], _ => rfl, .nil⟩, F.kp⟩
theorem sc_is_sequence : FnScope ["value"] ["value"] (defScope (top 11)) := ⟨rfl, rfl, rfl, by decide +kernel, rfl, by decide +kernel, by decide +kernel⟩
theorem okb_is_sequence (c : He.SaysD fa fn K) (X0 : K.In h) (G : h.Ns mainGlobals mg) {fd : FuncData} (F : FunD K d_is_sequence.name d_is_sequence.qual d_is_sequence.params d_is_sequence.body d_is_sequence.scope (d_is_sequence.dvs K) (d_is_sequence.kws K) (He.ga K "is_sequence") fd) : FnOk P w K mg base CX0 1 (He.ga K "is_sequence") fd ["value"] (spN K 1 Sh.is_sequence) := by
  have sc := sc_is_sequence
  refine fn_ok F sc (by decide) (fun cdv A outer s H E hr => ?_)
  exact (ds_one (ds_ret (de_isi2 (T1 := "list") (T2 := "tuple") (by simp) (by simp) (by rfl) (He.free_ok X0 G (c.fact 68 (f := .free "isinstance") (by rfl))) (by rfl) (He.free_ok X0 G (c.fact 70 (f := .free "list") (by rfl))) (by decide +kernel) (by rfl) (He.free_ok X0 G (c.fact 78 (f := .free "tuple") (by rfl))) (by decide +kernel) (de_var 0))))
theorem ok_is_sequence (c : He.SaysD fa fn K) (X0 : K.In h) (G : h.Ns mainGlobals mg) : Def P w K mg base CX0 1 (He.ga K "is_sequence") ["value"] [] Sh.is_sequence := by
  obtain ⟨fd, F⟩ := c.def_ 1 (d := d_is_sequence) rfl
  exact ⟨⟨fd, [], okb_is_sequence c X0 G F, F.bindsN fun _ _ _ _ _ _ us hl => match us, hl with | [_], _ => rfl, .nil⟩, F.kp⟩
theorem sc_is_integer : FnScope ["value", "low", "high"] ["value", "low", "high"] (defScope (top 10)) := ⟨rfl, rfl, rfl, by decide +kernel, rfl, by decide +kernel, by decide +kernel⟩
theorem okb_is_integer (c : He.SaysD fa fn K) (X0 : K.In h) (G : h.Ns mainGlobals mg) {fd : FuncData} (F : FunD K d_is_integer.name d_is_integer.qual d_is_integer.params d_is_integer.body d_is_integer.scope (d_is_integer.dvs K) (d_is_integer.kws K) (He.ga K "is_integer") fd) : FnOk P w K mg base CX0 1 (He.ga K "is_integer") fd ["value", "low", "high"] (spN K 3 Sh.is_integer) := by
  have sc := sc_is_integer
  refine fn_ok F sc (by decide) (fun cdv A outer s H E hr => ?_)
  exact (ds_cons (ds_if (DW.dt (dw_or (dt_not (dt_val (de_isi (T := "int") (by simp) (by rfl) (He.free_ok X0 G (c.fact 68 (f := .free "isinstance") (by rfl))) (by rfl) (He.free_ok X0 G (c.fact 67 (f := .free "int") (by rfl))) (by decide +kernel) (de_var 0)))) (dw_or1 (dt_val (de_isi (T := "bool") (by simp) (by rfl) (He.free_ok X0 G (c.fact 68 (f := .free "isinstance") (by rfl))) (by rfl) (He.free_ok X0 G (c.fact 65 (f := .free "bool") (by rfl))) (by decide +kernel) (de_var 0)))))) (ds_one (ds_ret de_bl)) ds_nil) (ds_one (ds_ret (de_and (de_ge (de_var 0) (de_var 1)) (de_one (de_or (de_is (de_var 2) de_non) (de_one (de_le (de_var 0) (de_var 2)))))))))
theorem ok_is_integer (c : He.SaysD fa fn K) (X0 : K.In h) (G : h.Ns mainGlobals mg) : Def P w K mg base CX0 1 (He.ga K "is_integer") ["value", "low", "high"] [.non] Sh.is_integer := by
  obtain ⟨fd, F⟩ := c.def_ 0 (d := d_is_integer) rfl
  obtain ⟨dus, hd, hb⟩ := F.binds1 (ps := ["value", "low", "high"]) 2 0 (by simp [He.DefD.dvs, d_is_integer]) (by rfl) (fun T kV doc pm an cdv ct us its l1 l2 => match us, its, l1, l2 with | [_, _], [_], _, _ => ⟨_, rfl, rfl⟩)
  exact ⟨⟨fd, dus, okb_is_integer c X0 G F, hb, hd⟩, F.kp⟩
theorem ok_is_integer_all (c : He.SaysD fa fn K) (X0 : K.In h) (G : h.Ns mainGlobals mg) : Def P w K mg base CX0 1 (He.ga K "is_integer") ["value", "low", "high"] [] Sh.is_integer := by
  obtain ⟨fd, F⟩ := c.def_ 0 (d := d_is_integer) rfl
  obtain ⟨dus, hd, hb⟩ := F.binds1 (ps := ["value", "low", "high"]) 3 1 (by simp [He.DefD.dvs, d_is_integer]) (by rfl) (fun T kV doc pm an cdv ct us its l1 l2 => match us, its, l1, l2 with | [_, _, _], [_], _, _ => ⟨_, rfl, rfl⟩)
  exact ⟨⟨fd, dus, okb_is_integer c X0 G F, hb, hd⟩, F.kp⟩
theorem sc_is_talk : FnScope ["value", "part"] ["value"] (defScope (top 13)) := ⟨rfl, rfl, rfl, by decide +kernel, rfl, by decide +kernel, by decide +kernel⟩
theorem okb_is_talk (c : He.SaysD fa fn K) (X0 : K.In h) (G : h.Ns mainGlobals mg) {fd : FuncData} (F : FunD K d_is_talk.name d_is_talk.qual d_is_talk.params d_is_talk.body d_is_talk.scope (d_is_talk.dvs K) (d_is_talk.kws K) (He.ga K "is_talk") fd) : FnOk P w K mg base CX0 2 (He.ga K "is_talk") fd ["value"] (spN K 1 Sh.is_talk) := by
  have H_is_integer := ok_is_integer (P := P) (w := w) (base := base) c X0 G
  have H_is_integer_all := ok_is_integer_all (P := P) (w := w) (base := base) c X0 G
  have H_is_sequence := ok_is_sequence (P := P) (w := w) (base := base) c X0 G
  have sc := sc_is_talk
  refine fn_ok F sc (by decide) (fun cdv A outer s H E hr => ?_)
  exact (ds_one (ds_ret (de_and (de_callF [] ((H_is_sequence.up (by decide)).pure) hr (He.glo_ok X0 G (c.fact 11 (f := .glo "is_sequence") (by rfl))) (fun _ _ => .nil) (fun _ => passAt0) (da_cons (de_var 0) da_nil) (sCons_len sNil_len)) (de_and (de_eq (hu_ hr) (de_len (by rfl) (He.free_ok X0 G (c.fact 69 (f := .free "len") (by rfl))) (de_var 0)) de_int) (de_one (de_all rfl (by rfl) (He.free_ok X0 G (c.fact 64 (f := .free "all") (by rfl))) (de_lc false [("part", 1)] rfl sc.nd (di_any (de_var 0)) (blkOk_by (by kernel_rfl)) (fun _ _ _ _ _ => (dg_name 1 sc.nd)) (fun _ _ _ _ _ => dts_nil) (fun _ _ _ _ _ => (de_callF [] ((H_is_integer_all.up (by decide)).pure) hr (He.glo_ok X0 G (c.fact 10 (f := .glo "is_integer") (by rfl))) (fun _ _ => .nil) (fun _ => passAt0) (da_cons (de_var 1) (da_cons de_int (da_cons (de_globI (by rfl) (He.int_ok X0 G (c.fact 6 (f := .int "MAX_TIME" (1000000000000000000000000000000)) (by rfl)))) da_nil))) (sCons_len (sCons_len (sCons_len sNil_len))))))))))))
theorem ok_is_talk (c : He.SaysD fa fn K) (X0 : K.In h) (G : h.Ns mainGlobals mg) : Def P w K mg base CX0 2 (He.ga K "is_talk") ["value"] [] Sh.is_talk := by
  obtain ⟨fd, F⟩ := c.def_ 3 (d := d_is_talk) rfl
  exact ⟨⟨fd, [], okb_is_talk c X0 G F, F.bindsN fun _ _ _ _ _ _ us hl => match us, hl with | [_], _ => rfl, .nil⟩, F.kp⟩
theorem sc_are_talks : FnScope ["value", "least", "one"] ["value", "least"] (defScope (top 14)) := ⟨rfl, rfl, rfl, by decide +kernel, rfl, by decide +kernel, by decide +kernel⟩
theorem okb_are_talks (c : He.SaysD fa fn K) (X0 : K.In h) (G : h.Ns mainGlobals mg) {fd : FuncData} (F : FunD K d_are_talks.name d_are_talks.qual d_are_talks.params d_are_talks.body d_are_talks.scope (d_are_talks.dvs K) (d_are_talks.kws K) (He.ga K "are_talks") fd) : FnOk P w K mg base CX0 3 (He.ga K "are_talks") fd ["value", "least"] (spN K 2 Sh.are_talks) := by
  have H_is_talk := ok_is_talk (P := P) (w := w) (base := base) c X0 G
  have H_is_sequence := ok_is_sequence (P := P) (w := w) (base := base) c X0 G
  have sc := sc_are_talks
  refine fn_ok F sc (by decide) (fun cdv A outer s H E hr => ?_)
  exact (ds_one (ds_ret (de_and (de_callF [] ((H_is_sequence.up (by decide)).pure) hr (He.glo_ok X0 G (c.fact 11 (f := .glo "is_sequence") (by rfl))) (fun _ _ => .nil) (fun _ => passAt0) (da_cons (de_var 0) da_nil) (sCons_len sNil_len)) (de_and (de_lele (de_var 1) (de_len (by rfl) (He.free_ok X0 G (c.fact 69 (f := .free "len") (by rfl))) (de_var 0)) (de_globI (by rfl) (He.int_ok X0 G (c.fact 8 (f := .int "MAX_TALKS" (8)) (by rfl))))) (de_one (de_all rfl (by rfl) (He.free_ok X0 G (c.fact 64 (f := .free "all") (by rfl))) (de_lc false [("one", 2)] rfl sc.nd (di_any (de_var 0)) (blkOk_by (by kernel_rfl)) (fun _ _ _ _ _ => (dg_name 2 sc.nd)) (fun _ _ _ _ _ => dts_nil) (fun _ _ _ _ _ => (de_callF [] ((H_is_talk.up (by decide)).pure) hr (He.glo_ok X0 G (c.fact 13 (f := .glo "is_talk") (by rfl))) (fun _ _ => .nil) (fun _ => passAt0) (da_cons (de_var 2) da_nil) (sCons_len sNil_len))))))))))
theorem ok_are_talks (c : He.SaysD fa fn K) (X0 : K.In h) (G : h.Ns mainGlobals mg) : Def P w K mg base CX0 3 (He.ga K "are_talks") ["value", "least"] [] Sh.are_talks := by
  obtain ⟨fd, F⟩ := c.def_ 4 (d := d_are_talks) rfl
  exact ⟨⟨fd, [], okb_are_talks c X0 G F, F.bindsN fun _ _ _ _ _ _ us hl => match us, hl with | [_, _], _ => rfl, .nil⟩, F.kp⟩
theorem sc_is_name : FnScope ["value", "sign"] ["value"] (defScope (top 12)) := ⟨rfl, rfl, rfl, by decide +kernel, rfl, by decide +kernel, by decide +kernel⟩
theorem okb_is_name (c : He.SaysD fa fn K) (X0 : K.In h) (G : h.Ns mainGlobals mg) {fd : FuncData} (F : FunD K d_is_name.name d_is_name.qual d_is_name.params d_is_name.body d_is_name.scope (d_is_name.dvs K) (d_is_name.kws K) (He.ga K "is_name") fd) : FnOk P w K mg base CX0 1 (He.ga K "is_name") fd ["value"] (spN K 1 Sh.is_name) := by
  have sc := sc_is_name
  refine fn_ok F sc (by decide) (fun cdv A outer s H E hr => ?_)
  exact (ds_one (ds_ret (de_and (de_isi (T := "str") (by simp) (by rfl) (He.free_ok X0 G (c.fact 68 (f := .free "isinstance") (by rfl))) (by rfl) (He.free_ok X0 G (c.fact 76 (f := .free "str") (by rfl))) (by decide +kernel) (de_var 0)) (de_and (de_lele de_int (de_len (by rfl) (He.free_ok X0 G (c.fact 69 (f := .free "len") (by rfl))) (de_var 0)) (de_globI (by rfl) (He.int_ok X0 G (c.fact 5 (f := .int "MAX_NAME" (8)) (by rfl))))) (de_one (de_all rfl (by rfl) (He.free_ok X0 G (c.fact 64 (f := .free "all") (by rfl))) (de_lc false [("sign", 1)] rfl sc.nd (di_any (de_var 0)) (blkOk_by (by kernel_rfl)) (fun _ _ _ _ _ => (dg_name 1 sc.nd)) (fun _ _ _ _ _ => dts_nil) (fun _ _ _ _ _ => (de_inS (de_var 1) (de_globS (by rfl) (He.str_ok X0 G (c.fact 4 (f := .str "LETTERS" "abcdefghijklmnopqrstuvwxyz") (by rfl)))))))))))))
theorem ok_is_name (c : He.SaysD fa fn K) (X0 : K.In h) (G : h.Ns mainGlobals mg) : Def P w K mg base CX0 1 (He.ga K "is_name") ["value"] [] Sh.is_name := by
  obtain ⟨fd, F⟩ := c.def_ 2 (d := d_is_name) rfl
  exact ⟨⟨fd, [], okb_is_name c X0 G F, F.bindsN fun _ _ _ _ _ _ us hl => match us, hl with | [_], _ => rfl, .nil⟩, F.kp⟩
theorem sc_is_talker : FnScope ["value"] ["value"] (defScope (top 15)) := ⟨rfl, rfl, rfl, by decide +kernel, rfl, by decide +kernel, by decide +kernel⟩
theorem okb_is_talker (c : He.SaysD fa fn K) (X0 : K.In h) (G : h.Ns mainGlobals mg) {fd : FuncData} (F : FunD K d_is_talker.name d_is_talker.qual d_is_talker.params d_is_talker.body d_is_talker.scope (d_is_talker.dvs K) (d_is_talker.kws K) (He.ga K "is_talker") fd) : FnOk P w K mg base CX0 4 (He.ga K "is_talker") fd ["value"] (spN K 1 Sh.is_talker) := by
  have H_is_name := ok_is_name (P := P) (w := w) (base := base) c X0 G
  have H_is_sequence := ok_is_sequence (P := P) (w := w) (base := base) c X0 G
  have H_are_talks := ok_are_talks (P := P) (w := w) (base := base) c X0 G
  have H_is_integer := ok_is_integer (P := P) (w := w) (base := base) c X0 G
  have H_is_integer_all := ok_is_integer_all (P := P) (w := w) (base := base) c X0 G
  have sc := sc_is_talker
  refine fn_ok F sc (by decide) (fun cdv A outer s H E hr => ?_)
  exact (ds_cons (ds_if (DW.dt (dw_or (dt_not (dt_val (de_callF [] ((H_is_sequence.up (by decide)).pure) hr (He.glo_ok X0 G (c.fact 11 (f := .glo "is_sequence") (by rfl))) (fun _ _ => .nil) (fun _ => passAt0) (da_cons (de_var 0) da_nil) (sCons_len sNil_len)))) (dw_or (dt_ne (hu_ hr) (de_len (by rfl) (He.free_ok X0 G (c.fact 69 (f := .free "len") (by rfl))) (de_var 0)) de_int) (dw_or1 (dt_not (dt_val (de_callF [] ((H_is_name.up (by decide)).pure) hr (He.glo_ok X0 G (c.fact 12 (f := .glo "is_name") (by rfl))) (fun _ _ => .nil) (fun _ => passAt0) (da_cons (de_ix (de_var 0) de_int) da_nil) (sCons_len sNil_len)))))))) (ds_one (ds_ret de_bl)) ds_nil) (ds_one (ds_ret (de_and (de_callF [] ((H_is_integer_all.up (by decide)).pure) hr (He.glo_ok X0 G (c.fact 10 (f := .glo "is_integer") (by rfl))) (fun _ _ => .nil) (fun _ => passAt0) (da_cons (de_ix (de_var 0) de_int) (da_cons de_int (da_cons (de_globI (by rfl) (He.int_ok X0 G (c.fact 7 (f := .int "MAX_RANK" (10)) (by rfl)))) da_nil))) (sCons_len (sCons_len (sCons_len sNil_len)))) (de_and (de_callF [] ((H_are_talks.up (by decide)).pure) hr (He.glo_ok X0 G (c.fact 14 (f := .glo "are_talks") (by rfl))) (fun _ _ => .nil) (fun _ => passAt0) (da_cons (de_ix (de_var 0) de_int) (da_cons de_int da_nil)) (sCons_len (sCons_len sNil_len))) (de_one (de_callF [] ((H_are_talks.up (by decide)).pure) hr (He.glo_ok X0 G (c.fact 14 (f := .glo "are_talks") (by rfl))) (fun _ _ => .nil) (fun _ => passAt0) (da_cons (de_ix (de_var 0) de_int) (da_cons de_int da_nil)) (sCons_len (sCons_len sNil_len)))))))))
theorem ok_is_talker (c : He.SaysD fa fn K) (X0 : K.In h) (G : h.Ns mainGlobals mg) : Def P w K mg base CX0 4 (He.ga K "is_talker") ["value"] [] Sh.is_talker := by
  obtain ⟨fd, F⟩ := c.def_ 5 (d := d_is_talker) rfl
  exact ⟨⟨fd, [], okb_is_talker c X0 G F, F.bindsN fun _ _ _ _ _ _ us hl => match us, hl with | [_], _ => rfl, .nil⟩, F.kp⟩
theorem sc_is_hall : FnScope ["value", "one"] ["value"] (defScope (top 16)) := ⟨rfl, rfl, rfl, by decide +kernel, rfl, by decide +kernel, by decide +kernel⟩
theorem okb_is_hall (c : He.SaysD fa fn K) (X0 : K.In h) (G : h.Ns mainGlobals mg) {fd : FuncData} (F : FunD K d_is_hall.name d_is_hall.qual d_is_hall.params d_is_hall.body d_is_hall.scope (d_is_hall.dvs K) (d_is_hall.kws K) (He.ga K "is_hall") fd) : FnOk P w K mg base CX0 5 (He.ga K "is_hall") fd ["value"] (spN K 1 Sh.is_hall) := by
  have H_is_talker := ok_is_talker (P := P) (w := w) (base := base) c X0 G
  have H_is_sequence := ok_is_sequence (P := P) (w := w) (base := base) c X0 G
  have sc := sc_is_hall
  refine fn_ok F sc (by decide) (fun cdv A outer s H E hr => ?_)
  exact (ds_cons (ds_if (DW.dt (dw_or (dt_not (dt_val (de_callF [] ((H_is_sequence.up (by decide)).pure) hr (He.glo_ok X0 G (c.fact 11 (f := .glo "is_sequence") (by rfl))) (fun _ _ => .nil) (fun _ => passAt0) (da_cons (de_var 0) da_nil) (sCons_len sNil_len)))) (dw_or (dt_gt (de_len (by rfl) (He.free_ok X0 G (c.fact 69 (f := .free "len") (by rfl))) (de_var 0)) (de_globI (by rfl) (He.int_ok X0 G (c.fact 9 (f := .int "MAX_TALKERS" (10)) (by rfl))))) (dw_or1 (dt_not (dt_val (de_all rfl (by rfl) (He.free_ok X0 G (c.fact 64 (f := .free "all") (by rfl))) (de_lc false [("one", 1)] rfl sc.nd (di_any (de_var 0)) (blkOk_by (by kernel_rfl)) (fun _ _ _ _ _ => (dg_name 1 sc.nd)) (fun _ _ _ _ _ => dts_nil) (fun _ _ _ _ _ => (de_callF [] ((H_is_talker.up (by decide)).pure) hr (He.glo_ok X0 G (c.fact 15 (f := .glo "is_talker") (by rfl))) (fun _ _ => .nil) (fun _ => passAt0) (da_cons (de_var 1) da_nil) (sCons_len sNil_len))))))))))) (ds_one (ds_ret de_bl)) ds_nil) (ds_one (ds_ret (de_eq (hu_ hr) (de_lenset rfl (by rfl) (He.free_ok X0 G (c.fact 69 (f := .free "len") (by rfl))) (by rfl) (He.free_ok X0 G (c.fact 74 (f := .free "set") (by rfl))) (de_lc false [("one", 1)] rfl sc.nd (di_any (de_var 0)) (blkOk_by (by kernel_rfl)) (fun _ _ _ _ _ => (dg_name 1 sc.nd)) (fun _ _ _ _ _ => dts_nil) (fun _ _ _ _ _ => (de_ix (de_var 1) de_int)))) (de_len (by rfl) (He.free_ok X0 G (c.fact 69 (f := .free "len") (by rfl))) (de_var 0))))))
theorem ok_is_hall (c : He.SaysD fa fn K) (X0 : K.In h) (G : h.Ns mainGlobals mg) : Def P w K mg base CX0 5 (He.ga K "is_hall") ["value"] [] Sh.is_hall := by
  obtain ⟨fd, F⟩ := c.def_ 6 (d := d_is_hall) rfl
  exact ⟨⟨fd, [], okb_is_hall c X0 G F, F.bindsN fun _ _ _ _ _ _ us hl => match us, hl with | [_], _ => rfl, .nil⟩, F.kp⟩
theorem sc_running_sums : FnScope ["numbers", "found", "number"] ["numbers"] (defScope (top 17)) := ⟨rfl, rfl, rfl, by decide +kernel, rfl, by decide +kernel, by decide +kernel⟩
theorem okb_running_sums (c : He.SaysD fa fn K) (X0 : K.In h) (G : h.Ns mainGlobals mg) {fd : FuncData} (F : FunD K d_running_sums.name d_running_sums.qual d_running_sums.params d_running_sums.body d_running_sums.scope (d_running_sums.dvs K) (d_running_sums.kws K) (He.ga K "running_sums") fd) : FnOk P w K mg base CX0 1 (He.ga K "running_sums") fd ["numbers"] (spN K 1 Sh.running_sums) := by
  have sc := sc_running_sums
  refine fn_ok F sc (by decide) (fun cdv A outer s H E hr => ?_)
  exact (ds_cons (ds_set 1 sc.nd (de_lstO (da_cons de_int da_nil))) (ds_cons (ds_for (vs := [2]) (passes_of rfl) rfl (di_any (de_var 0)) (dg_name 2 sc.nd) (ds_one (ds_expr (de_append (de_var 1) (de_add (de_ix (de_var 1) (de_neg de_int)) (de_var 2)))))) (ds_one (ds_ret (de_frz (de_var 1))))))
theorem ok_running_sums (c : He.SaysD fa fn K) (X0 : K.In h) (G : h.Ns mainGlobals mg) : Def P w K mg base CX0 1 (He.ga K "running_sums") ["numbers"] [] Sh.running_sums := by
  obtain ⟨fd, F⟩ := c.def_ 7 (d := d_running_sums) rfl
  exact ⟨⟨fd, [], okb_running_sums c X0 G F, F.bindsN fun _ _ _ _ _ _ us hl => match us, hl with | [_], _ => rfl, .nil⟩, F.kp⟩
theorem sc_Schedule_init : FnScope ["self", "prefix", "cycle", "one"] ["self", "prefix", "cycle"] (defScope (inClass (top 18) 0)) := ⟨rfl, rfl, rfl, by decide +kernel, rfl, by decide +kernel, by decide +kernel⟩
theorem okb_Schedule_init (c : He.SaysD fa fn K) (X0 : K.In h) (G : h.Ns mainGlobals mg) {fd : FuncData} (F : FunD K d_Schedule_init.name d_Schedule_init.qual d_Schedule_init.params d_Schedule_init.body d_Schedule_init.scope (d_Schedule_init.dvs K) (d_Schedule_init.kws K) (He.ma K (He.ga K "Schedule") "__init__") fd) : FnOk P w K mg base CX0 2 (He.ma K (He.ga K "Schedule") "__init__") fd ["self", "prefix", "cycle"] (spN K 3 Sh.Schedule_init) := by
  have H_running_sums := ok_running_sums (P := P) (w := w) (base := base) c X0 G
  have sc := sc_Schedule_init
  refine fn_ok F sc (by decide) (fun cdv A outer s H E hr => ?_)
  exact (ds_cons (ds_fld (C := "Schedule") (f := "prefix") (He.noat_ok (c.fact 21 (f := .noat "Schedule" "prefix") (by rfl))) (de_var 0) (de_lc false [("one", 3)] rfl sc.nd (di_any (de_var 1)) (blkOk_by (by kernel_rfl)) (fun _ _ _ _ _ => (dg_name 3 sc.nd)) (fun _ _ _ _ _ => dts_nil) (fun _ _ _ _ _ => (de_tuple (by rfl) (He.free_ok X0 G (c.fact 78 (f := .free "tuple") (by rfl))) (de_var 3))))) (ds_cons (ds_fld (C := "Schedule") (f := "cycle") (He.noat_ok (c.fact 22 (f := .noat "Schedule" "cycle") (by rfl))) (de_var 0) (de_lc false [("one", 3)] rfl sc.nd (di_any (de_var 2)) (blkOk_by (by kernel_rfl)) (fun _ _ _ _ _ => (dg_name 3 sc.nd)) (fun _ _ _ _ _ => dts_nil) (fun _ _ _ _ _ => (de_tuple (by rfl) (He.free_ok X0 G (c.fact 78 (f := .free "tuple") (by rfl))) (de_var 3))))) (ds_cons (ds_fld (C := "Schedule") (f := "prefix_silences") (He.noat_ok (c.fact 23 (f := .noat "Schedule" "prefix_silences") (by rfl))) (de_var 0) (de_callF [] ((H_running_sums.up (by decide)).pure) hr (He.glo_ok X0 G (c.fact 17 (f := .glo "running_sums") (by rfl))) (fun _ _ => .nil) (fun _ => passAt0) (da_cons (de_lc false [("one", 3)] rfl sc.nd (di_any (de_fld (f := "prefix") (de_var 0))) (blkOk_by (by kernel_rfl)) (fun _ _ _ _ _ => (dg_name 3 sc.nd)) (fun _ _ _ _ _ => dts_nil) (fun _ _ _ _ _ => (de_ix (de_var 3) de_int))) da_nil) (sCons_len sNil_len))) (ds_cons (ds_fld (C := "Schedule") (f := "prefix_lengths") (He.noat_ok (c.fact 24 (f := .noat "Schedule" "prefix_lengths") (by rfl))) (de_var 0) (de_callF [] ((H_running_sums.up (by decide)).pure) hr (He.glo_ok X0 G (c.fact 17 (f := .glo "running_sums") (by rfl))) (fun _ _ => .nil) (fun _ => passAt0) (da_cons (de_lc false [("one", 3)] rfl sc.nd (di_any (de_fld (f := "prefix") (de_var 0))) (blkOk_by (by kernel_rfl)) (fun _ _ _ _ _ => (dg_name 3 sc.nd)) (fun _ _ _ _ _ => dts_nil) (fun _ _ _ _ _ => (de_ix (de_var 3) de_int))) da_nil) (sCons_len sNil_len))) (ds_cons (ds_fld (C := "Schedule") (f := "cycle_silences") (He.noat_ok (c.fact 25 (f := .noat "Schedule" "cycle_silences") (by rfl))) (de_var 0) (de_callF [] ((H_running_sums.up (by decide)).pure) hr (He.glo_ok X0 G (c.fact 17 (f := .glo "running_sums") (by rfl))) (fun _ _ => .nil) (fun _ => passAt0) (da_cons (de_lc false [("one", 3)] rfl sc.nd (di_any (de_fld (f := "cycle") (de_var 0))) (blkOk_by (by kernel_rfl)) (fun _ _ _ _ _ => (dg_name 3 sc.nd)) (fun _ _ _ _ _ => dts_nil) (fun _ _ _ _ _ => (de_ix (de_var 3) de_int))) da_nil) (sCons_len sNil_len))) (ds_one (ds_fld (C := "Schedule") (f := "cycle_lengths") (He.noat_ok (c.fact 26 (f := .noat "Schedule" "cycle_lengths") (by rfl))) (de_var 0) (de_callF [] ((H_running_sums.up (by decide)).pure) hr (He.glo_ok X0 G (c.fact 17 (f := .glo "running_sums") (by rfl))) (fun _ _ => .nil) (fun _ => passAt0) (da_cons (de_lc false [("one", 3)] rfl sc.nd (di_any (de_fld (f := "cycle") (de_var 0))) (blkOk_by (by kernel_rfl)) (fun _ _ _ _ _ => (dg_name 3 sc.nd)) (fun _ _ _ _ _ => dts_nil) (fun _ _ _ _ _ => (de_ix (de_var 3) de_int))) da_nil) (sCons_len sNil_len)))))))))
theorem ok_Schedule_init (c : He.SaysD fa fn K) (X0 : K.In h) (G : h.Ns mainGlobals mg) : Def P w K mg base CX0 2 (He.ma K (He.ga K "Schedule") "__init__") ["self", "prefix", "cycle"] [] Sh.Schedule_init := by
  obtain ⟨fd, F⟩ := c.def_ 8 (d := d_Schedule_init) rfl
  exact ⟨⟨fd, [], okb_Schedule_init c X0 G F, F.bindsN fun _ _ _ _ _ _ us hl => match us, hl with | [_, _, _], _ => rfl, .nil⟩, F.kp⟩
theorem sc_Member_init : FnScope ["self", "talker"] ["self", "talker"] (defScope (inClass (top 19) 0)) := ⟨rfl, rfl, rfl, by decide +kernel, rfl, by decide +kernel, by decide +kernel⟩
theorem okb_Member_init (c : He.SaysD fa fn K) (X0 : K.In h) (G : h.Ns mainGlobals mg) {fd : FuncData} (F : FunD K d_Member_init.name d_Member_init.qual d_Member_init.params d_Member_init.body d_Member_init.scope (d_Member_init.dvs K) (d_Member_init.kws K) (He.ma K (He.ga K "Member") "__init__") fd) : FnOk P w K mg base CX0 4 (He.ma K (He.ga K "Member") "__init__") fd ["self", "talker"] (spN K 2 Sh.Member_init) := by
  have H_Schedule_init := ok_Schedule_init (P := P) (w := w) (base := base) c X0 G
  have sc := sc_Member_init
  refine fn_ok F sc (by decide) (fun cdv A outer s H E hr => ?_)
  exact (ds_cons (ds_fld (C := "Member") (f := "name") (He.noat_ok (c.fact 35 (f := .noat "Member" "name") (by rfl))) (de_var 0) (de_ix (de_var 1) de_int)) (ds_cons (ds_fld (C := "Member") (f := "rank") (He.noat_ok (c.fact 36 (f := .noat "Member" "rank") (by rfl))) (de_var 0) (de_ix (de_var 1) de_int)) (ds_one (ds_fld (C := "Member") (f := "schedule") (He.noat_ok (c.fact 37 (f := .noat "Member" "schedule") (by rfl))) (de_var 0) (de_makeF (C := "Schedule") (He.mkr_ok (c.fact 20 (f := .mkr "Schedule") (by rfl))) (He.cls_ok (c.fact 19 (f := .cls "Schedule") (by rfl))) H_Schedule_init (hr.mono (by decide)) (He.glo_ok X0 G (c.fact 18 (f := .glo "Schedule") (by rfl))) (da_cons (de_ix (de_var 1) de_int) (da_cons (de_ix (de_var 1) de_int) da_nil)) (sCons_len (sCons_len sNil_len)))))))
theorem ok_Member_init (c : He.SaysD fa fn K) (X0 : K.In h) (G : h.Ns mainGlobals mg) : Def P w K mg base CX0 4 (He.ma K (He.ga K "Member") "__init__") ["self", "talker"] [] Sh.Member_init := by
  obtain ⟨fd, F⟩ := c.def_ 14 (d := d_Member_init) rfl
  exact ⟨⟨fd, [], okb_Member_init c X0 G F, F.bindsN fun _ _ _ _ _ _ us hl => match us, hl with | [_, _], _ => rfl, .nil⟩, F.kp⟩
theorem sc_checked_hall : FnScope ["hall", "talker"] ["hall"] (defScope (top 20)) := ⟨rfl, rfl, rfl, by decide +kernel, rfl, by decide +kernel, by decide +kernel⟩
theorem okb_checked_hall (c : He.SaysD fa fn K) (X0 : K.In h) (G : h.Ns mainGlobals mg) {fd : FuncData} (F : FunD K d_checked_hall.name d_checked_hall.qual d_checked_hall.params d_checked_hall.body d_checked_hall.scope (d_checked_hall.dvs K) (d_checked_hall.kws K) (He.ga K "checked_hall") fd) : FnOk P w K mg base (L2.CX P w) 6 (He.ga K "checked_hall") fd ["hall"] (spN K 1 Sh.checked_hall) := by
  have H_is_hall := ok_is_hall (P := P) (w := w) (base := base) c X0 G
  have H_Member_init := ok_Member_init (P := P) (w := w) (base := base) c X0 G
  have sc := sc_checked_hall
  refine fn_ok F sc (by decide) (fun cdv A outer s H E hr => ?_)
  exact (ds_cons (ds_if (dt_not (dt_val (de_callF [] ((H_is_hall.up (by decide)).pure) hr (He.glo_ok X0 G (c.fact 16 (f := .glo "is_hall") (by rfl))) (fun _ _ => .nil) (fun _ => passAt0) (da_cons (de_var 0) da_nil) (sCons_len sNil_len)))) (ds_one (ds_raise (C := "InvalidHall") (takes_of rfl rfl rfl rfl) rfl (He.exc_ok (c.fact 3 (f := .exc "InvalidHall") (by rfl))).1 (He.exc_ok (c.fact 3 (f := .exc "InvalidHall") (by rfl))).2.1 (He.exc_ok (c.fact 3 (f := .exc "InvalidHall") (by rfl))).2.2.1 (He.exc_ok (c.fact 3 (f := .exc "InvalidHall") (by rfl))).2.2.2 (He.glo_ok X0 G (c.fact 2 (f := .glo "InvalidHall") (by rfl))) (by rfl))) ds_nil) (ds_one (ds_ret (de_lc false [("talker", 1)] rfl sc.nd (di_any (de_var 0)) (blkOk_by (by kernel_rfl)) (fun _ _ _ _ _ => (dg_name 1 sc.nd)) (fun _ _ _ _ _ => dts_nil) (fun _ _ _ _ _ => (de_makeF (C := "Member") (He.mkr_ok (c.fact 34 (f := .mkr "Member") (by rfl))) (He.cls_ok (c.fact 33 (f := .cls "Member") (by rfl))) H_Member_init (hr.mono (by decide)) (He.glo_ok X0 G (c.fact 32 (f := .glo "Member") (by rfl))) (da_cons (de_var 1) da_nil) (sCons_len sNil_len)))))))
theorem ok_checked_hall (c : He.SaysD fa fn K) (X0 : K.In h) (G : h.Ns mainGlobals mg) : Def P w K mg base (L2.CX P w) 6 (He.ga K "checked_hall") ["hall"] [] Sh.checked_hall := by
  obtain ⟨fd, F⟩ := c.def_ 15 (d := d_checked_hall) rfl
  exact ⟨⟨fd, [], okb_checked_hall c X0 G F, F.bindsN fun _ _ _ _ _ _ us hl => match us, hl with | [_], _ => rfl, .nil⟩, F.kp⟩
theorem sc_common_divisor : FnScope ["one", "other"] ["one", "other"] (defScope (top 30)) := ⟨rfl, rfl, rfl, by decide +kernel, rfl, by decide +kernel, by decide +kernel⟩
theorem okb_common_divisor (c : He.SaysD fa fn K) (X0 : K.In h) (G : h.Ns mainGlobals mg) {fd : FuncData} (F : FunD K d_common_divisor.name d_common_divisor.qual d_common_divisor.params d_common_divisor.body d_common_divisor.scope (d_common_divisor.dvs K) (d_common_divisor.kws K) (He.ga K "common_divisor") fd) : FnOk P w K mg base CX0 1 (He.ga K "common_divisor") fd ["one", "other"] (spN K 2 Sh.common_divisor) := by
  have sc := sc_common_divisor
  refine fn_ok F sc (by decide) (fun cdv A outer s H E hr => ?_)
  exact (ds_cons (ds_whileA (passes_of rfl) (dt_gt (de_var 1) de_int) (ds_one (ds_par (i := 0) (j := 1) rfl sc.nd (da_cons (de_var 1) (da_cons (de_mod (de_var 0) (de_var 1)) da_nil))))) (ds_one (ds_ret (de_var 0))))
theorem ok_common_divisor (c : He.SaysD fa fn K) (X0 : K.In h) (G : h.Ns mainGlobals mg) : Def P w K mg base CX0 1 (He.ga K "common_divisor") ["one", "other"] [] Sh.common_divisor := by
  obtain ⟨fd, F⟩ := c.def_ 21 (d := d_common_divisor) rfl
  exact ⟨⟨fd, [], okb_common_divisor c X0 G F, F.bindsN fun _ _ _ _ _ _ us hl => match us, hl with | [_, _], _ => rfl, .nil⟩, F.kp⟩
theorem sc_common_multiple : FnScope ["one", "other"] ["one", "other"] (defScope (top 31)) := ⟨rfl, rfl, rfl, by decide +kernel, rfl, by decide +kernel, by decide +kernel⟩
theorem okb_common_multiple (c : He.SaysD fa fn K) (X0 : K.In h) (G : h.Ns mainGlobals mg) {fd : FuncData} (F : FunD K d_common_multiple.name d_common_multiple.qual d_common_multiple.params d_common_multiple.body d_common_multiple.scope (d_common_multiple.dvs K) (d_common_multiple.kws K) (He.ga K "common_multiple") fd) : FnOk P w K mg base CX0 2 (He.ga K "common_multiple") fd ["one", "other"] (spN K 2 Sh.common_multiple) := by
  have H_common_divisor := ok_common_divisor (P := P) (w := w) (base := base) c X0 G
  have sc := sc_common_multiple
  refine fn_ok F sc (by decide) (fun cdv A outer s H E hr => ?_)
  exact (ds_one (ds_ret (de_mul (de_div (de_var 0) (de_callF [] ((H_common_divisor.up (by decide)).pure) hr (He.glo_ok X0 G (c.fact 44 (f := .glo "common_divisor") (by rfl))) (fun _ _ => .nil) (fun _ => passAt0) (da_cons (de_var 0) (da_cons (de_var 1) da_nil)) (sCons_len (sCons_len sNil_len)))) (de_var 1))))
theorem ok_common_multiple (c : He.SaysD fa fn K) (X0 : K.In h) (G : h.Ns mainGlobals mg) : Def P w K mg base CX0 2 (He.ga K "common_multiple") ["one", "other"] [] Sh.common_multiple := by
  obtain ⟨fd, F⟩ := c.def_ 22 (d := d_common_multiple) rfl
  exact ⟨⟨fd, [], okb_common_multiple c X0 G F, F.bindsN fun _ _ _ _ _ _ us hl => match us, hl with | [_, _], _ => rfl, .nil⟩, F.kp⟩
theorem sc_RankCycle_spoken_by : FnScope ["self", "member"] ["self", "member"] (defScope (inClass (top 32) 1)) := ⟨rfl, rfl, rfl, by decide +kernel, rfl, by decide +kernel, by decide +kernel⟩
theorem okb_RankCycle_spoken_by (c : He.SaysD fa fn K) (X0 : K.In h) (G : h.Ns mainGlobals mg) {fd : FuncData} (F : FunD K d_RankCycle_spoken_by.name d_RankCycle_spoken_by.qual d_RankCycle_spoken_by.params d_RankCycle_spoken_by.body d_RankCycle_spoken_by.scope (d_RankCycle_spoken_by.dvs K) (d_RankCycle_spoken_by.kws K) (He.ma K (He.ga K "RankCycle") "spoken_by") fd) : FnOk P w K mg base CX0 1 (He.ma K (He.ga K "RankCycle") "spoken_by") fd ["self", "member"] (spN K 2 Sh.RankCycle_spoken_by) := by
  have sc := sc_RankCycle_spoken_by
  refine fn_ok F sc (by decide) (fun cdv A outer s H E hr => ?_)
  exact (ds_one (ds_ret (de_mul (de_div (de_fld (f := "quiet") (de_var 0)) (de_ix (de_fld (f := "cycle_silences") (de_fld (f := "schedule") (de_var 1))) (de_neg de_int))) (de_ix (de_fld (f := "cycle_lengths") (de_fld (f := "schedule") (de_var 1))) (de_neg de_int)))))
theorem ok_RankCycle_spoken_by (c : He.SaysD fa fn K) (X0 : K.In h) (G : h.Ns mainGlobals mg) : Def P w K mg base CX0 1 (He.ma K (He.ga K "RankCycle") "spoken_by") ["self", "member"] [] Sh.RankCycle_spoken_by := by
  obtain ⟨fd, F⟩ := c.def_ 24 (d := d_RankCycle_spoken_by) rfl
  exact ⟨⟨fd, [], okb_RankCycle_spoken_by c X0 G F, F.bindsN fun _ _ _ _ _ _ us hl => match us, hl with | [_, _], _ => rfl, .nil⟩, F.kp⟩
theorem sc_RankCycle_init : FnScope ["self", "members", "rank", "member"] ["self", "members", "rank"] (defScope (inClass (top 32) 0)) := ⟨rfl, rfl, rfl, by decide +kernel, rfl, by decide +kernel, by decide +kernel⟩
theorem okb_RankCycle_init (c : He.SaysD fa fn K) (X0 : K.In h) (G : h.Ns mainGlobals mg) {fd : FuncData} (F : FunD K d_RankCycle_init.name d_RankCycle_init.qual d_RankCycle_init.params d_RankCycle_init.body d_RankCycle_init.scope (d_RankCycle_init.dvs K) (d_RankCycle_init.kws K) (He.ma K (He.ga K "RankCycle") "__init__") fd) : FnOk P w K mg base CX0 3 (He.ma K (He.ga K "RankCycle") "__init__") fd ["self", "members", "rank"] (spN K 3 Sh.RankCycle_init) := by
  have H_common_multiple := ok_common_multiple (P := P) (w := w) (base := base) c X0 G
  have H_RankCycle_spoken_by := ok_RankCycle_spoken_by (P := P) (w := w) (base := base) c X0 G
  have sc := sc_RankCycle_init
  refine fn_ok F sc (by decide) (fun cdv A outer s H E hr => ?_)
  exact (ds_cons (ds_fld (C := "RankCycle") (f := "members") (He.noat_ok (c.fact 49 (f := .noat "RankCycle" "members") (by rfl))) (de_var 0) (de_lc false [("member", 3)] rfl sc.nd (di_any (de_var 1)) (blkOk_by (by kernel_rfl)) (fun _ _ _ _ _ => (dg_name 3 sc.nd)) (fun _ _ _ _ _ => (dts_one (dt_eq (hu_ hr) (de_fld (f := "rank") (de_var 3)) (de_var 2)))) (fun _ _ _ _ _ => (de_var 3)))) (ds_cons (ds_fld (C := "RankCycle") (f := "quiet") (He.noat_ok (c.fact 50 (f := .noat "RankCycle" "quiet") (by rfl))) (de_var 0) de_int) (ds_cons (ds_for (vs := [3]) (passes_of rfl) rfl (di_any (de_fld (f := "members") (de_var 0))) (dg_name 3 sc.nd) (ds_one (ds_fld (C := "RankCycle") (f := "quiet") (He.noat_ok (c.fact 50 (f := .noat "RankCycle" "quiet") (by rfl))) (de_var 0) (de_callF [] ((H_common_multiple.up (by decide)).pure) hr (He.glo_ok X0 G (c.fact 45 (f := .glo "common_multiple") (by rfl))) (fun _ _ => .nil) (fun _ => passAt0) (da_cons (de_fld (f := "quiet") (de_var 0)) (da_cons (de_ix (de_fld (f := "cycle_silences") (de_fld (f := "schedule") (de_var 3))) (de_neg de_int)) da_nil)) (sCons_len (sCons_len sNil_len)))))) (ds_one (ds_fld (C := "RankCycle") (f := "left") (He.noat_ok (c.fact 51 (f := .noat "RankCycle" "left") (by rfl))) (de_var 0) (de_add (de_fld (f := "quiet") (de_var 0)) (de_sum rfl (by rfl) (He.free_ok X0 G (c.fact 77 (f := .free "sum") (by rfl))) (de_lc false [("member", 3)] rfl sc.nd (di_any (de_fld (f := "members") (de_var 0))) (blkOk_by (by kernel_rfl)) (fun _ _ _ _ _ => (dg_name 3 sc.nd)) (fun _ _ _ _ _ => dts_nil) (fun _ _ _ _ _ => (de_methF (C := "RankCycle") (mt := "spoken_by") _ (He.cls_ok (c.fact 47 (f := .cls "RankCycle") (by rfl))) (He.meth_ok (c.fact 52 (f := .meth "RankCycle" "spoken_by") (by rfl))) (H_RankCycle_spoken_by.up (by decide)) hr (de_var 0) (da_cons (de_var 3) da_nil) (sCons_len sNil_len)))))))))))
theorem ok_RankCycle_init (c : He.SaysD fa fn K) (X0 : K.In h) (G : h.Ns mainGlobals mg) : Def P w K mg base CX0 3 (He.ma K (He.ga K "RankCycle") "__init__") ["self", "members", "rank"] [] Sh.RankCycle_init := by
  obtain ⟨fd, F⟩ := c.def_ 23 (d := d_RankCycle_init) rfl
  exact ⟨⟨fd, [], okb_RankCycle_init c X0 G F, F.bindsN fun _ _ _ _ _ _ us hl => match us, hl with | [_, _, _], _ => rfl, .nil⟩, F.kp⟩
theorem sc_Schedule_sum_of_first : FnScope ["self", "many", "prefix_sums", "cycle_sums", "rounds", "rest"] ["self", "many", "prefix_sums", "cycle_sums"] (defScope (inClass (top 18) 2)) := ⟨rfl, rfl, rfl, by decide +kernel, rfl, by decide +kernel, by decide +kernel⟩
theorem okb_Schedule_sum_of_first (c : He.SaysD fa fn K) (X0 : K.In h) (G : h.Ns mainGlobals mg) {fd : FuncData} (F : FunD K d_Schedule_sum_of_first.name d_Schedule_sum_of_first.qual d_Schedule_sum_of_first.params d_Schedule_sum_of_first.body d_Schedule_sum_of_first.scope (d_Schedule_sum_of_first.dvs K) (d_Schedule_sum_of_first.kws K) (He.ma K (He.ga K "Schedule") "sum_of_first") fd) : FnOk P w K mg base CX0 1 (He.ma K (He.ga K "Schedule") "sum_of_first") fd ["self", "many", "prefix_sums", "cycle_sums"] (spN K 4 Sh.Schedule_sum_of_first) := by
  have sc := sc_Schedule_sum_of_first
  refine fn_ok F sc (by decide) (fun cdv A outer s H E hr => ?_)
  exact (ds_cons (ds_if (dt_le (de_var 1) (de_len (by rfl) (He.free_ok X0 G (c.fact 69 (f := .free "len") (by rfl))) (de_fld (f := "prefix") (de_var 0)))) (ds_one (ds_ret (de_ix (de_var 2) (de_var 1)))) ds_nil) (ds_cons (ds_asg (vs := [4, 5]) (de_divmod (by rfl) (He.free_ok X0 G (c.fact 66 (f := .free "divmod") (by rfl))) (de_sub (de_var 1) (de_len (by rfl) (He.free_ok X0 G (c.fact 69 (f := .free "len") (by rfl))) (de_fld (f := "prefix") (de_var 0)))) (de_len (by rfl) (He.free_ok X0 G (c.fact 69 (f := .free "len") (by rfl))) (de_fld (f := "cycle") (de_var 0)))) (dg_tup (n := 2) rfl (dg_cons (dg_name 4 sc.nd) (dg_cons (dg_name 5 sc.nd) dg_nil)) rfl (pg_tup rfl (dg_cons (dg_name 4 sc.nd) (dg_cons (dg_name 5 sc.nd) dg_nil))) (pg_lst rfl (dg_cons (dg_name 4 sc.nd) (dg_cons (dg_name 5 sc.nd) dg_nil))))) (ds_one (ds_ret (de_add (de_add (de_ix (de_var 2) (de_neg de_int)) (de_mul (de_var 4) (de_ix (de_var 3) (de_neg de_int)))) (de_ix (de_var 3) (de_var 5)))))))
theorem ok_Schedule_sum_of_first (c : He.SaysD fa fn K) (X0 : K.In h) (G : h.Ns mainGlobals mg) : Def P w K mg base CX0 1 (He.ma K (He.ga K "Schedule") "sum_of_first") ["self", "many", "prefix_sums", "cycle_sums"] [] Sh.Schedule_sum_of_first := by
  obtain ⟨fd, F⟩ := c.def_ 10 (d := d_Schedule_sum_of_first) rfl
  exact ⟨⟨fd, [], okb_Schedule_sum_of_first c X0 G F, F.bindsN fun _ _ _ _ _ _ us hl => match us, hl with | [_, _, _, _], _ => rfl, .nil⟩, F.kp⟩
theorem sc_Schedule_nth_ready : FnScope ["self", "index"] ["self", "index"] (defScope (inClass (top 18) 3)) := ⟨rfl, rfl, rfl, by decide +kernel, rfl, by decide +kernel, by decide +kernel⟩
theorem okb_Schedule_nth_ready (c : He.SaysD fa fn K) (X0 : K.In h) (G : h.Ns mainGlobals mg) {fd : FuncData} (F : FunD K d_Schedule_nth_ready.name d_Schedule_nth_ready.qual d_Schedule_nth_ready.params d_Schedule_nth_ready.body d_Schedule_nth_ready.scope (d_Schedule_nth_ready.dvs K) (d_Schedule_nth_ready.kws K) (He.ma K (He.ga K "Schedule") "nth_ready") fd) : FnOk P w K mg base CX0 2 (He.ma K (He.ga K "Schedule") "nth_ready") fd ["self", "index"] (spN K 2 Sh.Schedule_nth_ready) := by
  have H_Schedule_sum_of_first := ok_Schedule_sum_of_first (P := P) (w := w) (base := base) c X0 G
  have sc := sc_Schedule_nth_ready
  refine fn_ok F sc (by decide) (fun cdv A outer s H E hr => ?_)
  exact (ds_one (ds_ret (de_methF (C := "Schedule") (mt := "sum_of_first") _ (He.cls_ok (c.fact 19 (f := .cls "Schedule") (by rfl))) (He.meth_ok (c.fact 28 (f := .meth "Schedule" "sum_of_first") (by rfl))) ((H_Schedule_sum_of_first.up (by decide)).pure) hr (de_var 0) (da_cons (de_add (de_var 1) de_int) (da_cons (de_fld (f := "prefix_silences") (de_var 0)) (da_cons (de_fld (f := "cycle_silences") (de_var 0)) da_nil))) (sCons_len (sCons_len (sCons_len sNil_len))))))
theorem ok_Schedule_nth_ready (c : He.SaysD fa fn K) (X0 : K.In h) (G : h.Ns mainGlobals mg) : Def P w K mg base CX0 2 (He.ma K (He.ga K "Schedule") "nth_ready") ["self", "index"] [] Sh.Schedule_nth_ready := by
  obtain ⟨fd, F⟩ := c.def_ 11 (d := d_Schedule_nth_ready) rfl
  exact ⟨⟨fd, [], okb_Schedule_nth_ready c X0 G F, F.bindsN fun _ _ _ _ _ _ us hl => match us, hl with | [_, _], _ => rfl, .nil⟩, F.kp⟩
theorem sc_Schedule_count_ready : FnScope ["self", "quiet", "total", "rounds", "rest", "found"] ["self", "quiet"] (defScope (inClass (top 18) 4)) := ⟨rfl, rfl, rfl, by decide +kernel, rfl, by decide +kernel, by decide +kernel⟩
theorem okb_Schedule_count_ready (c : He.SaysD fa fn K) (X0 : K.In h) (G : h.Ns mainGlobals mg) {fd : FuncData} (F : FunD K d_Schedule_count_ready.name d_Schedule_count_ready.qual d_Schedule_count_ready.params d_Schedule_count_ready.body d_Schedule_count_ready.scope (d_Schedule_count_ready.dvs K) (d_Schedule_count_ready.kws K) (He.ma K (He.ga K "Schedule") "count_ready") fd) : FnOk P w K mg base CX0 1 (He.ma K (He.ga K "Schedule") "count_ready") fd ["self", "quiet"] (spN K 2 Sh.Schedule_count_ready) := by
  have sc := sc_Schedule_count_ready
  refine fn_ok F sc (by decide) (fun cdv A outer s H E hr => ?_)
  exact (ds_cons (ds_if (dt_lt (de_var 1) (de_ix (de_fld (f := "prefix_silences") (de_var 0)) (de_neg de_int))) (ds_one (ds_ret (de_len (by rfl) (He.free_ok X0 G (c.fact 69 (f := .free "len") (by rfl))) (de_lc false [("total", 2)] rfl sc.nd (di_any (de_cut false (de_fld (f := "prefix_silences") (de_var 0)) (do_some de_int) do_none)) (blkOk_by (by kernel_rfl)) (fun _ _ _ _ _ => (dg_name 2 sc.nd)) (fun _ _ _ _ _ => (dts_one (dt_le (de_var 2) (de_var 1)))) (fun _ _ _ _ _ => (de_var 2)))))) ds_nil) (ds_cons (ds_asg (vs := [3, 4]) (de_divmod (by rfl) (He.free_ok X0 G (c.fact 66 (f := .free "divmod") (by rfl))) (de_sub (de_var 1) (de_ix (de_fld (f := "prefix_silences") (de_var 0)) (de_neg de_int))) (de_ix (de_fld (f := "cycle_silences") (de_var 0)) (de_neg de_int))) (dg_tup (n := 2) rfl (dg_cons (dg_name 3 sc.nd) (dg_cons (dg_name 4 sc.nd) dg_nil)) rfl (pg_tup rfl (dg_cons (dg_name 3 sc.nd) (dg_cons (dg_name 4 sc.nd) dg_nil))) (pg_lst rfl (dg_cons (dg_name 3 sc.nd) (dg_cons (dg_name 4 sc.nd) dg_nil))))) (ds_cons (ds_set 5 sc.nd (de_add (de_len (by rfl) (He.free_ok X0 G (c.fact 69 (f := .free "len") (by rfl))) (de_fld (f := "prefix") (de_var 0))) (de_mul (de_var 3) (de_len (by rfl) (He.free_ok X0 G (c.fact 69 (f := .free "len") (by rfl))) (de_fld (f := "cycle") (de_var 0)))))) (ds_one (ds_ret (de_add (de_var 5) (de_len (by rfl) (He.free_ok X0 G (c.fact 69 (f := .free "len") (by rfl))) (de_lc false [("total", 2)] rfl sc.nd (di_any (de_cut false (de_fld (f := "cycle_silences") (de_var 0)) (do_some de_int) do_none)) (blkOk_by (by kernel_rfl)) (fun _ _ _ _ _ => (dg_name 2 sc.nd)) (fun _ _ _ _ _ => (dts_one (dt_le (de_var 2) (de_var 4)))) (fun _ _ _ _ _ => (de_var 2))))))))))
theorem ok_Schedule_count_ready (c : He.SaysD fa fn K) (X0 : K.In h) (G : h.Ns mainGlobals mg) : Def P w K mg base CX0 1 (He.ma K (He.ga K "Schedule") "count_ready") ["self", "quiet"] [] Sh.Schedule_count_ready := by
  obtain ⟨fd, F⟩ := c.def_ 12 (d := d_Schedule_count_ready) rfl
  exact ⟨⟨fd, [], okb_Schedule_count_ready c X0 G F, F.bindsN fun _ _ _ _ _ _ us hl => match us, hl with | [_, _], _ => rfl, .nil⟩, F.kp⟩
theorem sc_Schedule_nth_talk : FnScope ["self", "index"] ["self", "index"] (defScope (inClass (top 18) 1)) := ⟨rfl, rfl, rfl, by decide +kernel, rfl, by decide +kernel, by decide +kernel⟩
theorem okb_Schedule_nth_talk (c : He.SaysD fa fn K) (X0 : K.In h) (G : h.Ns mainGlobals mg) {fd : FuncData} (F : FunD K d_Schedule_nth_talk.name d_Schedule_nth_talk.qual d_Schedule_nth_talk.params d_Schedule_nth_talk.body d_Schedule_nth_talk.scope (d_Schedule_nth_talk.dvs K) (d_Schedule_nth_talk.kws K) (He.ma K (He.ga K "Schedule") "nth_talk") fd) : FnOk P w K mg base CX0 1 (He.ma K (He.ga K "Schedule") "nth_talk") fd ["self", "index"] (spN K 2 Sh.Schedule_nth_talk) := by
  have sc := sc_Schedule_nth_talk
  refine fn_ok F sc (by decide) (fun cdv A outer s H E hr => ?_)
  exact (ds_cons (ds_if (dt_lt (de_var 1) (de_len (by rfl) (He.free_ok X0 G (c.fact 69 (f := .free "len") (by rfl))) (de_fld (f := "prefix") (de_var 0)))) (ds_one (ds_ret (de_ix (de_fld (f := "prefix") (de_var 0)) (de_var 1)))) ds_nil) (ds_one (ds_ret (de_ix (de_fld (f := "cycle") (de_var 0)) (de_mod (de_sub (de_var 1) (de_len (by rfl) (He.free_ok X0 G (c.fact 69 (f := .free "len") (by rfl))) (de_fld (f := "prefix") (de_var 0)))) (de_len (by rfl) (He.free_ok X0 G (c.fact 69 (f := .free "len") (by rfl))) (de_fld (f := "cycle") (de_var 0))))))))
theorem ok_Schedule_nth_talk (c : He.SaysD fa fn K) (X0 : K.In h) (G : h.Ns mainGlobals mg) : Def P w K mg base CX0 1 (He.ma K (He.ga K "Schedule") "nth_talk") ["self", "index"] [] Sh.Schedule_nth_talk := by
  obtain ⟨fd, F⟩ := c.def_ 9 (d := d_Schedule_nth_talk) rfl
  exact ⟨⟨fd, [], okb_Schedule_nth_talk c X0 G F, F.bindsN fun _ _ _ _ _ _ us hl => match us, hl with | [_, _], _ => rfl, .nil⟩, F.kp⟩
theorem sc_run_of : FnScope ["members", "rank", "quiet", "found", "member", "many"] ["members", "rank", "quiet"] (defScope (top 26)) := ⟨rfl, rfl, rfl, by decide +kernel, rfl, by decide +kernel, by decide +kernel⟩
theorem okb_run_of (c : He.SaysD fa fn K) (X0 : K.In h) (G : h.Ns mainGlobals mg) {fd : FuncData} (F : FunD K d_run_of.name d_run_of.qual d_run_of.params d_run_of.body d_run_of.scope (d_run_of.dvs K) (d_run_of.kws K) (He.ga K "run_of") fd) : FnOk P w K mg base CX0 3 (He.ga K "run_of") fd ["members", "rank", "quiet"] (spN K 3 Sh.run_of) := by
  have H_Schedule_count_ready := ok_Schedule_count_ready (P := P) (w := w) (base := base) c X0 G
  have H_Schedule_nth_ready := ok_Schedule_nth_ready (P := P) (w := w) (base := base) c X0 G
  have H_Schedule_nth_talk := ok_Schedule_nth_talk (P := P) (w := w) (base := base) c X0 G
  have sc := sc_run_of
  refine fn_ok F sc (by decide) (fun cdv A outer s H E hr => ?_)
  exact (ds_cons (ds_set 3 sc.nd (de_lstO da_nil)) (ds_cons (ds_for (vs := [4]) (passes_of rfl) rfl (di_any (de_var 0)) (dg_name 4 sc.nd) (ds_cons (ds_set 5 sc.nd (de_methF (C := "Schedule") (mt := "count_ready") _ (He.cls_ok (c.fact 19 (f := .cls "Schedule") (by rfl))) (He.meth_ok (c.fact 30 (f := .meth "Schedule" "count_ready") (by rfl))) ((H_Schedule_count_ready.up (by decide)).pure) hr (de_fld (f := "schedule") (de_var 4)) (da_cons (de_var 2) da_nil) (sCons_len sNil_len))) (ds_one (ds_if (DW.dt (dw_and (dt_eq (hu_ hr) (de_fld (f := "rank") (de_var 4)) (de_var 1)) (dw_and (dt_gt (de_var 5) de_int) (dw_and1 (dt_eq (hu_ hr) (de_methF (C := "Schedule") (mt := "nth_ready") _ (He.cls_ok (c.fact 19 (f := .cls "Schedule") (by rfl))) (He.meth_ok (c.fact 29 (f := .meth "Schedule" "nth_ready") (by rfl))) ((H_Schedule_nth_ready.up (by decide)).pure) hr (de_fld (f := "schedule") (de_var 4)) (da_cons (de_sub (de_var 5) de_int) da_nil) (sCons_len sNil_len)) (de_var 2)))))) (ds_one (ds_expr (de_append (de_var 3) (de_tup (da_cons (de_var 4) (da_cons (de_sub (de_var 5) de_int) (da_cons (de_ix (de_methF (C := "Schedule") (mt := "nth_talk") _ (He.cls_ok (c.fact 19 (f := .cls "Schedule") (by rfl))) (He.meth_ok (c.fact 27 (f := .meth "Schedule" "nth_talk") (by rfl))) ((H_Schedule_nth_talk.up (by decide)).pure) hr (de_fld (f := "schedule") (de_var 4)) (da_cons (de_sub (de_var 5) de_int) da_nil) (sCons_len sNil_len)) de_int) da_nil))))))) ds_nil)))) (ds_one (ds_ret (de_frz (de_var 3))))))
theorem ok_run_of (c : He.SaysD fa fn K) (X0 : K.In h) (G : h.Ns mainGlobals mg) : Def P w K mg base CX0 3 (He.ga K "run_of") ["members", "rank", "quiet"] [] Sh.run_of := by
  obtain ⟨fd, F⟩ := c.def_ 19 (d := d_run_of) rfl
  exact ⟨⟨fd, [], okb_run_of c X0 G F, F.bindsN fun _ _ _ _ _ _ us hl => match us, hl with | [_, _, _], _ => rfl, .nil⟩, F.kp⟩
theorem sc_Schedule_length_ready : FnScope ["self", "quiet"] ["self", "quiet"] (defScope (inClass (top 18) 5)) := ⟨rfl, rfl, rfl, by decide +kernel, rfl, by decide +kernel, by decide +kernel⟩
theorem okb_Schedule_length_ready (c : He.SaysD fa fn K) (X0 : K.In h) (G : h.Ns mainGlobals mg) {fd : FuncData} (F : FunD K d_Schedule_length_ready.name d_Schedule_length_ready.qual d_Schedule_length_ready.params d_Schedule_length_ready.body d_Schedule_length_ready.scope (d_Schedule_length_ready.dvs K) (d_Schedule_length_ready.kws K) (He.ma K (He.ga K "Schedule") "length_ready") fd) : FnOk P w K mg base CX0 2 (He.ma K (He.ga K "Schedule") "length_ready") fd ["self", "quiet"] (spN K 2 Sh.Schedule_length_ready) := by
  have H_Schedule_sum_of_first := ok_Schedule_sum_of_first (P := P) (w := w) (base := base) c X0 G
  have H_Schedule_count_ready := ok_Schedule_count_ready (P := P) (w := w) (base := base) c X0 G
  have sc := sc_Schedule_length_ready
  refine fn_ok F sc (by decide) (fun cdv A outer s H E hr => ?_)
  exact (ds_one (ds_ret (de_methF (C := "Schedule") (mt := "sum_of_first") _ (He.cls_ok (c.fact 19 (f := .cls "Schedule") (by rfl))) (He.meth_ok (c.fact 28 (f := .meth "Schedule" "sum_of_first") (by rfl))) ((H_Schedule_sum_of_first.up (by decide)).pure) hr (de_var 0) (da_cons (de_methF (C := "Schedule") (mt := "count_ready") _ (He.cls_ok (c.fact 19 (f := .cls "Schedule") (by rfl))) (He.meth_ok (c.fact 30 (f := .meth "Schedule" "count_ready") (by rfl))) ((H_Schedule_count_ready.up (by decide)).pure) hr (de_var 0) (da_cons (de_var 1) da_nil) (sCons_len sNil_len)) (da_cons (de_fld (f := "prefix_lengths") (de_var 0)) (da_cons (de_fld (f := "cycle_lengths") (de_var 0)) da_nil))) (sCons_len (sCons_len (sCons_len sNil_len))))))
theorem ok_Schedule_length_ready (c : He.SaysD fa fn K) (X0 : K.In h) (G : h.Ns mainGlobals mg) : Def P w K mg base CX0 2 (He.ma K (He.ga K "Schedule") "length_ready") ["self", "quiet"] [] Sh.Schedule_length_ready := by
  obtain ⟨fd, F⟩ := c.def_ 13 (d := d_Schedule_length_ready) rfl
  exact ⟨⟨fd, [], okb_Schedule_length_ready c X0 G F, F.bindsN fun _ _ _ _ _ _ us hl => match us, hl with | [_, _], _ => rfl, .nil⟩, F.kp⟩
theorem sc_rank_length : FnScope ["members", "rank", "quiet", "member"] ["members", "rank", "quiet"] (defScope (top 22)) := ⟨rfl, rfl, rfl, by decide +kernel, rfl, by decide +kernel, by decide +kernel⟩
theorem okb_rank_length (c : He.SaysD fa fn K) (X0 : K.In h) (G : h.Ns mainGlobals mg) {fd : FuncData} (F : FunD K d_rank_length.name d_rank_length.qual d_rank_length.params d_rank_length.body d_rank_length.scope (d_rank_length.dvs K) (d_rank_length.kws K) (He.ga K "rank_length") fd) : FnOk P w K mg base CX0 3 (He.ga K "rank_length") fd ["members", "rank", "quiet"] (spN K 3 Sh.rank_length) := by
  have H_Schedule_length_ready := ok_Schedule_length_ready (P := P) (w := w) (base := base) c X0 G
  have sc := sc_rank_length
  refine fn_ok F sc (by decide) (fun cdv A outer s H E hr => ?_)
  exact (ds_one (ds_ret (de_sum rfl (by rfl) (He.free_ok X0 G (c.fact 77 (f := .free "sum") (by rfl))) (de_lc false [("member", 3)] rfl sc.nd (di_any (de_var 0)) (blkOk_by (by kernel_rfl)) (fun _ _ _ _ _ => (dg_name 3 sc.nd)) (fun _ _ _ _ _ => (dts_one (dt_eq (hu_ hr) (de_fld (f := "rank") (de_var 3)) (de_var 1)))) (fun _ _ _ _ _ => (de_methF (C := "Schedule") (mt := "length_ready") _ (He.cls_ok (c.fact 19 (f := .cls "Schedule") (by rfl))) (He.meth_ok (c.fact 31 (f := .meth "Schedule" "length_ready") (by rfl))) ((H_Schedule_length_ready.up (by decide)).pure) hr (de_fld (f := "schedule") (de_var 3)) (da_cons (de_var 2) da_nil) (sCons_len sNil_len)))))))
theorem ok_rank_length (c : He.SaysD fa fn K) (X0 : K.In h) (G : h.Ns mainGlobals mg) : Def P w K mg base CX0 3 (He.ga K "rank_length") ["members", "rank", "quiet"] [] Sh.rank_length := by
  obtain ⟨fd, F⟩ := c.def_ 16 (d := d_rank_length) rfl
  exact ⟨⟨fd, [], okb_rank_length c X0 G F, F.bindsN fun _ _ _ _ _ _ us hl => match us, hl with | [_, _, _], _ => rfl, .nil⟩, F.kp⟩
theorem sc_left_index : FnScope ["members", "rank", "quiet"] ["members", "rank", "quiet"] (defScope (top 23)) := ⟨rfl, rfl, rfl, by decide +kernel, rfl, by decide +kernel, by decide +kernel⟩
theorem okb_left_index (c : He.SaysD fa fn K) (X0 : K.In h) (G : h.Ns mainGlobals mg) {fd : FuncData} (F : FunD K d_left_index.name d_left_index.qual d_left_index.params d_left_index.body d_left_index.scope (d_left_index.dvs K) (d_left_index.kws K) (He.ga K "left_index") fd) : FnOk P w K mg base CX0 4 (He.ga K "left_index") fd ["members", "rank", "quiet"] (spN K 3 Sh.left_index) := by
  have H_rank_length := ok_rank_length (P := P) (w := w) (base := base) c X0 G
  have sc := sc_left_index
  refine fn_ok F sc (by decide) (fun cdv A outer s H E hr => ?_)
  exact (ds_one (ds_ret (de_add (de_var 2) (de_callF [] ((H_rank_length.up (by decide)).pure) hr (He.glo_ok X0 G (c.fact 39 (f := .glo "rank_length") (by rfl))) (fun _ _ => .nil) (fun _ => passAt0) (da_cons (de_var 0) (da_cons (de_var 1) (da_cons (de_var 2) da_nil))) (sCons_len (sCons_len (sCons_len sNil_len)))))))
theorem ok_left_index (c : He.SaysD fa fn K) (X0 : K.In h) (G : h.Ns mainGlobals mg) : Def P w K mg base CX0 4 (He.ga K "left_index") ["members", "rank", "quiet"] [] Sh.left_index := by
  obtain ⟨fd, F⟩ := c.def_ 17 (d := d_left_index) rfl
  exact ⟨⟨fd, [], okb_left_index c X0 G F, F.bindsN fun _ _ _ _ _ _ us hl => match us, hl with | [_, _, _], _ => rfl, .nil⟩, F.kp⟩
theorem sc_tick_of : FnScope ["members", "rank", "index", "found", "higher"] ["members", "rank", "index"] (defScope (top 24)) := ⟨rfl, rfl, rfl, by decide +kernel, rfl, by decide +kernel, by decide +kernel⟩
theorem okb_tick_of (c : He.SaysD fa fn K) (X0 : K.In h) (G : h.Ns mainGlobals mg) {fd : FuncData} (F : FunD K d_tick_of.name d_tick_of.qual d_tick_of.params d_tick_of.body d_tick_of.scope (d_tick_of.dvs K) (d_tick_of.kws K) (He.ga K "tick_of") fd) : FnOk P w K mg base CX0 5 (He.ga K "tick_of") fd ["members", "rank", "index"] (spN K 3 Sh.tick_of) := by
  have H_left_index := ok_left_index (P := P) (w := w) (base := base) c X0 G
  have sc := sc_tick_of
  refine fn_ok F sc (by decide) (fun cdv A outer s H E hr => ?_)
  exact (ds_cons (ds_set 3 sc.nd (de_var 2)) (ds_cons (ds_for (vs := [4]) (passes_of rfl) rfl (di_rngN (by rfl) (He.free_ok X0 G (c.fact 73 (f := .free "range") (by rfl))) (de_sub (de_var 1) de_int) de_int (de_neg de_int)) (dg_name 4 sc.nd) (ds_one (ds_set 3 sc.nd (de_callF [] ((H_left_index.up (by decide)).pure) hr (He.glo_ok X0 G (c.fact 40 (f := .glo "left_index") (by rfl))) (fun _ _ => .nil) (fun _ => passAt0) (da_cons (de_var 0) (da_cons (de_var 4) (da_cons (de_var 3) da_nil))) (sCons_len (sCons_len (sCons_len sNil_len))))))) (ds_one (ds_ret (de_var 3)))))
theorem ok_tick_of (c : He.SaysD fa fn K) (X0 : K.In h) (G : h.Ns mainGlobals mg) : Def P w K mg base CX0 5 (He.ga K "tick_of") ["members", "rank", "index"] [] Sh.tick_of := by
  obtain ⟨fd, F⟩ := c.def_ 18 (d := d_tick_of) rfl
  exact ⟨⟨fd, [], okb_tick_of c X0 G F, F.bindsN fun _ _ _ _ _ _ us hl => match us, hl with | [_, _, _], _ => rfl, .nil⟩, F.kp⟩
theorem sc_span_by : FnScope ["members", "member", "index", "ready", "first", "other", "number", "length", "last"] ["members", "member", "index"] (defScope (top 28)) := ⟨rfl, rfl, rfl, by decide +kernel, rfl, by decide +kernel, by decide +kernel⟩
theorem okb_span_by (c : He.SaysD fa fn K) (X0 : K.In h) (G : h.Ns mainGlobals mg) {fd : FuncData} (F : FunD K d_span_by.name d_span_by.qual d_span_by.params d_span_by.body d_span_by.scope (d_span_by.dvs K) (d_span_by.kws K) (He.ga K "span_by") fd) : FnOk P w K mg base CX0 6 (He.ga K "span_by") fd ["members", "member", "index"] (spN K 3 Sh.span_by) := by
  have H_Schedule_nth_ready := ok_Schedule_nth_ready (P := P) (w := w) (base := base) c X0 G
  have H_left_index := ok_left_index (P := P) (w := w) (base := base) c X0 G
  have H_run_of := ok_run_of (P := P) (w := w) (base := base) c X0 G
  have H_Schedule_nth_talk := ok_Schedule_nth_talk (P := P) (w := w) (base := base) c X0 G
  have H_tick_of := ok_tick_of (P := P) (w := w) (base := base) c X0 G
  have sc := sc_span_by
  refine fn_ok F sc (by decide) (fun cdv A outer s H E hr => ?_)
  exact (ds_cons (ds_set 3 sc.nd (de_methF (C := "Schedule") (mt := "nth_ready") _ (He.cls_ok (c.fact 19 (f := .cls "Schedule") (by rfl))) (He.meth_ok (c.fact 29 (f := .meth "Schedule" "nth_ready") (by rfl))) ((H_Schedule_nth_ready.up (by decide)).pure) hr (de_fld (f := "schedule") (de_var 1)) (da_cons (de_var 2) da_nil) (sCons_len sNil_len))) (ds_cons (ds_set 4 sc.nd (de_add (de_callF [] ((H_left_index.up (by decide)).pure) hr (He.glo_ok X0 G (c.fact 40 (f := .glo "left_index") (by rfl))) (fun _ _ => .nil) (fun _ => passAt0) (da_cons (de_var 0) (da_cons (de_fld (f := "rank") (de_var 1)) (da_cons (de_sub (de_var 3) de_int) da_nil))) (sCons_len (sCons_len (sCons_len sNil_len)))) de_int)) (ds_cons (ds_for (vs := [5, 6, 7]) (passes_of rfl) rfl (di_any (de_callF [] ((H_run_of.up (by decide)).pure) hr (He.glo_ok X0 G (c.fact 42 (f := .glo "run_of") (by rfl))) (fun _ _ => .nil) (fun _ => passAt0) (da_cons (de_var 0) (da_cons (de_fld (f := "rank") (de_var 1)) (da_cons (de_var 3) da_nil))) (sCons_len (sCons_len (sCons_len sNil_len))))) (dg_tup (n := 3) rfl (dg_cons (dg_name 5 sc.nd) (dg_cons (dg_name 6 sc.nd) (dg_cons (dg_name 7 sc.nd) dg_nil))) rfl (pg_tup rfl (dg_cons (dg_name 5 sc.nd) (dg_cons (dg_name 6 sc.nd) (dg_cons (dg_name 7 sc.nd) dg_nil)))) (pg_lst rfl (dg_cons (dg_name 5 sc.nd) (dg_cons (dg_name 6 sc.nd) (dg_cons (dg_name 7 sc.nd) dg_nil))))) (ds_cons (ds_if (dt_eq (hu_ hr) (de_fld (f := "name") (de_var 5)) (de_fld (f := "name") (de_var 1))) (ds_one ds_break) ds_nil) (ds_one (ds_augI 4 sc.nd ip_add (de_var 7))))) (ds_cons (ds_set 8 sc.nd (de_sub (de_add (de_var 4) (de_ix (de_methF (C := "Schedule") (mt := "nth_talk") _ (He.cls_ok (c.fact 19 (f := .cls "Schedule") (by rfl))) (He.meth_ok (c.fact 27 (f := .meth "Schedule" "nth_talk") (by rfl))) ((H_Schedule_nth_talk.up (by decide)).pure) hr (de_fld (f := "schedule") (de_var 1)) (da_cons (de_var 2) da_nil) (sCons_len sNil_len)) de_int)) de_int)) (ds_one (ds_ret (de_tup (da_cons (de_callF [] ((H_tick_of.up (by decide)).pure) hr (He.glo_ok X0 G (c.fact 41 (f := .glo "tick_of") (by rfl))) (fun _ _ => .nil) (fun _ => passAt0) (da_cons (de_var 0) (da_cons (de_fld (f := "rank") (de_var 1)) (da_cons (de_var 4) da_nil))) (sCons_len (sCons_len (sCons_len sNil_len)))) (da_cons (de_callF [] ((H_tick_of.up (by decide)).pure) hr (He.glo_ok X0 G (c.fact 41 (f := .glo "tick_of") (by rfl))) (fun _ _ => .nil) (fun _ => passAt0) (da_cons (de_var 0) (da_cons (de_fld (f := "rank") (de_var 1)) (da_cons (de_var 8) da_nil))) (sCons_len (sCons_len (sCons_len sNil_len)))) da_nil)))))))))
theorem ok_span_by (c : He.SaysD fa fn K) (X0 : K.In h) (G : h.Ns mainGlobals mg) : Def P w K mg base CX0 6 (He.ga K "span_by") ["members", "member", "index"] [] Sh.span_by := by
  obtain ⟨fd, F⟩ := c.def_ 20 (d := d_span_by) rfl
  exact ⟨⟨fd, [], okb_span_by c X0 G F, F.bindsN fun _ _ _ _ _ _ us hl => match us, hl with | [_, _, _], _ => rfl, .nil⟩, F.kp⟩
theorem sc_start_of : FnScope ["members", "found", "member", "many"] ["members"] (defScope (top 33)) := ⟨rfl, rfl, rfl, by decide +kernel, rfl, by decide +kernel, by decide +kernel⟩
theorem okb_start_of (c : He.SaysD fa fn K) (X0 : K.In h) (G : h.Ns mainGlobals mg) {fd : FuncData} (F : FunD K d_start_of.name d_start_of.qual d_start_of.params d_start_of.body d_start_of.scope (d_start_of.dvs K) (d_start_of.kws K) (He.ga K "start_of") fd) : FnOk P w K mg base CX0 7 (He.ga K "start_of") fd ["members"] (spN K 1 Sh.start_of) := by
  have H_span_by := ok_span_by (P := P) (w := w) (base := base) c X0 G
  have sc := sc_start_of
  refine fn_ok F sc (by decide) (fun cdv A outer s H E hr => ?_)
  exact (ds_cons (ds_set 1 sc.nd de_int) (ds_cons (ds_for (vs := [2]) (passes_of rfl) rfl (di_any (de_var 0)) (dg_name 2 sc.nd) (ds_cons (ds_set 3 sc.nd (de_len (by rfl) (He.free_ok X0 G (c.fact 69 (f := .free "len") (by rfl))) (de_fld (f := "prefix") (de_fld (f := "schedule") (de_var 2))))) (ds_one (ds_if (dt_gt (de_var 3) de_int) (ds_one (ds_set 1 sc.nd (de_max2 rfl (by rfl) (He.free_ok X0 G (c.fact 71 (f := .free "max") (by rfl))) (de_var 1) (de_add (de_ix (de_callF [] ((H_span_by.up (by decide)).pure) hr (He.glo_ok X0 G (c.fact 43 (f := .glo "span_by") (by rfl))) (fun _ _ => .nil) (fun _ => passAt0) (da_cons (de_var 0) (da_cons (de_var 2) (da_cons (de_sub (de_var 3) de_int) da_nil))) (sCons_len (sCons_len (sCons_len sNil_len)))) de_int) de_int)))) ds_nil)))) (ds_one (ds_ret (de_var 1)))))
theorem ok_start_of (c : He.SaysD fa fn K) (X0 : K.In h) (G : h.Ns mainGlobals mg) : Def P w K mg base CX0 7 (He.ga K "start_of") ["members"] [] Sh.start_of := by
  obtain ⟨fd, F⟩ := c.def_ 25 (d := d_start_of) rfl
  exact ⟨⟨fd, [], okb_start_of c X0 G F, F.bindsN fun _ _ _ _ _ _ us hl => match us, hl with | [_], _ => rfl, .nil⟩, F.kp⟩
theorem sc_cycle_of : FnScope ["hall", "members", "length", "left", "rank", "cycle", "rounds"] ["hall"] (defScope (top 34)) := ⟨rfl, rfl, rfl, by decide +kernel, rfl, by decide +kernel, by decide +kernel⟩
theorem okb_cycle_of (c : He.SaysD fa fn K) (X0 : K.In h) (G : h.Ns mainGlobals mg) {fd : FuncData} (F : FunD K d_cycle_of.name d_cycle_of.qual d_cycle_of.params d_cycle_of.body d_cycle_of.scope (d_cycle_of.dvs K) (d_cycle_of.kws K) (He.ga K "cycle_of") fd) : FnOk P w K mg base (L2.CX P w) 8 (He.ga K "cycle_of") fd ["hall"] (spN K 1 Sh.cycle_of) := by
  have H_checked_hall := ok_checked_hall (P := P) (w := w) (base := base) c X0 G
  have H_RankCycle_init := ok_RankCycle_init (P := P) (w := w) (base := base) c X0 G
  have H_common_divisor := ok_common_divisor (P := P) (w := w) (base := base) c X0 G
  have H_start_of := ok_start_of (P := P) (w := w) (base := base) c X0 G
  have sc := sc_cycle_of
  refine fn_ok F sc (by decide) (fun cdv A outer s H E hr => ?_)
  exact (ds_cons (ds_set 1 sc.nd (de_callF [] ((H_checked_hall.up (by decide)).pure) hr (He.glo_ok X0 G (c.fact 38 (f := .glo "checked_hall") (by rfl))) (fun _ _ => .nil) (fun s_ => passAt (takes_of rfl rfl rfl rfl) s_) (da_cons (de_var 0) da_nil) (sCons_len sNil_len))) (ds_cons (ds_asg (vs := [2, 3]) (de_tup (da_cons de_int (da_cons de_int da_nil))) (dg_tup (n := 2) rfl (dg_cons (dg_name 2 sc.nd) (dg_cons (dg_name 3 sc.nd) dg_nil)) rfl (pg_tup rfl (dg_cons (dg_name 2 sc.nd) (dg_cons (dg_name 3 sc.nd) dg_nil))) (pg_lst rfl (dg_cons (dg_name 2 sc.nd) (dg_cons (dg_name 3 sc.nd) dg_nil))))) (ds_cons (ds_for (vs := [4]) (passes_of rfl) rfl (di_rng2 (by rfl) (He.free_ok X0 G (c.fact 73 (f := .free "range") (by rfl))) de_int (de_add (de_globI (by rfl) (He.int_ok X0 G (c.fact 7 (f := .int "MAX_RANK" (10)) (by rfl)))) de_int)) (dg_name 4 sc.nd) (ds_cons (ds_set 5 sc.nd (de_makeF (C := "RankCycle") (He.mkr_ok (c.fact 48 (f := .mkr "RankCycle") (by rfl))) (He.cls_ok (c.fact 47 (f := .cls "RankCycle") (by rfl))) H_RankCycle_init (hr.mono (by decide)) (He.glo_ok X0 G (c.fact 46 (f := .glo "RankCycle") (by rfl))) (da_cons (de_var 1) (da_cons (de_var 4) da_nil)) (sCons_len (sCons_len sNil_len)))) (ds_cons (ds_set 6 sc.nd (de_div (de_fld (f := "left") (de_var 5)) (de_callF [] ((H_common_divisor.up (by decide)).pure) hr (He.glo_ok X0 G (c.fact 44 (f := .glo "common_divisor") (by rfl))) (fun _ _ => .nil) (fun _ => passAt0) (da_cons (de_var 3) (da_cons (de_fld (f := "left") (de_var 5)) da_nil)) (sCons_len (sCons_len sNil_len))))) (ds_cons (ds_augM 2 sc.nd (de_var 6)) (ds_one (ds_set 3 sc.nd (de_mul (de_div (de_mul (de_var 3) (de_var 6)) (de_fld (f := "left") (de_var 5))) (de_fld (f := "quiet") (de_var 5))))))))) (ds_one (ds_ret (de_tup (da_cons (de_callF [] ((H_start_of.up (by decide)).pure) hr (He.glo_ok X0 G (c.fact 53 (f := .glo "start_of") (by rfl))) (fun _ _ => .nil) (fun _ => passAt0) (da_cons (de_var 1) da_nil) (sCons_len sNil_len)) (da_cons (de_var 2) da_nil))))))))
theorem ok_cycle_of (c : He.SaysD fa fn K) (X0 : K.In h) (G : h.Ns mainGlobals mg) : Def P w K mg base (L2.CX P w) 8 (He.ga K "cycle_of") ["hall"] [] Sh.cycle_of := by
  obtain ⟨fd, F⟩ := c.def_ 26 (d := d_cycle_of) rfl
  exact ⟨⟨fd, [], okb_cycle_of c X0 G F, F.bindsN fun _ _ _ _ _ _ us hl => match us, hl with | [_], _ => rfl, .nil⟩, F.kp⟩
theorem sc_shares_of_1 : FnScope ["hall", "members", "top", "bottom", "found", "rank", "cycle", "member", "names", "shares", "name", "divisor"] ["hall"] (defScope (top 35)) := ⟨rfl, rfl, rfl, by decide +kernel, rfl, by decide +kernel, by decide +kernel⟩
theorem okb_shares_of_1 (c : He.SaysD fa fn K) (X0 : K.In h) (G : h.Ns mainGlobals mg) {fd : FuncData} (F : FunD K d_shares_of_1.name d_shares_of_1.qual d_shares_of_1.params d_shares_of_1.body d_shares_of_1.scope (d_shares_of_1.dvs K) (d_shares_of_1.kws K) (He.ga K "shares_of") fd) : FnOk P w K mg base (L2.CX P w) 7 (He.ga K "shares_of") fd ["hall"] (spN K 1 (Sh.shares_of_1 P w)) := by
  have H_checked_hall := ok_checked_hall (P := P) (w := w) (base := base) c X0 G
  have H_RankCycle_init := ok_RankCycle_init (P := P) (w := w) (base := base) c X0 G
  have H_RankCycle_spoken_by := ok_RankCycle_spoken_by (P := P) (w := w) (base := base) c X0 G
  have H_common_divisor := ok_common_divisor (P := P) (w := w) (base := base) c X0 G
  have sc := sc_shares_of_1
  refine fn_ok F sc (by decide) (fun cdv A outer s H E hr => ?_)
  exact (ds_cons (ds_set 1 sc.nd (de_callF [] ((H_checked_hall.up (by decide)).pure) hr (He.glo_ok X0 G (c.fact 38 (f := .glo "checked_hall") (by rfl))) (fun _ _ => .nil) (fun s_ => passAt (takes_of rfl rfl rfl rfl) s_) (da_cons (de_var 0) da_nil) (sCons_len sNil_len))) (ds_cons (ds_asg (vs := [2, 3]) (de_tup (da_cons de_int (da_cons de_int da_nil))) (dg_tup (n := 2) rfl (dg_cons (dg_name 2 sc.nd) (dg_cons (dg_name 3 sc.nd) dg_nil)) rfl (pg_tup rfl (dg_cons (dg_name 2 sc.nd) (dg_cons (dg_name 3 sc.nd) dg_nil))) (pg_lst rfl (dg_cons (dg_name 2 sc.nd) (dg_cons (dg_name 3 sc.nd) dg_nil))))) (ds_cons (ds_set 4 sc.nd de_dctO) (ds_cons (ds_for (vs := [5]) (passes_of rfl) rfl (di_rng2 (by rfl) (He.free_ok X0 G (c.fact 73 (f := .free "range") (by rfl))) de_int (de_add (de_globI (by rfl) (He.int_ok X0 G (c.fact 7 (f := .int "MAX_RANK" (10)) (by rfl)))) de_int)) (dg_name 5 sc.nd) (ds_cons (ds_set 6 sc.nd (de_makeF (C := "RankCycle") (He.mkr_ok (c.fact 48 (f := .mkr "RankCycle") (by rfl))) (He.cls_ok (c.fact 47 (f := .cls "RankCycle") (by rfl))) H_RankCycle_init (hr.mono (by decide)) (He.glo_ok X0 G (c.fact 46 (f := .glo "RankCycle") (by rfl))) (da_cons (de_var 1) (da_cons (de_var 5) da_nil)) (sCons_len (sCons_len sNil_len)))) (ds_cons (ds_for (vs := [7]) (passes_of rfl) rfl (di_any (de_fld (f := "members") (de_var 6))) (dg_name 7 sc.nd) (ds_one (ds_ixK (hu_ hr) (de_var 4) (de_fld (f := "name") (de_var 7)) (de_tup (da_cons (de_mul (de_var 2) (de_methF (C := "RankCycle") (mt := "spoken_by") _ (He.cls_ok (c.fact 47 (f := .cls "RankCycle") (by rfl))) (He.meth_ok (c.fact 52 (f := .meth "RankCycle" "spoken_by") (by rfl))) ((H_RankCycle_spoken_by.up (by decide)).pure) hr (de_var 6) (da_cons (de_var 7) da_nil) (sCons_len sNil_len))) (da_cons (de_mul (de_var 3) (de_fld (f := "left") (de_var 6))) da_nil)))))) (ds_one (ds_par (i := 2) (j := 3) rfl sc.nd (da_cons (de_mul (de_var 2) (de_fld (f := "quiet") (de_var 6))) (da_cons (de_mul (de_var 3) (de_fld (f := "left") (de_var 6))) da_nil))))))) (ds_cons (ds_set 8 sc.nd (de_add (de_lc false [("member", 7)] rfl sc.nd (di_any (de_var 1)) (blkOk_by (by kernel_rfl)) (fun _ _ _ _ _ => (dg_name 7 sc.nd)) (fun _ _ _ _ _ => dts_nil) (fun _ _ _ _ _ => (de_fld (f := "name") (de_var 7)))) (de_lst (da_cons de_non da_nil)))) (ds_cons (ds_putN (de_var 4) de_non (de_tup (da_cons (de_var 2) (da_cons (de_var 3) da_nil)))) (ds_cons (ds_set 9 sc.nd (de_lstO da_nil)) (ds_cons (ds_for (vs := [10]) (passes_of rfl) rfl (di_any (de_var 8)) (dg_name 10 sc.nd) (ds_cons (ds_set 11 sc.nd (de_callF [] ((H_common_divisor.up (by decide)).pure) hr (He.glo_ok X0 G (c.fact 44 (f := .glo "common_divisor") (by rfl))) (fun _ _ => .nil) (fun _ => passAt0) (da_cons (de_ix (de_getN (de_var 4) (de_var 10)) de_int) (da_cons (de_ix (de_getN (de_var 4) (de_var 10)) de_int) da_nil)) (sCons_len (sCons_len sNil_len)))) (ds_one (ds_expr (de_append (de_var 9) (de_tup (da_cons (de_var 10) (da_cons (de_div (de_ix (de_getN (de_var 4) (de_var 10)) de_int) (de_var 11)) (da_cons (de_div (de_ix (de_getN (de_var 4) (de_var 10)) de_int) (de_var 11)) da_nil))))))))) (ds_one (ds_ret (de_frz (de_var 9))))))))))))
theorem ok_shares_of_1 (c : He.SaysD fa fn K) (X0 : K.In h) (G : h.Ns mainGlobals mg) : Def P w K mg base (L2.CX P w) 7 (He.ga K "shares_of") ["hall"] [] (Sh.shares_of_1 P w) := by
  obtain ⟨fd, F⟩ := c.def_ 27 (d := d_shares_of_1) rfl
  exact ⟨⟨fd, [], okb_shares_of_1 c X0 G F, F.bindsN fun _ _ _ _ _ _ us hl => match us, hl with | [_], _ => rfl, .nil⟩, F.kp⟩
theorem sc_law_k34 : FnScope ["_law_script", "_law_reel_here", "_law_k", "_law_hall_here", "_law_last", "_law_length", "_law_left", "_law_rank", "_law_mates", "_law_talker", "_law_quiet", "_law_alone_here", "_law_rounds", "_law_found", "_law_ranks", "_law_packed"] ["_law_script"] (defScope (top 43)) := ⟨rfl, rfl, rfl, by decide +kernel, rfl, by decide +kernel, by decide +kernel⟩
theorem okb_law_k34 (c : He.SaysD fa fn K) (X0 : K.In h) (G : h.Ns mainGlobals mg) {fd : FuncData} (F : FunD K d_law_k34.name d_law_k34.qual d_law_k34.params d_law_k34.body d_law_k34.scope (d_law_k34.dvs K) (d_law_k34.kws K) (He.ga K "law") fd) : FnOk P w K mg base CX0 9 (He.ga K "law") fd ["_law_script"] (spN K 1 (Sh.law_k34 P w)) := by
  have H_l_reel := ok_l_reel (P := P) (w := w) (base := base) c X0 G
  have H_l_hall_1 := ok_l_hall_1 (P := P) (w := w) (base := base) c X0 G
  have H_l_draw_1 := ok_l_draw_1 (P := P) (w := w) (base := base) c X0 G
  have H_l_alone := ok_l_alone (P := P) (w := w) (base := base) c X0 G
  have H_cycle_of := ok_cycle_of (P := P) (w := w) (base := base) c X0 G
  have H_l_multiple := ok_l_multiple (P := P) (w := w) (base := base) c X0 G
  have H_shares_of_1 := ok_shares_of_1 (P := P) (w := w) (base := base) c X0 G
  have sc := sc_law_k34
  refine fn_ok F sc (by decide) (fun cdv A outer s H E hr => ?_)
  exact (ds_cons (ds_set 1 sc.nd (de_callF [] (H_l_reel.up (by decide)) hr (He.glo_ok X0 G (c.fact 56 (f := .glo "_law_reel") (by rfl))) (fun _ _ => .nil) (fun _ => passAt0) (da_cons (de_var 0) da_nil) (sCons_len sNil_len))) (ds_cons (ds_for (vs := [2]) (passes_of rfl) rfl (di_rng1 (by rfl) (He.free_ok X0 G (c.fact 73 (f := .free "range") (by rfl))) (de_add de_int (de_min2 rfl (by rfl) (He.free_ok X0 G (c.fact 72 (f := .free "min") (by rfl))) (de_len (by rfl) (He.free_ok X0 G (c.fact 69 (f := .free "len") (by rfl))) (de_var 0)) de_int))) (dg_name 2 sc.nd) (ds_cons (ds_set 3 sc.nd (de_callF [] (H_l_hall_1.up (by decide)) hr (He.glo_ok X0 G (c.fact 59 (f := .glo "_law_hall") (by rfl))) (fun _ _ => .nil) (fun _ => passAt0) (da_cons (de_var 1) (da_cons de_int (da_cons (de_ix (de_lst (da_cons de_int (da_cons de_int da_nil))) (de_callF [] (H_l_draw_1.up (by decide)) hr (He.glo_ok X0 G (c.fact 57 (f := .glo "_law_draw") (by rfl))) (fun _ _ => .nil) (fun _ => passAt0) (da_cons (de_var 1) (da_cons de_int da_nil)) (sCons_len (sCons_len sNil_len)))) (da_cons (de_ix (de_lst (da_cons de_int (da_cons (de_pow de_int de_int) da_nil))) (de_callF [] (H_l_draw_1.up (by decide)) hr (He.glo_ok X0 G (c.fact 57 (f := .glo "_law_draw") (by rfl))) (fun _ _ => .nil) (fun _ => passAt0) (da_cons (de_var 1) (da_cons de_int da_nil)) (sCons_len (sCons_len sNil_len)))) da_nil)))) (sCons_len (sCons_len (sCons_len (sCons_len sNil_len)))))) (ds_cons (ds_set 4 sc.nd (de_tup (da_cons de_int (da_cons de_int da_nil)))) (ds_cons (ds_asg (vs := [5, 6]) (de_tup (da_cons de_int (da_cons de_int da_nil))) (dg_tup (n := 2) rfl (dg_cons (dg_name 5 sc.nd) (dg_cons (dg_name 6 sc.nd) dg_nil)) rfl (pg_tup rfl (dg_cons (dg_name 5 sc.nd) (dg_cons (dg_name 6 sc.nd) dg_nil))) (pg_lst rfl (dg_cons (dg_name 5 sc.nd) (dg_cons (dg_name 6 sc.nd) dg_nil))))) (ds_cons (ds_for (vs := [7]) (passes_of rfl) rfl (di_rng2 (by rfl) (He.free_ok X0 G (c.fact 73 (f := .free "range") (by rfl))) de_int de_int) (dg_name 7 sc.nd) (ds_cons (ds_setLc (X := _) 8 false [("_law_talker", 9)] rfl sc.nd (di_any (de_var 3)) (blkOk_by (by kernel_rfl)) (fun _ _ _ _ _ => (dg_name 9 sc.nd)) (fun _ _ _ _ _ => (dts_one (dt_eq (hu_ hr) (de_ix (de_var 9) de_int) (de_var 7)))) (fun _ _ _ _ _ => (de_var 9)) (sw_true rfl rfl rfl (by decide +kernel))) (ds_cons (ds_asg (vs := [10, 11]) (de_callF [] ((H_l_alone.up (by decide)).pure) hr (He.glo_ok X0 G (c.fact 61 (f := .glo "_law_alone") (by rfl))) (fun _ _ => .nil) (fun _ => passAt0) (da_cons (de_var 8) da_nil) (sCons_len sNil_len)) (dg_tup (n := 2) rfl (dg_cons (dg_name 10 sc.nd) (dg_cons (dg_name 11 sc.nd) dg_nil)) rfl (pg_tup rfl (dg_cons (dg_name 10 sc.nd) (dg_cons (dg_name 11 sc.nd) dg_nil))) (pg_lst rfl (dg_cons (dg_name 10 sc.nd) (dg_cons (dg_name 11 sc.nd) dg_nil))))) (ds_cons (ds_if (dt_ne (hu_ hr) (de_callF [] (((H_cycle_of.up (by decide)).pure).shut) hr (He.glo_ok X0 G (c.fact 54 (f := .glo "cycle_of") (by rfl))) (fun _ _ => .nil) (fun _ => passAt0) (da_cons (de_lc false [("_law_talker", 9)] rfl sc.nd (di_any (de_var 8)) (blkOk_by (by kernel_rfl)) (fun _ _ _ _ _ => (dg_name 9 sc.nd)) (fun _ _ _ _ _ => dts_nil) (fun _ _ _ _ _ => (de_add (de_cut false (de_var 9) do_none (do_some de_int)) (de_tup (da_cons (de_lst da_nil) (da_cons (de_ix (de_var 9) de_int) da_nil)))))) da_nil) (sCons_len sNil_len)) (de_tup (da_cons de_int (da_cons (de_var 11) da_nil)))) (ds_one (ds_ret de_bl)) ds_nil) (ds_cons (ds_set 12 sc.nd (de_div (de_callF [] ((H_l_multiple.up (by decide)).pure) hr (He.glo_ok X0 G (c.fact 60 (f := .glo "_law_multiple") (by rfl))) (fun _ _ => .nil) (fun _ => passAt0) (da_cons (de_lst (da_cons (de_var 6) (da_cons (de_var 11) da_nil))) da_nil) (sCons_len sNil_len)) (de_var 6))) (ds_cons (ds_par (i := 5) (j := 6) rfl sc.nd (da_cons (de_mul (de_var 5) (de_var 12)) (da_cons (de_mul (de_div (de_mul (de_var 6) (de_var 12)) (de_var 11)) (de_var 10)) da_nil))) (ds_cons (ds_set 13 sc.nd (de_callF [] (((H_cycle_of.up (by decide)).pure).shut) hr (He.glo_ok X0 G (c.fact 54 (f := .glo "cycle_of") (by rfl))) (fun _ _ => .nil) (fun _ => passAt0) (da_cons (de_lc false [("_law_talker", 9)] rfl sc.nd (di_any (de_var 3)) (blkOk_by (by kernel_rfl)) (fun _ _ _ _ _ => (dg_name 9 sc.nd)) (fun _ _ _ _ _ => (dts_one (dt_le (de_ix (de_var 9) de_int) (de_var 7)))) (fun _ _ _ _ _ => (de_var 9))) da_nil) (sCons_len sNil_len))) (ds_cons (ds_if (DW.dt (dw_or (dt_ne (hu_ hr) (de_ix (de_var 13) de_int) (de_var 5)) (dw_or1 (dt_lt (de_ix (de_var 13) de_int) (de_ix (de_var 4) de_int))))) (ds_one (ds_ret de_bl)) ds_nil) (ds_one (ds_set 4 sc.nd (de_var 13))))))))))) (ds_cons (ds_if (DW.dt (dw_or (dt_ne (hu_ hr) (de_callF [] (((H_cycle_of.up (by decide)).pure).shut) hr (He.glo_ok X0 G (c.fact 54 (f := .glo "cycle_of") (by rfl))) (fun _ _ => .nil) (fun _ => passAt0) (da_cons (de_var 3) da_nil) (sCons_len sNil_len)) (de_var 4)) (dw_or1 (dt_ne (hu_ hr) (de_ix (de_callF [] (((H_cycle_of.up (by decide)).pure).shut) hr (He.glo_ok X0 G (c.fact 54 (f := .glo "cycle_of") (by rfl))) (fun _ _ => .nil) (fun _ => passAt0) (da_cons (de_cutS false (de_var 3) do_none do_none (do_some (de_neg de_int))) da_nil) (sCons_len sNil_len)) de_int) (de_ix (de_var 4) de_int))))) (ds_one (ds_ret de_bl)) ds_nil) (ds_cons (ds_set 14 sc.nd (de_sortset rfl (by rfl) (He.free_ok X0 G (c.fact 75 (f := .free "sorted") (by rfl))) (by rfl) (He.free_ok X0 G (c.fact 74 (f := .free "set") (by rfl))) (de_lc false [("_law_talker", 9)] rfl sc.nd (di_any (de_var 3)) (blkOk_by (by kernel_rfl)) (fun _ _ _ _ _ => (dg_name 9 sc.nd)) (fun _ _ _ _ _ => dts_nil) (fun _ _ _ _ _ => (de_ix (de_var 9) de_int))))) (ds_cons (ds_setLc (X := _) 15 false [("_law_talker", 9)] rfl sc.nd (di_any (de_var 3)) (blkOk_by (by kernel_rfl)) (fun _ _ _ _ _ => (dg_name 9 sc.nd)) (fun _ _ _ _ _ => dts_nil) (fun _ _ _ _ _ => (de_tup (da_cons (de_ix (de_var 9) de_int) (da_cons (de_add (de_index (de_var 14) (de_ix (de_var 9) de_int)) de_int) (da_cons (de_ix (de_var 9) de_int) (da_cons (de_ix (de_var 9) de_int) da_nil)))))) (sw_true rfl rfl rfl (by decide +kernel))) (ds_cons (ds_if (DW.dt (dw_or (dt_ne (hu_ hr) (de_callF [] (((H_cycle_of.up (by decide)).pure).shut) hr (He.glo_ok X0 G (c.fact 54 (f := .glo "cycle_of") (by rfl))) (fun _ _ => .nil) (fun _ => passAt0) (da_cons (de_var 15) da_nil) (sCons_len sNil_len)) (de_var 4)) (dw_or1 (dt_ne (hu_ hr) (de_callF [] (((H_shares_of_1.up (by decide)).pure).shut) hr (He.glo_ok X0 G (c.fact 55 (f := .glo "shares_of") (by rfl))) (fun _ _ => .nil) (fun _ => passAt0) (da_cons (de_var 15) da_nil) (sCons_len sNil_len)) (de_callF [] (((H_shares_of_1.up (by decide)).pure).shut) hr (He.glo_ok X0 G (c.fact 55 (f := .glo "shares_of") (by rfl))) (fun _ _ => .nil) (fun _ => passAt0) (da_cons (de_var 3) da_nil) (sCons_len sNil_len)))))) (ds_one (ds_ret de_bl)) ds_nil) (ds_one (ds_if (dt_ne (hu_ hr) (de_callF [] (((H_cycle_of.up (by decide)).pure).shut) hr (He.glo_ok X0 G (c.fact 54 (f := .glo "cycle_of") (by rfl))) (fun _ _ => .nil) (fun _ => passAt0) (da_cons (de_lc false [("_law_talker", 9)] rfl sc.nd (di_any (de_var 3)) (blkOk_by (by kernel_rfl)) (fun _ _ _ _ _ => (dg_name 9 sc.nd)) (fun _ _ _ _ _ => dts_nil) (fun _ _ _ _ _ => (de_add (de_cut false (de_var 9) do_none (do_some de_int)) (de_tup (da_cons (de_lst da_nil) (da_cons (de_ix (de_var 9) de_int) da_nil)))))) da_nil) (sCons_len sNil_len)) (de_tup (da_cons de_int (da_cons (de_ix (de_var 4) de_int) da_nil)))) (ds_one (ds_ret de_bl)) ds_nil))))))))))) (ds_one (ds_ret de_bl))))
end
def nm0 : List Str := ["HushError", "InvalidHall", "LETTERS", "MAX_NAME", "MAX_TIME", "MAX_RANK", "MAX_TALKS", "MAX_TALKERS", "is_integer", "is_sequence", "is_name", "is_talk", "are_talks", "is_talker", "is_hall", "running_sums", "Schedule", "Member", "checked_hall", "rank_length", "left_index", "tick_of", "run_of", "span_by", "common_divisor", "common_multiple", "RankCycle", "start_of", "cycle_of", "shares_of"]
def nm1 : List Str := ["_law_reel", "_law_draw", "_law_talks", "_law_hall", "_law_multiple", "_law_alone"]
def nm : List Str := nm0 ++ nm1
abbrev R : PySem.W.OpenRow := PySem.W.OpenLaw.row PySem.Challenge.rw_hushranks_k34_whole_cycles_of_ranks
abbrev hk : PySem.W.Hook := He.hookD 5 fa fn
def ob (s : PySem.W.SharedT) : He.AlD := He.obsDG 5 fa fn (HandSHeadRun.getT s)
theorem ob_eq (s : PySem.W.SharedT) : ob s = hk.obs s.abs := He.obsDG_eq (HandSHeadRun.getT_eq s)
set_option maxHeartbeats 0 in
theorem run (w : World) : HandSHeadRun.RunEq R (PySem.W.view R.prog [43]) hk ob 9000 nm w := by
  intro os
  kernel_rfl
theorem facts {P : Program} {w : World} {K : PySem.W.Frag} {h : Heap} {mg : Str → Option Value} {f : Addr} (X : K.In h) (G : h.Ns mainGlobals mg) (hfa : mg ("law" : Str) = some (.ref f)) (c : He.SaysD fa fn K) :
    ∃ fd : FuncData, (∀ (s : Shared) (v : Value), BindsTo s fd ⟨[v], []⟩ [("_law_script", v)]) ∧ ∀ base : Heap, K.In base → base.Ns mainGlobals mg → FnOk P w K mg base CX0 9 f fd ["_law_script"] (spN K 1 (Sh.law_k34 P w)) := by
  obtain ⟨fd, F⟩ := c.def_ 34 (d := d_law_k34) rfl
  have e := hfa.symm.trans (He.glo_ok X G (c.fact 62 (f := .glo "law") (by rfl)))
  cases e
  have b := FunD.bindsA (ps := ["_law_script"]) F (fun _ _ _ _ _ _ us hl => (match us, hl with | [_], _ => rfl))
  exact ⟨fd, (fun s v => b s [v] rfl), fun base KB GB => okb_law_k34 c KB GB F⟩
theorem holds_of (hg : ∀ (P : Program) (w : World) (ns : List Int), ns.length ≤ 63 → ∃ h', (Sh.law_k34 P w) [.scr (ns.map D.int)] [] = .ok (.bl true) h') : PySem.Challenge.rw_hushranks_k34_whole_cycles_of_ranks.Holds := by
  open PySem PySem.W PySem.Calls PyProof.Rows in
  w_on; o_law
  refine HandSHeadRun.head_any (r := R) (q := PySem.W.view R.prog [43]) (H := hk) (ob := ob) (M := 9000) (loose := nm) (d := HandSHeadRun.topDef R.prog 43) (kwd := []) ob_eq
    (by kernel_rfl) (fun s => by kernel_rfl) run (by kernel_rfl) (by kernel_rfl) (by kernel_rfl) (by rfl) (by first | assumption | decide +kernel) (by decide +kernel) ⟨rfl, rfl, rfl, rfl, rfl, by decide +kernel⟩ ?hw ?hc
  case hw => w_witness2
  case hc =>
    refine L2.walk_ofE (l := PySem.Challenge.rw_hushranks_k34_whole_cycles_of_ranks) (n := 63) (k := 9) (x := "_law_script") (CX := CX0) rfl (by decide) (by kernel_rfl) ⟨rfl, by decide, by decide⟩ ?F (fun _ _ _ _ z => z)
    intro w mg fa h Y G hmg0
    obtain ⟨K, KX, c⟩ := Y
    have hmg : mg ("law" : PySem.Str) = some (.ref fa) := by
      have e : (HandSHeadRun.topDef R.prog 43).name = ("law" : PySem.Str) := by kernel_rfl
      rw [← e]
      exact hmg0
    obtain ⟨fd, hb, hF⟩ := facts (P := (PySem.Challenge.rw_hushranks_k34_whole_cycles_of_ranks).prog) (w := w) KX G hmg c
    exact ⟨K, fd, spN K 1 (Sh.law_k34 (PySem.Challenge.rw_hushranks_k34_whole_cycles_of_ranks).prog w), KX, hb, (fun H a ns hl hO hS => law_sp (hg _ _) H a ns hl hO hS), hF⟩
end Tk34
end HR
theorem PySem.Challenge.cw_hushranks_k34_whole_cycles_of_ranks_holds : PySem.Challenge.rw_hushranks_k34_whole_cycles_of_ranks.Holds := by
  exact HR.Tk34.holds_of HR.law34
