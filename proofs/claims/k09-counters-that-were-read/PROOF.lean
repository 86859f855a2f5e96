import PyProof.Rows.All
import Wide.All
import OpenK.AllK
import Wide.FinOn
import HandS.ForMost
import HandS.Exc
import HandS.WordsExc
import HandS.TupAny
import HandS.Wide
import HandS.EndBits
import KE.DataMinMax
import KE.KTupSum
import HandS.Defaults
import HandS.Property
import HandS.MakeKwOnly
import HandS.TupMul
import PyProof.ReprLen
import PyProof.ReprRoads
import HandS.Iter
import HandS.IsInst
import HandS.Deep
import HandS.ExcInit
import HandS.ExcField
import HandS.TryMany
import HandS.Style
import HandS.SortInts
import PySem.Challenge.RW_spanvault_k09_whole_counters_that_were_r
set_option Elab.async false
set_option maxRecDepth 100000
set_option maxHeartbeats 4000000
set_option linter.all false
set_option pp.maxSteps 1500
set_option pp.deepTerms false
/-! Z1: a calculus over values. F: the region of the objects that never change (data); Mem: the objects that may change; all else in the heap is the frame. -/
namespace Z
open PySem PySem.Spec L2
set_option linter.all false

/-- what a name holds: data that never change, an object of the memory, a raw value -/
inductive Ent where
  | d (d : PyData)
  | x (a : Addr)
  | v (v : V)

/-- an object that may change -/
inductive XO where
  | lst (es : List Ent)
  | ins (C : Addr) (fs : List (Str × Ent))
  | dct (kes : List (Key × Ent))
  | set (S : Int → Bool) (n : Nat)
  | exc (fs : List (Str × Ent))
  | err (c : Value) (d : Option Addr)

/-- a caught exception: its class, its dict -/
def exT (a : Addr) (c : Value) (d : Option Addr) : HO := .ext fun h => ∃ oe vs, h.get? a = some oe ∧ Zc c d oe ∧ oe.data = .fields vs
abbrev Mem := Addr → Option XO
abbrev Nm := List (Option Ent)
def Mem.put (m : Mem) (a : Addr) (o : XO) : Mem := fun b => if b = a then some o else m b
theorem Mem.put_same {m : Mem} {a : Addr} {o : XO} : m.put a o a = some o := if_pos rfl
theorem Mem.put_ne {m : Mem} {a b : Addr} {o : XO} (h : b ≠ a) : m.put a o b = m b := if_neg h
theorem Mem.put_put {m : Mem} {a : Addr} {o u : XO} : (m.put a o).put a u = m.put a u := by
  funext b
  by_cases h : b = a <;> simp [Mem.put, h]
/-- an object is forgotten -/
def Mem.drop (m : Mem) (a : Addr) : Mem := fun b => if b = a then none else m b
theorem Mem.drop_put {m : Mem} {a : Addr} {o : XO} (h : m a = none) : (m.put a o).drop a = m := by
  funext b
  by_cases hb : b = a
  · subst hb; simp [Mem.put, Mem.drop, h]
  · simp [Mem.put, Mem.drop, hb]

mutual
/-- a value reads as these data, all of whose objects stand in the region -/
inductive Rp (K : PySem.W.Frag) (F : Hp) : V → PyData → Prop
  | non : Rp K F .non .none
  | bl (b : Bool) : Rp K F (.bl b) (.bool b)
  | int (i : Int) : Rp K F (.int i) (.int i)
  | str (x : Str) : Rp K F (.str x) (.str x)
  | lst {a : Addr} {xs : List V} {ds : List PyData} : SqL K F a xs → RpAll K F xs ds → Rp K F (.ref a) (.list ds)
  | tup {a : Addr} {xs : List V} {ds : List PyData} : SqT K F a xs → RpAll K F xs ds → Rp K F (.ref a) (.tuple ds)
  | nodict {a : Addr} : Rd F a (.dK []) → Rp K F (.ref a) (.dict [])
inductive RpAll (K : PySem.W.Frag) (F : Hp) : List V → List PyData → Prop
  | nil : RpAll K F [] []
  | cons {v : V} {vs : List V} {d : PyData} {ds : List PyData} : Rp K F v d → RpAll K F vs ds → RpAll K F (v :: vs) (d :: ds)
end

def EntOk (K : PySem.W.Frag) (F : Hp) (v : V) : Ent → Prop
  | .d d => Rp K F v d
  | .x a => v = .ref a
  | .v u => v = u
abbrev Ents (K : PySem.W.Frag) (F : Hp) : List V → List Ent → Prop := Paired (EntOk K F)
def XOk (K : PySem.W.Frag) (F H : Hp) (a : Addr) : XO → Prop
  | .lst es => ∃ xs, H a = some (.lst xs) ∧ Ents K F xs es
  | .ins C fs => ∃ dx ys, H a = some (.ins C dx ys) ∧ Paired (fun (p : Str × V) (q : Str × Ent) => p.1 = q.1 ∧ EntOk K F p.2 q.2) ys fs
  | .dct kes => ∃ kvs, H a = some (.dK kvs) ∧ Paired (fun (p : Key × V) (q : Key × Ent) => p.1 = q.1 ∧ EntOk K F p.2 q.2) kvs kes
  | .set S n => H a = some (.set S n)
  | .exc fs => ∃ ys, H a = some (.xd ys) ∧ Paired (fun (p : Str × V) (q : Str × Ent) => p.1 = q.1 ∧ EntOk K F p.2 q.2) ys fs
  | .err c d => H a = some (exT a c d)
structure MOk (K : PySem.W.Frag) (F : Hp) (m : Mem) (H : Hp) : Prop where
  sub : ∀ a o, F a = some o → H a = some o
  out : ∀ a o, m a = some o → F a = none
  obj : ∀ a o, m a = some o → XOk K F H a o
structure Step (F : Hp) (m : Mem) (H F' : Hp) (m' : Mem) (H' : Hp) : Prop where
  fr : ∀ a o, F a = some o → F' a = some o
  st : ∀ a o, H a = some o → m a = none → H' a = some o
  nf : ∀ a, F a = none → F' a ≠ none → H a = none ∨ m a ≠ none
  nm : ∀ a, m a = none → m' a ≠ none → H a = none
def Slots (K : PySem.W.Frag) (F : Hp) (σ : St) (n : Nm) : Prop := n.length = σ.length ∧ ∀ (i : Nat) (e : Ent), n[i]? = some (some e) → ∃ v, σ[i]? = some (some v) ∧ EntOk K F v e
abbrev Inc (F F' : Hp) : Prop := ∀ a o, F a = some o → F' a = some o

theorem Step.refl {F : Hp} {m : Mem} {H : Hp} : Step F m H F m H := ⟨fun _ _ h => h, fun _ _ h _ => h, fun _ h k => absurd h k, fun _ h k => absurd h k⟩
theorem Step.trans {F F1 F2 : Hp} {m m1 m2 : Mem} {H H1 H2 : Hp} (x : Step F m H F1 m1 H1) (y : Step F1 m1 H1 F2 m2 H2) : Step F m H F2 m2 H2 := by
  have nm1 : ∀ a o, H a = some o → m a = none → m1 a = none := fun a o h hm => by
    cases q : m1 a with
    | none => rfl
    | some u =>
      have := x.nm a hm (by rw [q]; exact fun z => nomatch z)
      rw [h] at this
      cases this
  have back : ∀ a, H1 a = none → H a = none ∨ m a ≠ none := fun a h => by
    cases q : m a with
    | some u => exact .inr fun z => nomatch z
    | none =>
      cases r : H a with
      | none => exact .inl rfl
      | some o =>
        rw [x.st a o r q] at h
        cases h
  refine ⟨fun a o h => y.fr a o (x.fr a o h), fun a o h hm => y.st a o (x.st a o h hm) (nm1 a o h hm), fun a h k => ?_, fun a h k => ?_⟩
  · cases q : F1 a with
    | some u => exact x.nf a h (by rw [q]; exact fun z => nomatch z)
    | none =>
      rcases y.nf a q k with z | z
      · exact back a z
      · cases r : m a with
        | some u => exact .inr fun z => nomatch z
        | none => exact .inl (x.nm a r z)
  · cases q : m1 a with
    | some u => exact x.nm a h (by rw [q]; exact fun z => nomatch z)
    | none =>
      rcases back a (y.nm a q k) with z | z
      · exact z
      · exact absurd h z

section
variable {K : PySem.W.Frag} {F F' : Hp} {m m' : Mem} {H H' : Hp}
theorem rdi {a : Addr} {u : HO} (s : Inc F F') (h : Rd F a u) : Rd F' a u := by
  rcases h with h | ⟨o, h⟩
  · exact .inl (s a _ h)
  · exact .inr ⟨o, s a _ h⟩
theorem sqLi {a : Addr} {xs : List V} (s : Inc F F') (h : SqL K F a xs) : SqL K F' a xs := h.elim (fun h => .inl (rdi s h)) .inr
theorem sqTi {a : Addr} {xs : List V} (s : Inc F F') (h : SqT K F a xs) : SqT K F' a xs := h.elim (fun h => .inl (rdi s h)) .inr
mutual
theorem Rp.inc (s : Inc F F') : ∀ {v : V} {d : PyData}, Rp K F v d → Rp K F' v d
  | _, _, .non => .non
  | _, _, .bl b => .bl b
  | _, _, .int i => .int i
  | _, _, .str x => .str x
  | _, _, .lst h r => .lst (sqLi s h) (RpAll.inc s r)
  | _, _, .tup h r => .tup (sqTi s h) (RpAll.inc s r)
  | _, _, .nodict h => .nodict (rdi s h)
theorem RpAll.inc (s : Inc F F') : ∀ {vs : List V} {ds : List PyData}, RpAll K F vs ds → RpAll K F' vs ds
  | _, _, .nil => .nil
  | _, _, .cons r t => .cons (Rp.inc s r) (RpAll.inc s t)
end
theorem EntOk.inc (s : Inc F F') {v : V} {e : Ent} (h : EntOk K F v e) : EntOk K F' v e := by
  cases e with
  | d d => exact Rp.inc s h
  | x a => exact h
  | v u => exact h
theorem Paired.imp {α β : Type} {F G : α → β → Prop} (f : ∀ a b, F a b → G a b) : ∀ {l : List α} {k : List β}, Paired F l k → Paired G l k
  | _, _, .nil => .nil
  | _, _, .cons r t => .cons (f _ _ r) (Paired.imp f t)
theorem Ents.inc (s : Inc F F') {vs : List V} {es : List Ent} (h : Ents K F vs es) : Ents K F' vs es := Paired.imp (fun _ _ r => EntOk.inc s r) h
theorem Slots.inc {σ : St} {n : Nm} (s : Inc F F') (h : Slots K F σ n) : Slots K F' σ n :=
  ⟨h.1, fun i e q => let ⟨v, h1, h2⟩ := h.2 i e q; ⟨v, h1, EntOk.inc s h2⟩⟩
theorem RpAll.length : ∀ {vs : List V} {ds : List PyData}, RpAll K F vs ds → vs.length = ds.length
  | _, _, .nil => rfl
  | _, _, .cons _ t => by rw [List.length_cons, List.length_cons, RpAll.length t]
theorem RpAll.ents : ∀ {vs : List V} {ds : List PyData}, RpAll K F vs ds → Ents K F vs (ds.map .d)
  | _, _, .nil => .nil
  | _, _, .cons r t => .cons r (RpAll.ents t)
theorem RpAll.of_ents : ∀ {ds : List PyData} {vs : List V}, Ents K F vs (ds.map .d) → RpAll K F vs ds
  | [], _, .nil => .nil
  | _ :: _, _, .cons r t => .cons r (RpAll.of_ents t)
theorem RpAll.get : ∀ {vs : List V} {ds : List PyData} {i : Nat} {d : PyData}, RpAll K F vs ds → ds[i]? = some d → ∃ v, vs[i]? = some v ∧ Rp K F v d
  | _, _, _, _, .nil, e => by simp at e
  | _, _, 0, _, .cons r _, e => by simp at e; subst e; exact ⟨_, rfl, r⟩
  | _, _, i + 1, d, .cons _ t, e => by
    obtain ⟨v, h1, h2⟩ := RpAll.get (i := i) (d := d) t (by simpa using e)
    exact ⟨v, by simpa using h1, h2⟩
theorem RpAll.get' : ∀ {vs : List V} {ds : List PyData} {i : Nat} {v : V}, RpAll K F vs ds → vs[i]? = some v → ∃ d, ds[i]? = some d ∧ Rp K F v d
  | _, _, _, _, .nil, e => by simp at e
  | _, _, 0, _, .cons r _, e => by simp at e; subst e; exact ⟨_, rfl, r⟩
  | _, _, i + 1, v, .cons _ t, e => by
    obtain ⟨d, h1, h2⟩ := RpAll.get' (i := i) (v := v) t (by simpa using e)
    exact ⟨d, by simpa using h1, h2⟩
theorem Slots.set {σ : St} {n : Nm} (h : Slots K F σ n) {i : Nat} {v : V} {e : Ent} (r : EntOk K F v e) : Slots K F (σ.set i (some v)) (n.set i (some e)) := by
  refine ⟨by rw [List.length_set, List.length_set]; exact h.1, fun j q hq => ?_⟩
  by_cases hj : i = j
  · subst hj
    have hl : i < n.length := by
      by_cases hl : i < n.length
      · exact hl
      · rw [List.getElem?_eq_none (by rw [List.length_set]; omega)] at hq
        cases hq
    rw [List.getElem?_set_self hl] at hq
    cases hq
    exact ⟨v, List.getElem?_set_self (h.1 ▸ hl), r⟩
  · rw [List.getElem?_set_ne hj] at hq
    obtain ⟨u, h1, h2⟩ := h.2 j q hq
    exact ⟨u, by rw [List.getElem?_set_ne hj]; exact h1, h2⟩
theorem Rp.sqL {v : V} {ds : List PyData} (h : Rp K F v (.list ds)) : ∃ a xs, v = .ref a ∧ SqL K F a xs ∧ RpAll K F xs ds := by
  cases h with
  | lst h r => exact ⟨_, _, rfl, h, r⟩
theorem Rp.sqT {v : V} {ds : List PyData} (h : Rp K F v (.tuple ds)) : ∃ a xs, v = .ref a ∧ SqT K F a xs ∧ RpAll K F xs ds := by
  cases h with
  | tup h r => exact ⟨_, _, rfl, h, r⟩
mutual
def nodict : PyData → Bool
  | .dict _ => false
  | .list xs => nodictAll xs
  | .tuple xs => nodictAll xs
  | _ => true
def nodictAll : List PyData → Bool
  | [] => true
  | x :: xs => nodict x && nodictAll xs
end
mutual
theorem Rp.dp : ∀ {v : V} {d : PyData}, Rp K F v d → nodict d = true → Dp K F v d
  | _, _, .non, _ => .non
  | _, _, .bl b, _ => .bl b
  | _, _, .int i, _ => .int i
  | _, _, .str x, _ => .str x
  | _, _, .lst h r, hd => .lst h (RpAll.dp r (by simpa [nodict] using hd))
  | _, _, .tup h r, hd => .tup h (RpAll.dp r (by simpa [nodict] using hd))
  | _, _, .nodict _, hd => by simp [nodict] at hd
theorem RpAll.dp : ∀ {vs : List V} {ds : List PyData}, RpAll K F vs ds → nodictAll ds = true → DpAll K F vs ds
  | _, _, .nil, _ => .nil
  | _, _, .cons r t, hd => by
    simp only [nodictAll, Bool.and_eq_true] at hd
    exact .cons (Rp.dp r hd.1) (RpAll.dp t hd.2)
end
theorem MOk.there {a : Addr} {o : XO} (h : MOk K F m H) (e : m a = some o) : ∃ u, H a = some u := by
  have q := h.obj a o e
  cases o with
  | lst es => obtain ⟨_, q, _⟩ := q; exact ⟨_, q⟩
  | ins C fs => obtain ⟨_, _, q, _⟩ := q; exact ⟨_, q⟩
  | dct kes => obtain ⟨_, q, _⟩ := q; exact ⟨_, q⟩
  | set S n => exact ⟨_, q⟩
  | exc fs => obtain ⟨_, q, _⟩ := q; exact ⟨_, q⟩
  | err c d => exact ⟨_, q⟩
theorem MOk.fresh {a : Addr} (h : MOk K F m H) (e : H a = none) : m a = none := by
  cases q : m a with
  | none => rfl
  | some o =>
    obtain ⟨u, hu⟩ := h.there q
    rw [e] at hu
    cases hu
theorem MOk.freshF {a : Addr} (h : MOk K F m H) (e : H a = none) : F a = none := by
  cases q : F a with
  | none => rfl
  | some o =>
    rw [h.sub a o q] at e
    cases e
theorem XOk.inc {a : Addr} {o : XO} (s : Inc F F') (hk : ∀ u, H a = some u → H' a = some u) (h : XOk K F H a o) : XOk K F' H' a o := by
  cases o with
  | lst es => obtain ⟨xs, q, r⟩ := h; exact ⟨xs, hk _ q, Ents.inc s r⟩
  | ins C fs => obtain ⟨dx, ys, q, r⟩ := h; exact ⟨dx, ys, hk _ q, Paired.imp (fun _ _ z => ⟨z.1, EntOk.inc s z.2⟩) r⟩
  | dct kes => obtain ⟨kvs, q, r⟩ := h; exact ⟨kvs, hk _ q, Paired.imp (fun _ _ z => ⟨z.1, EntOk.inc s z.2⟩) r⟩
  | set S n => exact hk _ h
  | exc fs => obtain ⟨ys, q, r⟩ := h; exact ⟨ys, hk _ q, Paired.imp (fun _ _ z => ⟨z.1, EntOk.inc s z.2⟩) r⟩
  | err c d => exact hk _ h
theorem Inc.upd {p : Addr} {o : HO} (hp : F p = none) : Inc F (upd F p o) := fun a u e => by rw [upd_ne (ne_of_none e hp)]; exact e
/-- a new object of the region -/
theorem MOk.newF {p : Addr} {o : HO} (h : MOk K F m H) (hp : H p = none) : MOk K (upd F p o) m (upd H p o) := by
  have fp := h.freshF hp
  refine ⟨fun a u e => ?_, fun a u e => ?_, fun a u e => XOk.inc (Inc.upd fp) (fun z hz => by rw [upd_ne (ne_of_none hz hp)]; exact hz) (h.obj a u e)⟩
  · by_cases ha : a = p
    · subst ha; rw [upd_same] at e ⊢; exact e
    · rw [upd_ne ha] at e ⊢; exact h.sub a u e
  · have ha : a ≠ p := fun q => by rw [q, h.fresh hp] at e; cases e
    rw [upd_ne ha]
    exact h.out a u e
theorem Step.newF {p : Addr} {o : HO} (h : MOk K F m H) (hp : H p = none) : Step F m H (upd F p o) m (upd H p o) := by
  refine ⟨Inc.upd (h.freshF hp), fun a u e _ => by rw [upd_ne (ne_of_none e hp)]; exact e, fun a e k => ?_, fun a e k => absurd e k⟩
  by_cases ha : a = p
  · subst ha; exact .inl hp
  · rw [upd_ne ha] at k; exact absurd e k
/-- a new object of the memory -/
theorem MOk.newX {p : Addr} {o : HO} {u : XO} (h : MOk K F m H) (hp : H p = none) (r : XOk K F (upd H p o) p u) : MOk K F (m.put p u) (upd H p o) := by
  refine ⟨fun a z e => by rw [upd_ne (ne_of_none (h.sub a z e) hp)]; exact h.sub a z e, fun a z e => ?_, fun a z e => ?_⟩
  · by_cases ha : a = p
    · subst ha; exact h.freshF hp
    · rw [Mem.put_ne ha] at e; exact h.out a z e
  · by_cases ha : a = p
    · subst ha
      rw [Mem.put_same] at e
      cases e
      exact r
    · rw [Mem.put_ne ha] at e
      exact XOk.inc (fun _ _ z => z) (fun w hw => by rw [upd_ne ha]; exact hw) (h.obj a z e)
theorem Step.newX {p : Addr} {o : HO} {u : XO} (hp : H p = none) : Step F m H F (m.put p u) (upd H p o) := by
  refine ⟨fun _ _ h => h, fun a z e _ => by rw [upd_ne (ne_of_none e hp)]; exact e, fun a e k => absurd e k, fun a e k => ?_⟩
  by_cases ha : a = p
  · subst ha; exact hp
  · rw [Mem.put_ne ha] at k; exact absurd e k
/-- an object of the memory changes -/
theorem MOk.mut {p : Addr} {o : HO} {u u' : XO} (h : MOk K F m H) (hp : m p = some u) (r : XOk K F (upd H p o) p u') : MOk K F (m.put p u') (upd H p o) := by
  have np : ∀ a z, F a = some z → a ≠ p := fun a z e q => by rw [q, h.out p u hp] at e; cases e
  refine ⟨fun a z e => by rw [upd_ne (np a z e)]; exact h.sub a z e, fun a z e => ?_, fun a z e => ?_⟩
  · by_cases ha : a = p
    · subst ha; exact h.out a u hp
    · rw [Mem.put_ne ha] at e; exact h.out a z e
  · by_cases ha : a = p
    · subst ha
      rw [Mem.put_same] at e
      cases e
      exact r
    · rw [Mem.put_ne ha] at e
      exact XOk.inc (fun _ _ z => z) (fun w hw => by rw [upd_ne ha]; exact hw) (h.obj a z e)
theorem Step.mut {p : Addr} {o : HO} {u u' : XO} (hp : m p = some u) : Step F m H F (m.put p u') (upd H p o) := by
  refine ⟨fun _ _ h => h, fun a z e hm => ?_, fun a e k => absurd e k, fun a e k => ?_⟩
  · have ha : a ≠ p := fun q => by rw [q, hp] at hm; cases hm
    rw [upd_ne ha]
    exact e
  · by_cases ha : a = p
    · subst ha; rw [hp] at e; cases e
    · rw [Mem.put_ne ha] at k; exact absurd e k
/-- objects of the memory are forgotten -/
def Mem.Sub (m' m : Mem) : Prop := ∀ a o, m' a = some o → m a = some o
theorem Sub.none {a : Addr} (h : Mem.Sub m' m) (e : m a = none) : m' a = none := by
  cases q : m' a with
  | none => rfl
  | some o =>
    rw [h a o q] at e
    cases e
theorem Step.sub (h : Mem.Sub m' m) : Step F m H F m' H := ⟨fun _ _ h => h, fun _ _ e _ => e, fun _ e k => absurd e k, fun a e k => absurd (Sub.none h e) k⟩
theorem MOk.less (h : Mem.Sub m' m) (ok : MOk K F m H) : MOk K F m' H := ⟨ok.sub, fun a o e => ok.out a o (h a o e), fun a o e => ok.obj a o (h a o e)⟩
theorem Sub.refl {m : Mem} : Mem.Sub m m := fun _ _ h => h
theorem Sub.put {a : Addr} {o : XO} (h : Mem.Sub m' m) : Mem.Sub (m'.put a o) (m.put a o) := fun b u e => by
  by_cases hb : b = a
  · subst hb
    rw [Mem.put_same] at e ⊢
    exact e
  · rw [Mem.put_ne hb] at e ⊢
    exact h b u e
theorem Sub.new {a : Addr} {o : XO} (h : m a = Option.none) : Mem.Sub m (m.put a o) := fun b u e => by
  rw [Mem.put_ne (fun q => by rw [q, h] at e; cases e)]
  exact e
theorem Sub.trans {m1 m2 m3 : Mem} (a : Mem.Sub m1 m2) (b : Mem.Sub m2 m3) : Mem.Sub m1 m3 := fun c o h => b c o (a c o h)
theorem Sub.drop {m : Mem} {a : Addr} : Mem.Sub (m.drop a) m := fun b u e => by
  unfold Mem.drop at e
  by_cases hb : b = a
  · rw [if_pos hb] at e; cases e
  · rw [if_neg hb] at e; exact e
/-- a list of data in the memory becomes data -/
theorem MOk.freeze {p : Addr} {ds : List PyData} (h : MOk K F m H) (hp : m p = some (.lst (ds.map .d))) :
    ∃ F', MOk K F' (m.drop p) H ∧ Step F m H F' (m.drop p) H ∧ Rp K F' (.ref p) (.list ds) := by
  obtain ⟨xs, hx, r⟩ := h.obj p _ hp
  have fp := h.out p _ hp
  have inc : Inc F (upd F p (.lst xs)) := Inc.upd fp
  refine ⟨upd F p (.lst xs), ⟨fun a o e => ?_, fun a o e => ?_, fun a o e => XOk.inc inc (fun _ z => z) (h.obj a o (Sub.drop a o e))⟩, ⟨inc, fun _ _ e _ => e, fun a e k => ?_, fun a e k => ?_⟩, .lst (.inl (.inl upd_same)) (RpAll.inc inc (RpAll.of_ents r))⟩
  · by_cases ha : a = p
    · subst ha; rw [upd_same] at e; cases e; exact hx
    · rw [upd_ne ha] at e; exact h.sub a o e
  · have ha : a ≠ p := fun q => by
      unfold Mem.drop at e
      rw [if_pos q] at e
      cases e
    rw [upd_ne ha]
    exact h.out a o (Sub.drop a o e)
  · by_cases ha : a = p
    · subst ha; exact .inr (by rw [hp]; exact fun z => nomatch z)
    · rw [upd_ne ha] at k; exact absurd e k
  · exact absurd (Sub.none (m' := m.drop p) (m := m) Sub.drop e) k
end
end Z

/-! Z2: the judgements over values. -/
namespace Z
open PySem PySem.Spec L2
set_option linter.all false

/-! ### what is wanted of a piece of syntax, as a reading -/
def wpE (X : Cx) (e : Expr) : TE := fun σ H Q => ∀ pins s, Inv X pins σ H s → wpAny (model X.prog X.w) X.A (eval e X.env) (EP X pins σ Q) X.xe s
def wpT (X : Cx) (e : Expr) : TT := fun σ H Q => ∀ pins s, Inv X pins σ H s → wpAny (model X.prog X.w) X.A (isTrue e X.env (eval e X.env)) (TP X pins σ Q) X.xe s
def wpW (X : Cx) (e : Expr) : TT := fun σ H Q => ∀ whole pins s, Inv X pins σ H s → wpAny (model X.prog X.w) X.A (isTrue e X.env whole) (TP X pins σ Q) X.xe s
def wpA (X : Cx) (es : List Expr) : TA := fun σ H Q => ∀ pos pins s, Inv X pins σ H s → wpAny (model X.prog X.w) X.A (spliced (backTo pos (starEach es X.env))) (AP X pins σ Q) X.xe s
def wpS (X : Cx) (st : Stmt) : TS := fun D σ H => ∀ pins s, Inv X pins σ H s → wpAny (model X.prog X.w) X.A (exec st X.env) (SP X pins D) X.xe s
def wpB (X : Cx) (st : List Stmt) : TS := fun D σ H => ∀ pins s, Inv X pins σ H s → wpAny (model X.prog X.w) X.A (execs st X.env) (SP X pins D) X.xe s
def wpG (X : Cx) (tg : Expr) : TG := fun v σ H Q => ∀ pins s u, Inv X pins σ H s → RelV v u → wpAny (model X.prog X.w) X.A (assign tg X.env u) (fun _ s' => ∃ σ' H', Inv X pins σ' H' s' ∧ Q σ' H') X.xe s
def wpGs (X : Cx) (ts : List Expr) : TGs := fun vs σ H Q => ∀ pins s us, Inv X pins σ H s → Vals vs us → wpAny (model X.prog X.w) X.A (assignInOrder ((assignEach ts X.env).map (·.2)) us) (fun _ s' => ∃ σ' H', Inv X pins σ' H' s' ∧ Q σ' H') X.xe s
def wpI (X : Cx) (tg iter : Expr) : TI := fun σ H R => ∀ pins s, Inv X pins σ H s → wpAny (model X.prog X.w) X.A (eval iter X.env) (fun v s1 => wpAny (model X.prog X.w) X.A (pyIter v) (PIE X pins σ tg R) X.xe s1) X.xe s
section
variable {X : Cx} {e tg iter : Expr} {es : List Expr} {st : Stmt} {sts : List Stmt} {σ : St} {H : Hp}
theorem pe_wp : PE X e (wpE X e) := ⟨fun pins s _ _ _ I h => h pins s I⟩
theorem pt_wp : PT X e (wpT X e) := ⟨fun pins s _ _ _ I h => h pins s I⟩
theorem pw_wp : PW X e (wpW X e) := ⟨fun wh pins s _ _ _ I h => h wh pins s I⟩
theorem pa_wp : PA X es (wpA X es) := ⟨fun pos pins s _ _ _ I h => h pos pins s I⟩
theorem ps_wp : PS X st (wpS X st) := ⟨fun pins s _ _ _ I h => h pins s I⟩
theorem pb_wp : PSs X sts (wpB X sts) := ⟨fun pins s _ _ _ I h => h pins s I⟩
theorem pg_wp : PG X tg (wpG X tg) := ⟨fun pins s _ _ _ u _ I r h => h pins s u I r⟩
theorem pgs_wp : PGs X es (wpGs X es) := ⟨fun pins s _ _ _ us _ I r h => h pins s us I r⟩
theorem pi_wp : PI X tg iter (wpI X tg iter) := ⟨fun pins s _ _ _ I h => h pins s I⟩
theorem wpE.of {t : TE} {Q : VK} (h : PE X e t) (q : t σ H Q) : wpE X e σ H Q := fun pins s I => h.run pins s σ H Q I q
theorem wpT.of {t : TT} {Q} (h : PT X e t) (q : t σ H Q) : wpT X e σ H Q := fun pins s I => h.run pins s σ H Q I q
theorem wpW.of {t : TT} {Q} (h : PW X e t) (q : t σ H Q) : wpW X e σ H Q := fun wh pins s I => h.run wh pins s σ H Q I q
theorem wpA.of {t : TA} {Q} (h : PA X es t) (q : t σ H Q) : wpA X es σ H Q := fun pos pins s I => h.run pos pins s σ H Q I q
theorem wpS.of {t : TS} {D : Ends} (h : PS X st t) (q : t D σ H) : wpS X st D σ H := fun pins s I => h.run pins s σ H D I q
theorem wpB.of {t : TS} {D : Ends} (h : PSs X sts t) (q : t D σ H) : wpB X sts D σ H := fun pins s I => h.run pins s σ H D I q
theorem wpG.of {t : TG} {v : V} {Q} (h : PG X tg t) (q : t v σ H Q) : wpG X tg v σ H Q := fun pins s u I r => h.run pins s σ H v u Q I r q
theorem wpGs.of {t : TGs} {vs : List V} {Q} (h : PGs X es t) (q : t vs σ H Q) : wpGs X es vs σ H Q := fun pins s us I r => h.run pins s σ H vs us Q I r q
theorem wpI.of {t : TI} {R} (h : PI X tg iter t) (q : t σ H R) : wpI X tg iter σ H R := fun pins s I => h.run pins s σ H R I q
theorem wpE.mono {Q Q' : VK} (h : wpE X e σ H Q) (k : ∀ v H', Q v H' → Q' v H') : wpE X e σ H Q' := fun pins s I => thn (h pins s I) fun _ _ ⟨v, H', I', r, q⟩ => ⟨v, H', I', r, k v H' q⟩
theorem wpT.mono {Q Q'} (h : wpT X e σ H Q) (k : ∀ v H', Q v H' → Q' v H') : wpT X e σ H Q' := fun pins s I => thn (h pins s I) fun _ _ ⟨H', I', q⟩ => ⟨H', I', k _ H' q⟩
theorem wpW.mono {Q Q'} (h : wpW X e σ H Q) (k : ∀ v H', Q v H' → Q' v H') : wpW X e σ H Q' := fun wh pins s I => thn (h wh pins s I) fun _ _ ⟨H', I', q⟩ => ⟨H', I', k _ H' q⟩
theorem wpA.mono {Q Q'} (h : wpA X es σ H Q) (k : ∀ v H', Q v H' → Q' v H') : wpA X es σ H Q' := fun pos pins s I => thn (h pos pins s I) fun _ _ ⟨v, H', I', r, q⟩ => ⟨v, H', I', r, k v H' q⟩
theorem SP.mono {pins : List (Addr × Obj)} {D D' : Ends} (h1 : ∀ σ H, D.nx σ H → D'.nx σ H) (h2 : ∀ v H, D.rt v H → D'.rt v H) (h3 : ∀ σ H, D.bk σ H → D'.bk σ H) (h4 : ∀ σ H, D.ct σ H → D'.ct σ H) {f : Flow} {s' : Shared} (h : SP X pins D f s') : SP X pins D' f s' := by
  cases f with
  | next => obtain ⟨a, b, c, q⟩ := h; exact ⟨a, b, c, h1 _ _ q⟩
  | brk => obtain ⟨a, b, c, q⟩ := h; exact ⟨a, b, c, h3 _ _ q⟩
  | cont => obtain ⟨a, b, c, q⟩ := h; exact ⟨a, b, c, h4 _ _ q⟩
  | ret u => obtain ⟨v, a, b, c, r, q⟩ := h; exact ⟨v, a, b, c, r, h2 _ _ q⟩
theorem wpS.mono {D D' : Ends} (h : wpS X st D σ H) (h1 : ∀ σ H, D.nx σ H → D'.nx σ H) (h2 : ∀ v H, D.rt v H → D'.rt v H) (h3 : ∀ σ H, D.bk σ H → D'.bk σ H) (h4 : ∀ σ H, D.ct σ H → D'.ct σ H) : wpS X st D' σ H :=
  fun pins s I => thn (h pins s I) fun _ _ q => SP.mono h1 h2 h3 h4 q
theorem wpB.mono {D D' : Ends} (h : wpB X sts D σ H) (h1 : ∀ σ H, D.nx σ H → D'.nx σ H) (h2 : ∀ v H, D.rt v H → D'.rt v H) (h3 : ∀ σ H, D.bk σ H → D'.bk σ H) (h4 : ∀ σ H, D.ct σ H → D'.ct σ H) : wpB X sts D' σ H :=
  fun pins s I => thn (h pins s I) fun _ _ q => SP.mono h1 h2 h3 h4 q
theorem wpG.mono {v : V} {Q Q' : St → Hp → Prop} (h : wpG X tg v σ H Q) (k : ∀ σ H', Q σ H' → Q' σ H') : wpG X tg v σ H Q' := fun pins s u I r => thn (h pins s u I r) fun _ _ ⟨a, b, I', q⟩ => ⟨a, b, I', k _ _ q⟩
theorem wpGs.mono {vs : List V} {Q Q' : St → Hp → Prop} (h : wpGs X es vs σ H Q) (k : ∀ σ H', Q σ H' → Q' σ H') : wpGs X es vs σ H Q' := fun pins s u I r => thn (h pins s u I r) fun _ _ ⟨a, b, I', q⟩ => ⟨a, b, I', k _ _ q⟩
theorem wpI.mono {R R' : It → Hp → Prop} (h : wpI X tg iter σ H R) (k : ∀ J H', R J H' → R' J H') : wpI X tg iter σ H R' := fun pins s I => thn (h pins s I) fun _ _ q => thn q fun _ _ ⟨it, fp, tn, J, H', a, b, c, d, f, r⟩ => ⟨it, fp, tn, J, H', a, b, c, d, f, k J H' r⟩
end

/-! ### the judgements -/
abbrev KE := Ent → Mem → Prop
/-- what is said of an exception that leaves: its class, its dict, the names, the memory -/
abbrev KX := Value → Option Addr → Nm → Mem → Prop
structure Cz extends Cx where
  Z : KX
instance : Coe Cz Cx := ⟨Cz.toCx⟩
def PostX (X : Cz) (F : Hp) (m : Mem) (H : Hp) : WX := fun cls d σ H' => ∃ F' n' m', X.Z cls d n' m' ∧ Slots X.K F' σ n' ∧ MOk X.K F' m' H' ∧ Step F m H F' m' H'
abbrev Tk (X : Cz) (F : Hp) (m : Mem) (H : Hp) : Prop := Takes X.toCx (PostX X F m H)
theorem Tk.go {X : Cz} {F F1 : Hp} {m m1 : Mem} {H H1 : Hp} (t : Tk X F m H) (s : Step F m H F1 m1 H1) : Tk X F1 m1 H1 := Takes.imp t fun _ _ _ _ ⟨F', n', m', z, a, b, st⟩ => ⟨F', n', m', z, a, b, s.trans st⟩
theorem tk0 {X : Cz} {F : Hp} {m : Mem} {H : Hp} (h : ∀ c d n m, ¬ X.Z c d n m) : Tk X F m H := Takes.imp takes0 fun _ _ _ _ ⟨_, _, _, z, _⟩ => h _ _ _ _ z
/-- the slots, and where an exception goes -/
structure HS (X : Cz) (F : Hp) (σ : St) (H : Hp) (n : Nm) (m : Mem) : Prop where
  sl : Slots X.K F σ n
  tk : Tk X F m H
theorem HS.go {X : Cz} {F F1 : Hp} {m m1 : Mem} {H H1 : Hp} {σ : St} {n : Nm} (h : HS X F σ H n m) (s : Step F m H F1 m1 H1) : HS X F1 σ H1 n m1 := ⟨h.sl.inc s.fr, h.tk.go s⟩
theorem HS.at {X : Cz} {F F1 : Hp} {m m1 : Mem} {H H1 : Hp} {σ σ1 : St} {n n1 : Nm} (h : HS X F σ H n m) (k : Slots X.K F1 σ1 n1) (s : Step F m H F1 m1 H1) : HS X F1 σ1 H1 n1 m1 := ⟨k, h.tk.go s⟩
theorem HS.less {X : Cz} {F : Hp} {m m' : Mem} {H : Hp} {σ : St} {n : Nm} (h : HS X F σ H n m) (s : Mem.Sub m' m) : HS X F σ H n m' := ⟨h.sl, h.tk.go (Step.sub s)⟩
def PostE (X : Cz) (F : Hp) (m : Mem) (H : Hp) (K : KE) : VK := fun v H' => ∃ F' r m', K r m' ∧ EntOk X.K F' v r ∧ MOk X.K F' m' H' ∧ Step F m H F' m' H'
def WE (X : Cz) (e : Expr) (n : Nm) (m : Mem) (K : KE) : Prop := ∀ F σ H, MOk X.K F m H → HS X F σ H n m → wpE X e σ H (PostE X F m H K)
def PostT (X : Cz) (F : Hp) (m : Mem) (H : Hp) (K : Bool → Mem → Prop) : Bool → Hp → Prop := fun b H' => ∃ F' m', K b m' ∧ MOk X.K F' m' H' ∧ Step F m H F' m' H'
def WT (X : Cz) (e : Expr) (n : Nm) (m : Mem) (K : Bool → Mem → Prop) : Prop := ∀ F σ H, MOk X.K F m H → HS X F σ H n m → wpT X e σ H (PostT X F m H K)
def WW (X : Cz) (e : Expr) (n : Nm) (m : Mem) (K : Bool → Mem → Prop) : Prop := ∀ F σ H, MOk X.K F m H → HS X F σ H n m → wpW X e σ H (PostT X F m H K)
def PostA (X : Cz) (F : Hp) (m : Mem) (H : Hp) (K : List Ent → Mem → Prop) : List V → Hp → Prop := fun vs H' => ∃ F' rs m', K rs m' ∧ Ents X.K F' vs rs ∧ MOk X.K F' m' H' ∧ Step F m H F' m' H'
def WA (X : Cz) (es : List Expr) (n : Nm) (m : Mem) (K : List Ent → Mem → Prop) : Prop := ∀ F σ H, MOk X.K F m H → HS X F σ H n m → wpA X es σ H (PostA X F m H K)
/-- how a statement ends -/
inductive Out where
  | nx (n : Nm) (m : Mem)
  | rt (r : Ent) (m : Mem)
  | bk (n : Nm) (m : Mem)
  | ct (n : Nm) (m : Mem)
abbrev KS := Out → Prop
def PostN (X : Cz) (F : Hp) (m : Mem) (H : Hp) (K : Nm → Mem → Prop) : St → Hp → Prop := fun σ' H' => ∃ F' n' m', K n' m' ∧ Slots X.K F' σ' n' ∧ MOk X.K F' m' H' ∧ Step F m H F' m' H'
def PostS (X : Cz) (F : Hp) (m : Mem) (H : Hp) (P : KS) : Ends :=
  { nx := PostN X F m H fun n m => P (.nx n m), rt := PostE X F m H fun r m => P (.rt r m), bk := PostN X F m H fun n m => P (.bk n m), ct := PostN X F m H fun n m => P (.ct n m) }
def WS (X : Cz) (st : Stmt) (n : Nm) (m : Mem) (P : KS) : Prop := ∀ F σ H, MOk X.K F m H → HS X F σ H n m → wpS X st (PostS X F m H P) σ H
def WB (X : Cz) (sts : List Stmt) (n : Nm) (m : Mem) (P : KS) : Prop := ∀ F σ H, MOk X.K F m H → HS X F σ H n m → wpB X sts (PostS X F m H P) σ H
/-- only these slots differ -/
def Tou (vs : List Nat) (σ σ' : St) : Prop := σ'.length = σ.length ∧ ∀ j, j ∉ vs → σ'[j]? = σ[j]?
/-- a target takes a value: names alone are stored, in the slots vs -/
def WG (X : Cz) (tg : Expr) (vs : List Nat) (r : Ent) (n : Nm) (K : Nm → Prop) : Prop := ∀ F σ H v, Inc F H → EntOk X.K F v r → Slots X.K F σ n → wpG X tg v σ H fun σ' H' => H' = H ∧ Tou vs σ σ' ∧ ∃ n', K n' ∧ Slots X.K F σ' n'
def WGs (X : Cz) (ts : List Expr) (vs : List Nat) (rs : List PyData) (n : Nm) (K : Nm → Prop) : Prop := ∀ F σ H us, Inc F H → RpAll X.K F us rs → Slots X.K F σ n → wpGs X ts us σ H fun σ' H' => H' = H ∧ Tou vs σ σ' ∧ ∃ n', K n' ∧ Slots X.K F σ' n'

section
variable {X : Cz} {e tg iter a b c : Expr} {es : List Expr} {st : Stmt} {sts : List Stmt} {n : Nm} {m : Mem} {K K' : KE}
theorem WE.go {F : Hp} {σ : St} {H : Hp} (h : WE X e n m K) (hm : MOk X.K F m H) (hs : HS X F σ H n m) {Q : VK}
    (k : ∀ F1 v H1 r m1, K r m1 → EntOk X.K F1 v r → MOk X.K F1 m1 H1 → Step F m H F1 m1 H1 → HS X F1 σ H1 n m1 → Q v H1) : wpE X e σ H Q :=
  (h F σ H hm hs).mono fun v H1 ⟨F1, r, m1, k1, ok, hm1, st⟩ => k F1 v H1 r m1 k1 ok hm1 st (hs.go st)
theorem WT.go {F : Hp} {σ : St} {H : Hp} {K : Bool → Mem → Prop} (h : WT X e n m K) (hm : MOk X.K F m H) (hs : HS X F σ H n m) {Q : Bool → Hp → Prop}
    (k : ∀ F1 b H1 m1, K b m1 → MOk X.K F1 m1 H1 → Step F m H F1 m1 H1 → HS X F1 σ H1 n m1 → Q b H1) : wpT X e σ H Q :=
  (h F σ H hm hs).mono fun b H1 ⟨F1, m1, k1, hm1, st⟩ => k F1 b H1 m1 k1 hm1 st (hs.go st)
theorem WW.go {F : Hp} {σ : St} {H : Hp} {K : Bool → Mem → Prop} (h : WW X e n m K) (hm : MOk X.K F m H) (hs : HS X F σ H n m) {Q : Bool → Hp → Prop}
    (k : ∀ F1 b H1 m1, K b m1 → MOk X.K F1 m1 H1 → Step F m H F1 m1 H1 → HS X F1 σ H1 n m1 → Q b H1) : wpW X e σ H Q :=
  (h F σ H hm hs).mono fun b H1 ⟨F1, m1, k1, hm1, st⟩ => k F1 b H1 m1 k1 hm1 st (hs.go st)
theorem WA.go {F : Hp} {σ : St} {H : Hp} {K : List Ent → Mem → Prop} (h : WA X es n m K) (hm : MOk X.K F m H) (hs : HS X F σ H n m) {Q : List V → Hp → Prop}
    (k : ∀ F1 vs H1 rs m1, K rs m1 → Ents X.K F1 vs rs → MOk X.K F1 m1 H1 → Step F m H F1 m1 H1 → HS X F1 σ H1 n m1 → Q vs H1) : wpA X es σ H Q :=
  (h F σ H hm hs).mono fun v H1 ⟨F1, r, m1, k1, ok, hm1, st⟩ => k F1 v H1 r m1 k1 ok hm1 st (hs.go st)
/-- without a step -/
theorem PostE.here {F : Hp} {H : Hp} {r : Ent} {v : V} (k : K r m) (ok : EntOk X.K F v r) (hm : MOk X.K F m H) : PostE X F m H K v H := ⟨F, r, m, k, ok, hm, .refl⟩
theorem PostE.after {F F1 : Hp} {m1 : Mem} {H H1 H2 : Hp} {v : V} (s : Step F m H F1 m1 H1) (h : PostE X F1 m1 H1 K v H2) : PostE X F m H K v H2 :=
  let ⟨F', r, m', k, ok, hm, st⟩ := h
  ⟨F', r, m', k, ok, hm, s.trans st⟩
theorem PostT.after {F F1 : Hp} {m1 : Mem} {H H1 H2 : Hp} {K : Bool → Mem → Prop} {v : Bool} (s : Step F m H F1 m1 H1) (h : PostT X F1 m1 H1 K v H2) : PostT X F m H K v H2 :=
  let ⟨F', m', k, hm, st⟩ := h
  ⟨F', m', k, hm, s.trans st⟩
theorem PostA.after {F F1 : Hp} {m1 : Mem} {H H1 H2 : Hp} {K : List Ent → Mem → Prop} {v : List V} (s : Step F m H F1 m1 H1) (h : PostA X F1 m1 H1 K v H2) : PostA X F m H K v H2 :=
  let ⟨F', r, m', k, ok, hm, st⟩ := h
  ⟨F', r, m', k, ok, hm, s.trans st⟩
theorem PostN.after {F F1 : Hp} {m1 : Mem} {H H1 H2 : Hp} {σ : St} {K : Nm → Mem → Prop} (s : Step F m H F1 m1 H1) (h : PostN X F1 m1 H1 K σ H2) : PostN X F m H K σ H2 :=
  let ⟨F', n', m', k, ok, hm, st⟩ := h
  ⟨F', n', m', k, ok, hm, s.trans st⟩
theorem wpS.after {F F1 : Hp} {m1 : Mem} {H H1 : Hp} {σ : St} {P : KS} (s : Step F m H F1 m1 H1) (h : wpS X st (PostS X F1 m1 H1 P) σ H1) : wpS X st (PostS X F m H P) σ H1 :=
  h.mono (fun _ _ => PostN.after s) (fun _ _ => PostE.after s) (fun _ _ => PostN.after s) fun _ _ => PostN.after s
theorem wpB.after {F F1 : Hp} {m1 : Mem} {H H1 : Hp} {σ : St} {P : KS} (s : Step F m H F1 m1 H1) (h : wpB X sts (PostS X F1 m1 H1 P) σ H1) : wpB X sts (PostS X F m H P) σ H1 :=
  h.mono (fun _ _ => PostN.after s) (fun _ _ => PostE.after s) (fun _ _ => PostN.after s) fun _ _ => PostN.after s
theorem WE.mono (h : WE X e n m K) (k : ∀ r m', K r m' → K' r m') : WE X e n m K' := fun F σ H hm hs => (h F σ H hm hs).mono fun _ _ ⟨F', r, m', q, z⟩ => ⟨F', r, m', k r m' q, z⟩
/-- by a middle word -/
theorem WE.cut (K : KE) (h : WE X e n m K) (k : ∀ r m', K r m' → K' r m') : WE X e n m K' := h.mono k
theorem WT.mono {K K' : Bool → Mem → Prop} (h : WT X e n m K) (k : ∀ r m', K r m' → K' r m') : WT X e n m K' := fun F σ H hm hs => (h F σ H hm hs).mono fun _ _ ⟨F', m', q, z⟩ => ⟨F', m', k _ m' q, z⟩
theorem WA.mono {K K' : List Ent → Mem → Prop} (h : WA X es n m K) (k : ∀ r m', K r m' → K' r m') : WA X es n m K' := fun F σ H hm hs => (h F σ H hm hs).mono fun _ _ ⟨F', r, m', q, z⟩ => ⟨F', r, m', k r m' q, z⟩
theorem WB.mono {P P' : KS} (h : WB X sts n m P) (k : ∀ o, P o → P' o) : WB X sts n m P' := fun F σ H hm hs =>
  (h F σ H hm hs).mono (fun _ _ ⟨F', n', m', q, z⟩ => ⟨F', n', m', k _ q, z⟩) (fun _ _ ⟨F', n', m', q, z⟩ => ⟨F', n', m', k _ q, z⟩) (fun _ _ ⟨F', n', m', q, z⟩ => ⟨F', n', m', k _ q, z⟩) fun _ _ ⟨F', n', m', q, z⟩ => ⟨F', n', m', k _ q, z⟩
theorem WS.mono {P P' : KS} (h : WS X st n m P) (k : ∀ o, P o → P' o) : WS X st n m P' := fun F σ H hm hs =>
  (h F σ H hm hs).mono (fun _ _ ⟨F', n', m', q, z⟩ => ⟨F', n', m', k _ q, z⟩) (fun _ _ ⟨F', n', m', q, z⟩ => ⟨F', n', m', k _ q, z⟩) (fun _ _ ⟨F', n', m', q, z⟩ => ⟨F', n', m', k _ q, z⟩) fun _ _ ⟨F', n', m', q, z⟩ => ⟨F', n', m', k _ q, z⟩
theorem WB.cut (P : KS) {P' : KS} (h : WB X sts n m P) (k : ∀ o, P o → P' o) : WB X sts n m P' := h.mono k
theorem WS.cut (P : KS) {P' : KS} (h : WS X st n m P) (k : ∀ o, P o → P' o) : WS X st n m P' := h.mono k
/-- forgetting objects of the memory -/
theorem WB.less {m' : Mem} {P : KS} (s : Mem.Sub m' m) (h : WB X sts n m' P) : WB X sts n m P := fun F σ H hm hs => wpB.after (Step.sub s) (h F σ H (hm.less s) (hs.less s))
theorem WE.less {m' : Mem} (s : Mem.Sub m' m) (h : WE X e n m' K) : WE X e n m K := fun F σ H hm hs => (h F σ H (hm.less s) (hs.less s)).mono fun _ _ q => PostE.after (Step.sub s) q

/-! ### names, constants -/
theorem we_var (i : Nat) {x : Str} {pos : Pos} {r : Ent} (hN : X.N[i]? = some x) (hv : Vis X.env.scope x) (hn : n[i]? = some (some r)) (k : K r m)
    (hd : (x == ("__debug__" : Str)) = false := by decide) (hcd : (x == ("__classdict__" : Str)) = false := by decide) : WE X (.Name x pos) n m K := fun F σ H hm hs =>
  let ⟨v, h1, h2⟩ := hs.sl.2 i r hn
  wpE.of (pe_var hN hv hd hcd) ⟨v, h1, PostE.here k h2 hm⟩
theorem we_int {i : Int} {j pos} (k : K (.d (.int i)) m) : WE X (.Constant (.int i) j pos) n m K := fun F σ H hm _ => wpE.of pe_int (PostE.here k (Rp.int i) hm)
theorem we_bl {i : Bool} {j pos} (k : K (.d (.bool i)) m) : WE X (.Constant (.bool i) j pos) n m K := fun F σ H hm _ => wpE.of pe_bl (PostE.here k (Rp.bl i) hm)
theorem we_non {j pos} (k : K (.d .none) m) : WE X (.Constant .none j pos) n m K := fun F σ H hm _ => wpE.of pe_non (PostE.here k Rp.non hm)
theorem we_str {i : Str} {j pos} (k : K (.d (.str i)) m) : WE X (.Constant (.str i) j pos) n m K := fun F σ H hm _ => wpE.of pe_str (PostE.here k (Rp.str i) hm)

theorem v (i : Nat) {x : Str} {pos : Pos} {r : Ent} (k : K r m) (hn : n[i]? = some (some r) := by rfl) (hN : X.N[i]? = some x := by rfl) (hv : Vis X.env.scope x := by first | exact Or.inl rfl | exact Or.inr (Or.inl rfl) | exact Or.inr (Or.inr rfl))
    (hd : (x == ("__debug__" : Str)) = false := by decide) (hcd : (x == ("__classdict__" : Str)) = false := by decide) : WE X (.Name x pos) n m K := we_var i hN hv hn k hd hcd

/-! ### operators -/
/-- what a rule upon two values is asked for -/
def R2W (X : Cz) (r : R2) (x y : Ent) (m : Mem) (K : KE) : Prop := ∀ F H v u, MOk X.K F m H → EntOk X.K F v x → EntOk X.K F u y → ∀ Q : VK, (∀ z H', PostE X F m H K z H' → Q z H') → r v u H Q
/-- what a call upon values is asked for -/
def RCW (X : Cz) (r : List V → Hp → VK → Prop) (as : List Ent) (m : Mem) (K : KE) : Prop := ∀ F H vs, MOk X.K F m H → Ents X.K F vs as → ∀ Q : VK, (∀ z H', PostE X F m H K z H' → Q z H') → r vs H Q
theorem we_op {op : Operator} {r : R2} {pos : Pos} (ho : OpR X (binaryOp op) r) (h : WE X a n m fun x m1 => WE X b n m1 fun y m2 => R2W X r x y m2 K) : WE X (.BinOp a op b pos) n m K := fun F σ H hm hs =>
  wpE.of (pe_op ho pe_wp pe_wp) (h.go hm hs fun F1 v H1 x m1 h1 ok1 hm1 st1 hs1 => h1.go hm1 hs1 fun F2 u H2 y m2 h2 ok2 hm2 st2 hs2 =>
    h2 F2 H2 v u hm2 (ok1.inc st2.fr) ok2 _ fun z H' q => PostE.after (st1.trans st2) q)
theorem we_cmp {op : CmpOp} {r : R2} {pos : Pos} (ho : OpR X (compareOp op) r) (hb : behindInMarks op b = false) (h : WE X a n m fun x m1 => WE X b n m1 fun y m2 => R2W X r x y m2 K) : WE X (.Compare a [op] [b] pos) n m K := fun F σ H hm hs =>
  wpE.of (pe_cmpR ho pe_wp pe_wp hb) (h.go hm hs fun F1 v H1 x m1 h1 ok1 hm1 st1 hs1 => h1.go hm1 hs1 fun F2 u H2 y m2 h2 ok2 hm2 st2 hs2 =>
    h2 F2 H2 v u hm2 (ok1.inc st2.fr) ok2 _ fun z H' q => PostE.after (st1.trans st2) q)
theorem EntOk.int {K : PySem.W.Frag} {F : Hp} {v : V} {i : Int} (h : EntOk K F v (.d (.int i))) : v = .int i := by cases h; rfl
theorem EntOk.bl {K : PySem.W.Frag} {F : Hp} {v : V} {i : Bool} (h : EntOk K F v (.d (.bool i))) : v = .bl i := by cases h; rfl
theorem EntOk.str {K : PySem.W.Frag} {F : Hp} {v : V} {i : Str} (h : EntOk K F v (.d (.str i))) : v = .str i := by cases h; rfl
theorem EntOk.non {K : PySem.W.Frag} {F : Hp} {v : V} (h : EntOk K F v (.d .none)) : v = .non := by cases h; rfl
/-- a test by its value -/
def KTst (K : Bool → Mem → Prop) : KE := fun z m => ∃ b, z = .d (.bool b) ∧ K b m
theorem PostT.of {F F1 : Hp} {m1 : Mem} {H H1 : Hp} {K : Bool → Mem → Prop} {v : V} (q : PostE X F1 m1 H (KTst K) v H1) : ∃ b, v = .bl b ∧ PostT X F1 m1 H K b H1 := by
  obtain ⟨F', r, m', ⟨b, rfl, k⟩, ok, hm, st⟩ := q
  exact ⟨b, ok.bl, F', m', k, hm, st⟩
theorem wt_cmp {op : CmpOp} {r : R2} {pos : Pos} {K : Bool → Mem → Prop} (ho : OpR X (compareOp op) r) (hb : behindInMarks op b = false) (h : WE X a n m fun x m1 => WE X b n m1 fun y m2 => R2W X r x y m2 (KTst K)) : WT X (.Compare a [op] [b] pos) n m K := fun F σ H hm hs =>
  wpT.of (pt_cmpR ho pe_wp pe_wp hb) (h.go hm hs fun F1 v H1 x m1 h1 ok1 hm1 st1 hs1 => h1.go hm1 hs1 fun F2 u H2 y m2 h2 ok2 hm2 st2 hs2 =>
    h2 F2 H2 v u hm2 (ok1.inc st2.fr) ok2 _ fun z H' q => by
      obtain ⟨b, e, q⟩ := PostT.of (F := F2) q
      exact ⟨b, e, PostT.after (st1.trans st2) q⟩)
theorem wt_val {K : Bool → Mem → Prop} (h : WE X e n m (KTst K)) (he : ∀ whole, isTrue e X.env whole = (do let v ← whole; standAt e.pos; holding [v] (truthy v)) := by intro _; rfl) : WT X e n m K := fun F σ H hm hs =>
  wpT.of (pt_val pe_wp he) ((h F σ H hm hs).mono fun v H' q => PostT.of (F := F) q)

/-! ### and, or, not, if -/
variable {rest : List Expr} {pos : Pos}
theorem wt_ww {K : Bool → Mem → Prop} (h : WW X e n m K) : WT X e n m K := fun F σ H hm hs => wpT.of (PW.pt pw_wp) (h F σ H hm hs)
theorem ww_and1 {K : Bool → Mem → Prop} (h : WT X a n m K) : WW X (.BoolOp .And [a] pos) n m K := fun F σ H hm hs => wpW.of (pw_and1 pt_wp) (h F σ H hm hs)
theorem ww_or1 {K : Bool → Mem → Prop} (h : WT X a n m K) : WW X (.BoolOp .Or [a] pos) n m K := fun F σ H hm hs => wpW.of (pw_or1 pt_wp) (h F σ H hm hs)
theorem ww_and {K : Bool → Mem → Prop} (h : WT X a n m fun c m1 => (c = true → WW X (.BoolOp .And (b :: rest) pos) n m1 K) ∧ (c = false → K false m1)) : WW X (.BoolOp .And (a :: b :: rest) pos) n m K := fun F σ H hm hs =>
  wpW.of (pw_and pt_wp pw_wp) (h.go hm hs fun F1 c H1 m1 h1 hm1 st1 hs1 => by
    cases c with
    | true => exact iteT ((h1.1 rfl F1 σ H1 hm1 hs1).mono fun _ _ => PostT.after st1)
    | false => exact iteF ⟨F1, m1, h1.2 rfl, hm1, st1⟩)
theorem ww_or {K : Bool → Mem → Prop} (h : WT X a n m fun c m1 => (c = false → WW X (.BoolOp .Or (b :: rest) pos) n m1 K) ∧ (c = true → K true m1)) : WW X (.BoolOp .Or (a :: b :: rest) pos) n m K := fun F σ H hm hs =>
  wpW.of (pw_or pt_wp pw_wp) (h.go hm hs fun F1 c H1 m1 h1 hm1 st1 hs1 => by
    cases c with
    | false => exact iteF ((h1.1 rfl F1 σ H1 hm1 hs1).mono fun _ _ => PostT.after st1)
    | true => exact iteT ⟨F1, m1, h1.2 rfl, hm1, st1⟩)
theorem wt_not {K : Bool → Mem → Prop} (h : WT X a n m fun c m1 => K (!c) m1) : WT X (.UnaryOp .Not a pos) n m K := fun F σ H hm hs => wpT.of (pt_not pt_wp) (h F σ H hm hs)
theorem we_one {op} (h : WE X a n m K) : WE X (.BoolOp op [a] pos) n m K := fun F σ H hm hs => wpE.of (pe_one pe_wp) (h F σ H hm hs)
theorem we_and (h : WE X a n m fun x m1 => ∃ c, x = .d (.bool c) ∧ (c = true → WE X (.BoolOp .And (b :: rest) pos) n m1 K) ∧ (c = false → K (.d (.bool false)) m1)) : WE X (.BoolOp .And (a :: b :: rest) pos) n m K := fun F σ H hm hs =>
  wpE.of (pe_and pe_wp pe_wp) (h.go hm hs fun F1 v H1 x m1 h1 ok hm1 st1 hs1 => by
    obtain ⟨c, rfl, h1, h2⟩ := h1
    refine ⟨c, ok.bl, ?_⟩
    cases c with
    | true => exact iteT ((h1 rfl F1 σ H1 hm1 hs1).mono fun _ _ => PostE.after st1)
    | false => exact iteF ⟨F1, _, m1, h2 rfl, Rp.bl false, hm1, st1⟩)
theorem we_or (h : WE X a n m fun x m1 => ∃ c, x = .d (.bool c) ∧ (c = false → WE X (.BoolOp .Or (b :: rest) pos) n m1 K) ∧ (c = true → K (.d (.bool true)) m1)) : WE X (.BoolOp .Or (a :: b :: rest) pos) n m K := fun F σ H hm hs =>
  wpE.of (pe_or pe_wp pe_wp) (h.go hm hs fun F1 v H1 x m1 h1 ok hm1 st1 hs1 => by
    obtain ⟨c, rfl, h1, h2⟩ := h1
    refine ⟨c, ok.bl, ?_⟩
    cases c with
    | false => exact iteF ((h1 rfl F1 σ H1 hm1 hs1).mono fun _ _ => PostE.after st1)
    | true => exact iteT ⟨F1, _, m1, h2 rfl, Rp.bl true, hm1, st1⟩)
theorem we_not (h : WE X a n m fun x m1 => ∃ c, x = .d (.bool c) ∧ K (.d (.bool (!c))) m1) : WE X (.UnaryOp .Not a pos) n m K := fun F σ H hm hs =>
  wpE.of (pe_not pe_wp) (h.go hm hs fun F1 v H1 x m1 h1 ok hm1 st1 hs1 => by
    obtain ⟨c, rfl, h1⟩ := h1
    exact ⟨c, ok.bl, F1, _, m1, h1, Rp.bl _, hm1, st1⟩)
theorem we_if {c : Expr} (h : WT X c n m fun t m1 => (t = true → WE X a n m1 K) ∧ (t = false → WE X b n m1 K)) : WE X (.IfExp c a b pos) n m K := fun F σ H hm hs =>
  wpE.of (pe_ifExp pt_wp pe_wp pe_wp) (h.go hm hs fun F1 t H1 m1 h1 hm1 st1 hs1 => by
    cases t with
    | true => exact iteT ((h1.1 rfl F1 σ H1 hm1 hs1).mono fun _ _ => PostE.after st1)
    | false => exact iteF ((h1.2 rfl F1 σ H1 hm1 hs1).mono fun _ _ => PostE.after st1))

/-! ### argument lists, displays -/
theorem wa_nil {K : List Ent → Mem → Prop} (k : K [] m) : WA X [] n m K := fun F σ H hm hs => wpA.of pa_nil ⟨F, [], m, k, .nil, hm, .refl⟩
theorem wa_cons {K : List Ent → Mem → Prop} (h : WE X a n m fun x m1 => WA X es n m1 fun xs m2 => K (x :: xs) m2) (hs0 : starEach (a :: es) X.env = (false, eval a X.env) :: starEach es X.env := by rfl) : WA X (a :: es) n m K := fun F σ H hm hs =>
  wpA.of (pa_cons pe_wp pa_wp hs0) (h.go hm hs fun F1 v H1 x m1 h1 ok1 hm1 st1 hs1 => h1.go hm1 hs1 fun F2 vs H2 xs m2 h2 ok2 hm2 st2 hs2 =>
    ⟨F2, x :: xs, m2, h2, .cons (ok1.inc st2.fr) ok2, hm2, st1.trans st2⟩)
/-- a new list, a new tuple of data; a new list that may change -/
theorem post_L {F : Hp} {H : Hp} {p : Addr} {xs : List V} {ds : List PyData} (hm : MOk X.K F m H) (hp : H p = none) (r : RpAll X.K F xs ds) (k : K (.d (.list ds)) m) : PostE X F m H K (.ref p) (upd H p (.lst xs)) :=
  ⟨upd F p (.lst xs), _, m, k, .lst (.inl (.inl upd_same)) (r.inc (Inc.upd (hm.freshF hp))), hm.newF hp, Step.newF hm hp⟩
theorem post_T {F : Hp} {H : Hp} {p : Addr} {xs : List V} {ds : List PyData} (hm : MOk X.K F m H) (hp : H p = none) (r : RpAll X.K F xs ds) (k : K (.d (.tuple ds)) m) : PostE X F m H K (.ref p) (upd H p (.tup xs)) :=
  ⟨upd F p (.tup xs), _, m, k, .tup (.inl (.inl upd_same)) (r.inc (Inc.upd (hm.freshF hp))), hm.newF hp, Step.newF hm hp⟩
theorem post_X {F : Hp} {H : Hp} {p : Addr} {xs : List V} {es : List Ent} (hm : MOk X.K F m H) (hp : H p = none) (r : Ents X.K F xs es) (k : ∀ p, m p = none → K (.x p) (m.put p (.lst es))) : PostE X F m H K (.ref p) (upd H p (.lst xs)) :=
  ⟨F, .x p, _, k p (hm.fresh hp), rfl, hm.newX hp ⟨xs, upd_same, r⟩, Step.newX hp⟩
theorem we_tup {x1} (h : WA X es n m fun as m1 => ∃ ds, as = ds.map .d ∧ ds.length ≤ 100000 ∧ K (.d (.tuple ds)) m1) : WE X (.Tuple es x1 pos) n m K := fun F σ H hm hs =>
  wpE.of (pe_tup pa_wp) (h.go hm hs fun F1 vs H1 as m1 h1 ok1 hm1 st1 hs1 => by
    obtain ⟨ds, rfl, hl, k⟩ := h1
    have r := RpAll.of_ents ok1
    exact ⟨Nat.le_trans (by rw [r.length]; exact hl) (by decide), fun p hp => PostE.after st1 (post_T hm1 hp r k)⟩)
theorem we_lst (h : WA X es n m fun as m1 => ∃ ds, as = ds.map .d ∧ ds.length ≤ 100000 ∧ K (.d (.list ds)) m1) : WE X (.List es pos) n m K := fun F σ H hm hs =>
  wpE.of (pe_lst pa_wp) (h.go hm hs fun F1 vs H1 as m1 h1 ok1 hm1 st1 hs1 => by
    obtain ⟨ds, rfl, hl, k⟩ := h1
    have r := RpAll.of_ents ok1
    exact ⟨Nat.le_trans (by rw [r.length]; exact hl) (by decide), fun p hp => PostE.after st1 (post_L hm1 hp r k)⟩)
/-- a list that may change -/
theorem we_lstX (h : WA X es n m fun as m1 => as.length ≤ 100000 ∧ ∀ p, m1 p = none → K (.x p) (m1.put p (.lst as))) : WE X (.List es pos) n m K := fun F σ H hm hs =>
  wpE.of (pe_lst pa_wp) (h.go hm hs fun F1 vs H1 as m1 h1 ok1 hm1 st1 hs1 =>
    ⟨Nat.le_trans (by rw [Paired.length ok1]; exact h1.1) (by decide), fun p hp => PostE.after st1 (post_X hm1 hp ok1 h1.2)⟩)

/-! ### calls of what is built in -/
variable {x : Str} {p : Pos} {id T : String} {r : List V → Hp → VK → Prop}
theorem we_callB (hc : CallR X (.builtin id) r) (hg : Gl X x) (hmg : X.mg x = none) (hv : bootBuiltins x = some (.builtin id)) (h : WA X (e :: es) n m fun as m1 => RCW X r as m1 K) (hn : x ≠ "__name__" := by decide) (hdb : (x == ("__debug__" : Str)) = false := by decide)
    (he : starEach (e :: es) X.env = (false, eval e X.env) :: starEach es X.env := by rfl) (hpl : (backTo pos (starEach es X.env)).any (·.1) = false := by rfl) : WE X (.Call (.Name x p) (e :: es) [] pos) n m K := fun F σ H hm hs =>
  wpE.of (pe_callB hc hg hmg hv pa_wp hn hdb he hpl) (h.go hm hs fun F1 vs H1 as m1 h1 ok1 hm1 st1 hs1 => h1 F1 H1 vs hm1 ok1 _ fun z H' q => PostE.after st1 q)
theorem we_callTy (hc : CallR X (.type T) r) (hg : Gl X x) (hmg : X.mg x = none) (hv : bootBuiltins x = some (.type T)) (h : WA X (e :: es) n m fun as m1 => RCW X r as m1 K) (hn : x ≠ "__name__" := by decide) (hdb : (x == ("__debug__" : Str)) = false := by decide)
    (he : starEach (e :: es) X.env = (false, eval e X.env) :: starEach es X.env := by rfl) (hpl : (backTo pos (starEach es X.env)).any (·.1) = false := by rfl) : WE X (.Call (.Name x p) (e :: es) [] pos) n m K := fun F σ H hm hs =>
  wpE.of (pe_callTy hc hg hmg hv pa_wp hn hdb he hpl) (h.go hm hs fun F1 vs H1 as m1 h1 ok1 hm1 st1 hs1 => h1 F1 H1 vs hm1 ok1 _ fun z H' q => PostE.after st1 q)

/-! ### data that are read, whether they may change or not -/
def Dat (m : Mem) (x : Ent) (d : PyData) : Prop := x = .d d ∨ ∃ p ds, x = .x p ∧ m p = some (.lst (List.map .d ds)) ∧ d = .list ds
theorem Dat.d {d : PyData} : Dat m (.d d) d := .inl rfl
theorem Dat.ex {p : Addr} {ds : List PyData} (h : m p = some (.lst (List.map .d ds))) : Dat m (.x p) (.list ds) := .inr ⟨p, ds, rfl, h, rfl⟩
theorem Dat.sqL {K : PySem.W.Frag} {F : Hp} {H : Hp} {v : V} {x : Ent} {ds : List PyData} (h : Dat m x (.list ds)) (hm : MOk K F m H) (ok : EntOk K F v x) : ∃ a xs, v = .ref a ∧ SqL K H a xs ∧ RpAll K F xs ds := by
  rcases h with rfl | ⟨p, es, rfl, hp, e⟩
  · obtain ⟨a, xs, e, s, r⟩ := Rp.sqL ok
    exact ⟨a, xs, e, sqLi hm.sub s, r⟩
  · cases e
    obtain ⟨xs, hx, r⟩ := hm.obj p _ hp
    exact ⟨p, xs, ok, .inl (.inl hx), RpAll.of_ents r⟩
theorem dat_sqT {K : PySem.W.Frag} {F : Hp} {H : Hp} {v : V} {ds : List PyData} (hm : MOk K F m H) (ok : EntOk K F v (.d (.tuple ds))) : ∃ a xs, v = .ref a ∧ SqT K H a xs ∧ RpAll K F xs ds := by
  obtain ⟨a, xs, e, s, r⟩ := Rp.sqT ok
  exact ⟨a, xs, e, sqTi hm.sub s, r⟩
theorem Dat.dp {K : PySem.W.Frag} {F : Hp} {H : Hp} {v : V} {x : Ent} {d : PyData} (h : Dat m x d) (hm : MOk K F m H) (ok : EntOk K F v x) (hn : nodict d = true) : Dp K H v d := by
  rcases h with rfl | ⟨p, es, rfl, hp, rfl⟩
  · exact Rp.dp (Rp.inc hm.sub ok) hn
  · obtain ⟨xs, hx, r⟩ := hm.obj p _ hp
    have e : v = .ref p := ok
    subst e
    exact .lst (.inl (.inl hx)) (RpAll.dp ((RpAll.of_ents r).inc hm.sub) (by simpa [nodict] using hn))
end
end Z

/-! Z3: statements, loops, comprehensions, defs. -/
namespace Z
open PySem PySem.Spec L2
set_option linter.all false

section
variable {X : Cz} {e tg iter a b c : Expr} {es : List Expr} {st : Stmt} {sts body : List Stmt} {n : Nm} {m : Mem} {P : KS} {pos : Pos}
/-! ### blocks and small statements -/
theorem wb_nil (k : P (.nx n m)) : WB X [] n m P := fun F σ H hm hs => wpB.of pss_nil (show PostN X F m H _ σ H from ⟨F, n, m, k, hs.sl, hm, .refl⟩)
def seqP (X : Cz) (sts : List Stmt) (P : KS) : KS := fun o => match o with
  | .nx n m => WB X sts n m P
  | o => P o
theorem wb_cons (h : WS X st n m (seqP X sts P)) : WB X (st :: sts) n m P := fun F σ H hm hs =>
  wpB.of (pss_cons ps_wp pb_wp) ((h F σ H hm hs).mono (fun σ' H' ⟨F', n', m', w, hs', hm', st'⟩ => wpB.after st' (w F' σ' H' hm' (hs.at hs' st'))) (fun _ _ q => q) (fun _ _ q => q) fun _ _ q => q)
theorem ws_pass (k : P (.nx n m)) : WS X (.Pass pos) n m P := fun F σ H hm hs => wpS.of ps_pass (show PostN X F m H _ σ H from ⟨F, n, m, k, hs.sl, hm, .refl⟩)
theorem ws_break (k : P (.bk n m)) : WS X (.Break pos) n m P := fun F σ H hm hs => wpS.of ps_break (show PostN X F m H _ σ H from ⟨F, n, m, k, hs.sl, hm, .refl⟩)
theorem ws_continue (k : P (.ct n m)) : WS X (.Continue pos) n m P := fun F σ H hm hs => wpS.of ps_continue (show PostN X F m H _ σ H from ⟨F, n, m, k, hs.sl, hm, .refl⟩)
theorem ws_doc {x j pos'} (k : P (.nx n m)) : WS X (.Expr (.Constant (.str x) j pos) pos') n m P := fun F σ H hm hs => wpS.of ps_doc (show PostN X F m H _ σ H from ⟨F, n, m, k, hs.sl, hm, .refl⟩)
theorem ws_expr (h : WE X e n m fun _ m1 => P (.nx n m1)) (hsw : swapsWith e none pos.line X.env = pure false := by rfl) : WS X (.Expr e pos) n m P := fun F σ H hm hs =>
  wpS.of (ps_expr pe_wp hsw) (h.go hm hs fun F1 v H1 r m1 k ok hm1 st1 hs1 => (show PostN X F m H _ σ H1 from ⟨F1, n, m1, k, hs1.sl, hm1, st1⟩))
theorem ws_ret (h : WE X e n m fun r m1 => P (.rt r m1)) : WS X (.Return (some e) pos) n m P := fun F σ H hm hs => wpS.of (ps_ret pe_wp) (h F σ H hm hs)
theorem ws_retN (k : P (.rt (.d .none) m)) : WS X (.Return none pos) n m P := fun F σ H hm hs => wpS.of ps_retN (show PostE X F m H _ .non H from PostE.here k Rp.non hm)
theorem ws_if (h : WT X c n m fun t m1 => (t = true → WB X sts n m1 P) ∧ (t = false → WB X body n m1 P)) : WS X (.If c sts body pos) n m P := fun F σ H hm hs =>
  wpS.of (ps_if pt_wp pb_wp pb_wp) (h.go hm hs fun F1 t H1 m1 h1 hm1 st1 hs1 => by
    cases t with
    | true => exact iteT (wpB.after st1 (h1.1 rfl F1 σ H1 hm1 hs1))
    | false => exact iteF (wpB.after st1 (h1.2 rfl F1 σ H1 hm1 hs1)))

/-! ### targets -/
theorem Tou.set {σ : St} {vs : List Nat} {i : Nat} {v : Option V} (h : i ∈ vs) : Tou vs σ (σ.set i v) := ⟨List.length_set, fun j hj => List.getElem?_set_ne fun e => hj (by rw [← e]; exact h)⟩
theorem Tou.refl {σ : St} {vs : List Nat} : Tou vs σ σ := ⟨rfl, fun _ _ => rfl⟩
theorem Tou.trans {σ σ1 σ2 : St} {vs : List Nat} (h : Tou vs σ σ1) (k : Tou vs σ1 σ2) : Tou vs σ σ2 := ⟨k.1.trans h.1, fun j hj => (k.2 j hj).trans (h.2 j hj)⟩
theorem wg_name {x : Str} {vs : List Nat} {r : Ent} {K : Nm → Prop} (i : Nat) (hN : X.N.Nodup) (hi : X.N[i]? = some x) (hx : Loc X.env.scope x) (k : K (n.set i (some r))) (hv : i ∈ vs := by simp) (hf : X.fn x = true ∨ X.env.scope.names.lookup x = some .local := by first | exact .inl rfl | exact .inr rfl | assumption) : WG X (.Name x pos) vs r n K := fun F σ H v hi0 ok hs =>
  wpG.of (pg_name hN hi hx hf) (show _ ∧ _ from ⟨rfl, Tou.set hv, _, k, hs.set ok⟩)
theorem wgs_nil {vs : List Nat} {K : Nm → Prop} (k : K n) : WGs X [] vs [] n K := fun F σ H us _ r hs => wpGs.of pgs_nil (by
  cases r
  exact ⟨rfl, rfl, Tou.refl, n, k, hs⟩)
theorem wgs_cons {vs : List Nat} {d : PyData} {ds : List PyData} {K : Nm → Prop} (h : WG X e vs (.d d) n fun n1 => WGs X es vs ds n1 K) (h0 : (assignEach (e :: es) X.env).map (·.2) = assign e X.env :: (assignEach es X.env).map (·.2) := by rfl) : WGs X (e :: es) vs (d :: ds) n K := fun F σ H us hi r hs =>
  wpGs.of (pgs_cons pg_wp pgs_wp h0) (by
    cases r with
    | cons r1 rr =>
      refine ⟨_, _, rfl, (h F σ H _ hi r1 hs).mono fun σ1 H1 ⟨e1, t1, n1, k1, hs1⟩ => ?_⟩
      subst e1
      exact (k1 F σ1 H1 _ hi rr hs1).mono fun σ2 H2 ⟨e2, t2, n2, k2, hs2⟩ => ⟨e2, t1.trans t2, n2, k2, hs2⟩)
theorem wg_tup {vs : List Nat} {ds : List PyData} {k0 : Nat} {K : Nm → Prop} (hc : X.calm = true) (h : WGs X es vs ds n K) (hl : ds.length = es.length)
    (hn : (assignEach es X.env).length = es.length := by rfl) (hst : (assignEach es X.env).findIdx? (·.1) = none := by rfl) : WG X (.Tuple es k0 pos) vs (.d (.tuple ds)) n K := fun F σ H v hi ok hs =>
  wpG.of (pg_tup hc pgs_wp hn hst) (by
    obtain ⟨a, xs, e, sq, r⟩ := Rp.sqT ok
    exact ⟨a, xs, e, sqTi hi sq, by rw [r.length, hl], h F σ H xs hi r hs⟩)
theorem ws_asg {vs : List Nat} (h : WE X e n m fun r m1 => WG X tg vs r n fun n' => P (.nx n' m1)) (h1 : swapsWithSole [tg] e pos.line X.env = pure false := by rfl) (h2 : swappedStores [tg] e X.env = pure none := by rfl)
    (h3 : (assignEach [tg] X.env).map (·.2) = [assign tg X.env] := by rfl) : WS X (.Assign [tg] e pos) n m P := fun F σ H hm hs =>
  wpS.of (ps_asg pe_wp pg_wp h1 h2 h3) (h.go hm hs fun F1 v H1 r m1 k ok hm1 st1 hs1 => (k F1 σ H1 v hm1.sub ok hs1.sl).mono fun σ' H' ⟨e1, _, n', k', hs'⟩ => by
    subst e1
    exact (show PostN X F m H _ σ' H' from ⟨F1, n', m1, k', hs', hm1, st1⟩))
theorem ws_set {x : Str} {pos' : Pos} (i : Nat) (hN : X.N.Nodup) (hi : X.N[i]? = some x) (hx : Loc X.env.scope x) (h : WE X e n m fun r m1 => P (.nx (n.set i (some r)) m1)) (hsw : swapsWith e (some (.Name x pos')) pos.line X.env = pure false := by rfl)
    (hf : X.fn x = true ∨ X.env.scope.names.lookup x = some .local := by first | exact .inl rfl | exact .inr rfl | assumption) : WS X (.Assign [.Name x pos'] e pos) n m P := fun F σ H hm hs =>
  wpS.of (ps_set hN hi hx pe_wp hsw hf) (h.go hm hs fun F1 v H1 r m1 k ok hm1 st1 hs1 => (show PostN X F m H _ (σ.set i (some v)) H1 from ⟨F1, _, m1, k, hs1.sl.set ok, hm1, st1⟩))
theorem ws_par {x y : Str} {px py pt : Pos} {kt k2 pt2} (i j : Nat) (hc : X.calm = true) (hN : X.N.Nodup) (hi : X.N[i]? = some x) (hj : X.N[j]? = some y) (hij : i ≠ j) (hx : X.env.scope.names.lookup x = some .local) (hy : X.env.scope.names.lookup y = some .local)
    (h : WA X [a, b] n m fun rs m1 => ∃ r u, rs = [r, u] ∧ P (.nx ((n.set i (some r)).set j (some u)) m1))
    (hw : swappedStores [.Tuple [.Name x px, .Name y py] kt pt] (.Tuple [a, b] k2 pt2) X.env = pure (some [x, y]))
    (hs1 : swapsWithSole [.Tuple [.Name x px, .Name y py] kt pt] (.Tuple [a, b] k2 pt2) pos.line X.env = pure false := by rfl) : WS X (.Assign [.Tuple [.Name x px, .Name y py] kt pt] (.Tuple [a, b] k2 pt2) pos) n m P := fun F σ H hm hs =>
  wpS.of (ps_par hc hN hi hj hij hx hy pa_wp hw hs1) (h.go hm hs fun F1 vs H1 rs m1 k ok hm1 st1 hs1 => by
    obtain ⟨r, u, rfl, k⟩ := k
    cases ok with
    | cons o1 t =>
      cases t with
      | cons o2 t =>
        cases t
        exact ⟨_, _, rfl, (show PostN X F m H _ _ H1 from ⟨F1, _, m1, k, (hs1.sl.set o1).set o2, hm1, st1⟩)⟩)

/-! ### what is walked -/
/-- the iterator gives these data, one after another, whatever changes in the memory meanwhile -/
def Yld (X : Cz) (J : It) (ds : List PyData) (F : Hp) (m : Mem) (H : Hp) : Prop :=
  ∀ F2 m2 H2, MOk X.K F2 m2 H2 → Step F m H F2 m2 H2 → ∀ i, (∀ d, ds[i]? = some d → J.go i H2 ∧ ∀ x H3, J.yld i H2 x H3 → ∃ F3, Rp X.K F3 x d ∧ MOk X.K F3 m2 H3 ∧ Step F2 m2 H2 F3 m2 H3) ∧ (ds.length ≤ i → J.stop i H2)
def WI (X : Cz) (tg iter : Expr) (n : Nm) (m : Mem) (K : List PyData → Mem → Prop) : Prop := ∀ F σ H, MOk X.K F m H → HS X F σ H n m → wpI X tg iter σ H fun J H1 => ∃ F1 m1 ds, K ds m1 ∧ MOk X.K F1 m1 H1 ∧ Step F m H F1 m1 H1 ∧ Yld X J ds F1 m1 H1
theorem wi_list {K : List PyData → Mem → Prop} (h : WE X iter n m fun r m1 => ∃ ds, r = .d (.list ds) ∧ K ds m1) : WI X tg iter n m K := fun F σ H hm hs =>
  wpI.of (pi_list pe_wp) (h.go hm hs fun F1 v H1 r m1 k ok hm1 st1 hs1 => by
    obtain ⟨ds, rfl, k⟩ := k
    obtain ⟨a, xs, e, sq, rr⟩ := Rp.sqL ok
    refine ⟨a, e, ⟨xs, sqLi hm1.sub sq⟩, F1, m1, ds, k, hm1, st1, fun F2 m2 H2 hm2 st2 i => ⟨fun d hd => ?_, fun hl => ⟨xs, sqLi hm2.sub (sqLi st2.fr sq), by rw [rr.length]; exact hl⟩⟩⟩
    obtain ⟨x, hx, rx⟩ := rr.get hd
    refine ⟨⟨xs, x, sqLi hm2.sub (sqLi st2.fr sq), hx⟩, fun y H3 hy => ?_⟩
    obtain ⟨rfl, hy⟩ := hy
    have := hy xs (sqLi hm2.sub (sqLi st2.fr sq))
    rw [hx] at this
    cases this
    exact ⟨F2, rx.inc st2.fr, hm2, .refl⟩)
theorem wi_tup {K : List PyData → Mem → Prop} (h : WE X iter n m fun r m1 => ∃ ds, r = .d (.tuple ds) ∧ K ds m1) : WI X tg iter n m K := fun F σ H hm hs =>
  wpI.of (pi_tup pe_wp) (h.go hm hs fun F1 v H1 r m1 k ok hm1 st1 hs1 => by
    obtain ⟨ds, rfl, k⟩ := k
    obtain ⟨a, xs, e, sq, rr⟩ := Rp.sqT ok
    refine ⟨a, e, ⟨xs, sqTi hm1.sub sq⟩, F1, m1, ds, k, hm1, st1, fun F2 m2 H2 hm2 st2 i => ⟨fun d hd => ?_, fun hl => ⟨xs, sqTi hm2.sub (sqTi st2.fr sq), by rw [rr.length]; exact hl⟩⟩⟩
    obtain ⟨x, hx, rx⟩ := rr.get hd
    refine ⟨⟨xs, x, sqTi hm2.sub (sqTi st2.fr sq), hx⟩, fun y H3 hy => ?_⟩
    obtain ⟨rfl, hy⟩ := hy
    have := hy xs (sqTi hm2.sub (sqTi st2.fr sq))
    rw [hx] at this
    cases this
    exact ⟨F2, rx.inc st2.fr, hm2, .refl⟩)
/-- lo, lo + 1, .. -/
def intsD (lo : Int) (k : Nat) : List PyData := (List.range k).map fun (i : Nat) => .int (lo + (i : Int))
theorem intsD_length {lo : Int} {k : Nat} : (intsD lo k).length = k := by unfold intsD; rw [List.length_map, List.length_range]
theorem intsD_get {lo : Int} {k i : Nat} {d : PyData} (h : (intsD lo k)[i]? = some d) : i < k ∧ d = .int (lo + (i : Int)) := by
  unfold intsD at h
  rw [List.getElem?_map] at h
  by_cases hi : i < k
  · rw [List.getElem?_range hi] at h
    cases h
    exact ⟨hi, rfl⟩
  · rw [List.getElem?_eq_none (by rw [List.length_range]; omega)] at h
    cases h
theorem yld_range {lo : Int} {k : Nat} {F : Hp} {H : Hp} : Yld X (Itr lo k) (intsD lo k) F m H := fun F2 m2 H2 hm2 st2 i => ⟨fun d hd => by
    obtain ⟨hi, rfl⟩ := intsD_get hd
    exact ⟨hi, fun x H3 ⟨e1, e2⟩ => by subst e1 e2; exact ⟨F2, .int _, hm2, .refl⟩⟩, fun hl => by rw [intsD_length] at hl; exact hl⟩
theorem wi_rng1 {p : Pos} {K : List PyData → Mem → Prop} (hg : Gl X "range") (hmg : X.mg "range" = none) (h : WA X [a] n m fun rs m1 => ∃ j : Int, rs = [.d (.int j)] ∧ j ≤ 1000000000000 ∧ -1000000000000 ≤ j ∧ K (intsD 0 j.toNat) m1)
    (hs0 : starEach [a] X.env = [(false, eval a X.env)] := by rfl) : WI X tg (.Call (.Name "range" p) [a] [] pos) n m K := fun F σ H hm hs =>
  wpI.of (pi_range1 hg hmg pa_wp hs0) (h.go hm hs fun F1 vs H1 rs m1 k ok hm1 st1 hs1 => by
    obtain ⟨j, rfl, h1, h2, k⟩ := k
    cases ok with
    | cons o t =>
      cases t
      have e := EntOk.int o
      subst e
      exact ⟨j, rfl, by omega, by omega, F1, m1, _, k, hm1, st1, yld_range⟩)
theorem wi_rng2 {p : Pos} {K : List PyData → Mem → Prop} (hg : Gl X "range") (hmg : X.mg "range" = none) (h : WA X [a, b] n m fun rs m1 => ∃ i j : Int, rs = [.d (.int i), .d (.int j)] ∧ (i ≤ 10 ^ 18 ∧ -(10 ^ 18) ≤ i ∧ j ≤ 10 ^ 18 ∧ -(10 ^ 18) ≤ j) ∧ K (intsD i (j - i).toNat) m1)
    (hs0 : starEach [a, b] X.env = [(false, eval a X.env), (false, eval b X.env)] := by rfl) (hs2 : starEach [b] X.env = [(false, eval b X.env)] := by rfl) : WI X tg (.Call (.Name "range" p) [a, b] [] pos) n m K := fun F σ H hm hs =>
  wpI.of (pi_range2 hg hmg pa_wp hs0 hs2) (h.go hm hs fun F1 vs H1 rs m1 k ok hm1 st1 hs1 => by
    obtain ⟨i, j, rfl, ⟨h1, h2, h3, h4⟩, k⟩ := k
    cases ok with
    | cons o t =>
      cases t with
      | cons o2 t =>
        cases t
        have e := EntOk.int o
        have e2 := EntOk.int o2
        subst e e2
        exact ⟨i, j, rfl, ⟨by omega, by omega, by omega, by omega⟩, F1, m1, _, k, hm1, st1, yld_range⟩)

/-! ### for -/
def loopP (I : Nat → Nm → Mem → Prop) (j : Nat) (P : KS) : KS := fun o => match o with
  | .nx n m => I j n m
  | .ct n m => I j n m
  | .bk n m => P (.nx n m)
  | .rt r m => P (.rt r m)
theorem ws_for {vs : List Nat} (hp : PassesOwn (model X.prog X.w) X.A X.env X.xe) (hc : X.calm = true)
    (h : WI X tg iter n m fun ds m1 => ∃ I : Nat → Nm → Mem → Prop, I 0 n m1 ∧ (∀ i d n' m', ds[i]? = some d → I i n' m' → WG X tg vs (.d d) n' fun n2 => WB X body n2 m' (loopP I (i + 1) P)) ∧ ∀ n' m', I ds.length n' m' → P (.nx n' m'))
    (hf : ∀ x, foldedSetIterable iter X.env x = pure x := by intro _; rfl) : WS X (.For tg iter body [] pos) n m P := fun F σ H hm hs => by
  refine wpS.of (ps_for hp hc pi_wp pg_wp pb_wp hf) ((h F σ H hm hs).mono fun J H1 ⟨F1, m1, ds, ⟨I, i0, turn, fin⟩, hm1, st1, yl⟩ => ?_)
  refine ⟨fun i mm σ' H' => mm = ds.length - i ∧ i ≤ ds.length ∧ PostN X F1 m1 H1 (I i) σ' H', ⟨_, rfl, Nat.zero_le _, F1, n, m1, i0, hs.sl.inc st1.fr, hm1, .refl⟩, ?_⟩
  rintro i mm σ' H' ⟨rfl, hi, F', n', m', inv, hs', hm', st'⟩
  obtain ⟨y1, y2⟩ := yl F' m' H' hm' st' i
  by_cases hlt : i < ds.length
  · obtain ⟨go, y1⟩ := y1 ds[i] (List.getElem?_eq_getElem hlt)
    refine .inr ⟨go, PostN X F1 m1 H1 (I (i + 1)), fun σ2 H2 q => ⟨_, by omega, rfl, hlt, q⟩, fun x H3 hy => ?_⟩
    obtain ⟨F3, rx, hm3, st3⟩ := y1 x H3 hy
    refine (turn i ds[i] n' m' (List.getElem?_eq_getElem hlt) inv F3 σ' H3 x hm3.sub rx (hs'.inc st3.fr)).mono fun σ2 H2 ⟨e, _, n2, w, hs2⟩ => ?_
    subst e
    have s2 := st'.trans st3
    exact (w F3 σ2 H2 hm3 (hs.at hs2 (st1.trans s2))).mono (fun _ _ q => PostN.after s2 q) (fun _ _ q => PostE.after (st1.trans s2) q) (fun _ _ q => PostN.after (st1.trans s2) q) fun _ _ q => PostN.after s2 q
  · have e : i = ds.length := by omega
    subst e
    exact .inl ⟨y2 (Nat.le_refl _), F', n', m', fin n' m' inv, hs', hm', st1.trans st'⟩
/-- while, by a measure -/
theorem ws_while (hp : PassesOwn (model X.prog X.w) X.A X.env X.xe) (I : Nat → Nm → Mem → Prop) (h0 : ∃ k, I k n m)
    (h : ∀ k n' m', I k n' m' → WT X c n' m' fun t m1 => (t = true → WB X body n' m1 fun o => match o with
      | .nx n2 m2 => ∃ k', k' < k ∧ I k' n2 m2
      | .ct n2 m2 => ∃ k', k' < k ∧ I k' n2 m2
      | .bk n2 m2 => P (.nx n2 m2)
      | .rt r m2 => P (.rt r m2)) ∧ (t = false → P (.nx n' m1))) : WS X (.While c body [] pos) n m P := fun F σ H hm hs => by
  obtain ⟨k0, i0⟩ := h0
  refine wpS.of (ps_while hp pt_wp pb_wp) ⟨fun k σ' H' => PostN X F m H (I k) σ' H', ⟨k0, F, n, m, i0, hs.sl, hm, .refl⟩, ?_⟩
  rintro k σ' H' ⟨F', n', m', inv, hs', hm', st'⟩
  refine (h k n' m' inv).go hm' (hs.at hs' st') fun F1 t H1 m1 h1 hm1 st1 hs1 => ?_
  have s1 := st'.trans st1
  cases t with
  | true =>
    refine iteT ⟨fun σ2 H2 => ∃ k', k' < k ∧ PostN X F m H (I k') σ2 H2, fun _ _ q => q, ?_⟩
    exact (h1.1 rfl F1 σ' H1 hm1 hs1).mono (fun _ _ ⟨F2, n2, m2, ⟨k', hk, q⟩, z1, z2, z3⟩ => ⟨k', hk, F2, n2, m2, q, z1, z2, s1.trans z3⟩) (fun _ _ q => PostE.after s1 q) (fun _ _ q => PostN.after s1 q) fun _ _ ⟨F2, n2, m2, ⟨k', hk, q⟩, z1, z2, z3⟩ => ⟨k', hk, F2, n2, m2, q, z1, z2, s1.trans z3⟩
  | false => exact iteF ⟨F1, n', m1, h1.2 rfl, hs1.sl, hm1, s1⟩

/-! ### list comprehensions -/
def wipeN (n : Nm) : List Nat → Nm
  | [] => n
  | v :: vs => (wipeN n vs).set v none
theorem slots_none {K : PySem.W.Frag} {F : Hp} {σ : St} {n : Nm} (h : Slots K F σ n) (i : Nat) : Slots K F (σ.set i none) (n.set i none) := by
  refine ⟨by rw [List.length_set, List.length_set]; exact h.1, fun j q hq => ?_⟩
  by_cases hj : i = j
  · subst hj
    by_cases hl : i < n.length
    · rw [List.getElem?_set_self hl] at hq; cases hq
    · rw [List.getElem?_eq_none (by rw [List.length_set]; omega)] at hq; cases hq
  · rw [List.getElem?_set_ne hj] at hq
    obtain ⟨u, h1, h2⟩ := h.2 j q hq
    exact ⟨u, by rw [List.getElem?_set_ne hj]; exact h1, h2⟩
theorem slots_wipe {K : PySem.W.Frag} {F : Hp} {σ : St} {n : Nm} (h : Slots K F σ n) : ∀ vs, Slots K F (wipe σ vs) (wipeN n vs)
  | [] => h
  | v :: vs => slots_none (slots_wipe h vs) v
theorem wipe_in {σ : St} {i : Nat} : ∀ {vs : List Nat}, i ∈ vs → i < σ.length → (wipe σ vs)[i]? = some none
  | v :: vs, h, hl => by
    unfold wipe
    by_cases hv : v = i
    · subst hv
      rw [List.getElem?_set_self (by rw [wipe_length]; exact hl)]
    · rw [List.getElem?_set_ne hv]
      exact wipe_in (by simpa [Ne.symm hv] using h) hl
theorem wipe_tou {σ σ' : St} {vs : List Nat} (h : Tou vs (wipe σ vs) σ') : wipe σ' vs = wipe σ vs := by
  have hl : σ'.length = σ.length := h.1.trans (wipe_length σ vs)
  apply List.ext_getElem?
  intro j
  by_cases hj : j ∈ vs
  · by_cases hs : j < σ.length
    · rw [wipe_in hj (by rw [hl]; exact hs), wipe_in hj hs]
    · rw [List.getElem?_eq_none (by rw [wipe_length, hl]; omega), List.getElem?_eq_none (by rw [wipe_length]; omega)]
  · rw [wipe_out hj, h.2 j hj]
theorem MOk.frame {K : PySem.W.Frag} {F H : Hp} {m : Mem} {D : Addr} {o : HO} (h : MOk K F m H) (hF : F D = none) (hD : m D = none) : MOk K F m (upd H D o) :=
  ⟨fun a u e => by rw [upd_ne (ne_of_none e hF)]; exact h.sub a u e, h.out, fun a u e => XOk.inc (fun _ _ z => z) (fun w hw => by
    have ha : a ≠ D := fun q => by rw [q, hD] at e; cases e
    rw [upd_ne ha]; exact hw) (h.obj a u e)⟩
theorem Step.off {F H F' H' : Hp} {m m' : Mem} {D : Addr} (s : Step F m H F' m' H') (h1 : H D ≠ none) (h2 : F D = none) (h3 : m D = none) : F' D = none ∧ m' D = none := by
  constructor
  · cases q : F' D with
    | none => rfl
    | some u =>
      rcases s.nf D h2 (by rw [q]; exact fun z => nomatch z) with z | z
      · exact absurd z h1
      · exact absurd h3 z
  · cases q : m' D with
    | none => rfl
    | some u => exact absurd (s.nm D h3 (by rw [q]; exact fun z => nomatch z)) h1
/-- the block's context -/
abbrev Bk (X : Cz) (scope : Scope) (s : Shared) (H : Hp) (C : Addr) (cl : List (Str × Addr)) (fp : List Addr) : Cz := ⟨X.toCx.blk s H scope (compEnvC scope cl C X.env) fp, fun _ _ _ _ => False⟩
theorem hs_blk {X : Cz} {scope : Scope} {s : Shared} {H0 : Hp} {C : Addr} {cl : List (Str × Addr)} {fp : List Addr} {F : Hp} {σ : St} {H : Hp} {n : Nm} {m : Mem} (h : Slots X.K F σ n) : HS (Bk X scope s H0 C cl fp) F σ H n m := ⟨h, tk0 fun _ _ _ _ z => z⟩
def WTs (X : Cz) (ifs : List Expr) (n : Nm) (m : Mem) (K : Bool → Mem → Prop) : Prop := match ifs with
  | [] => K true m
  | [c] => WT X c n m K
  | _ => False
/-- the words of a comprehension: I by the turn, the list so far and the memory -/
def LcW (X : Cz) (tg elt : Expr) (ifs : List Expr) (scope : Scope) (vs : List Nat) (n : Nm) (ds : List PyData) (I : Nat → List Ent → Mem → Prop) : Prop :=
  ∀ i d acc m', ds[i]? = some d → I i acc m' → acc.length < 16777216 ∧ ∀ s0 H0 C cl fp, WG (Bk X scope s0 H0 C cl fp) tg vs (.d d) (wipeN n vs) fun n2 => ∀ s0 H0 C cl fp, WTs (Bk X scope s0 H0 C cl fp) ifs n2 m' fun b m2 =>
    (b = true → ∀ s0 H0 C cl fp, WE (Bk X scope s0 H0 C cl fp) elt n2 m2 fun r m3 => I (i + 1) (acc ++ [r]) m3) ∧ (b = false → I (i + 1) acc m2)
def tgB (X : Cz) (scope : Scope) (tg : Expr) : TG := fun v σ H Q => ∀ s0 H0 C cl fp, wpG (Bk X scope s0 H0 C cl fp) tg v σ H Q
def teB (X : Cz) (scope : Scope) (e : Expr) : TE := fun σ H Q => ∀ s0 H0 C cl fp, wpE (Bk X scope s0 H0 C cl fp) e σ H Q
def ttB (X : Cz) (scope : Scope) (ifs : List Expr) : TT := fun σ H Q => match ifs with
  | [] => Q true H
  | [c] => ∀ s0 H0 C cl fp, wpT (Bk X scope s0 H0 C cl fp) c σ H Q
  | _ => False
theorem pts_B {scope : Scope} {ifs : List Expr} (s0 : Shared) (H0 : Hp) (C : Addr) (cl : List (Str × Addr)) (fp : List Addr) : PTs (Bk X scope s0 H0 C cl fp) ifs (ttB X scope ifs) := by
  match ifs with
  | [] => exact pts_nil
  | [c] => exact pts_one ⟨fun pins s _ _ _ I h => h s0 H0 C cl fp pins s I⟩
  | _ :: _ :: _ => exact ⟨fun _ _ _ _ _ _ h => h.elim⟩
end
end Z

/-! Z4: comprehensions, defs and their calls, the end. -/
namespace Z
open PySem PySem.Spec L2
set_option linter.all false
section
variable {X : Cz} {tg iter elt : Expr} {ifs : List Expr} {scope : Scope} {own : List (Str × Nat)} {vs : List Nat} {n : Nm} {m : Mem} {K : KE} {pos : Pos}
/-- an invariant's end -/
def LcEnd (X : Cz) (tg elt : Expr) (ifs : List Expr) (scope : Scope) (vs : List Nat) (n : Nm) (Z : List Ent → Mem → Prop) (ds : List PyData) (m1 : Mem) : Prop :=
  ∃ I : Nat → List Ent → Mem → Prop, I 0 [] m1 ∧ LcW X tg elt ifs scope vs n ds I ∧ ∀ acc m', I ds.length acc m' → Z acc m'
theorem lc_go {F : Hp} {σ : St} {H : Hp} {Z : List Ent → Mem → Prop} (hm : MOk X.K F m H) (hs : HS X F σ H n m) (h : WI X tg iter n m (LcEnd X tg elt ifs scope vs n Z)) {Q : VK}
    (k : ∀ D H' F' m' acc xs, Z acc m' → MOk X.K F' m' H' → Step F m H F' m' H' → H' D = some (.lst xs) → Ents X.K F' xs acc → F' D = none → m' D = none → (H D = none ∨ m D ≠ none) → Q (.ref D) H') :
    tLc (wpI X tg iter) (tgB X scope tg) (ttB X scope ifs) (teB X scope elt) vs σ H Q := by
  refine (h F σ H hm hs).mono fun J H1 ⟨F1, m1, ds, ⟨I, i0, turn, fin⟩, hm1, st1, yl⟩ D hD => ?_
  have hs1 := hs.sl.inc st1.fr
  have fD := hm1.freshF hD
  have mD := hm1.fresh hD
  have HD : H D = none ∨ m D ≠ none := by
    cases q : H D with
    | none => exact .inl rfl
    | some o =>
      refine .inr fun z => ?_
      rw [st1.st D o q z] at hD
      cases hD
  refine ⟨fun i mm H' => mm = ds.length - i ∧ i ≤ ds.length ∧ ∃ F' m' acc xs, I i acc m' ∧ MOk X.K F' m' H' ∧ Step F1 m1 H1 F' m' H' ∧ H' D = some (.lst xs) ∧ Ents X.K F' xs acc ∧ F' D = none ∧ m' D = none, ⟨_, rfl, Nat.zero_le _, F1, m1, [], [], i0, hm1.frame fD mD, ⟨fun _ _ z => z, fun a o e _ => by rw [upd_ne (ne_of_none e hD)]; exact e, fun _ e z => absurd e z, fun _ e z => absurd e z⟩, upd_same, .nil, fD, mD⟩, ?_⟩
  rintro i mm H' ⟨rfl, hi, F', m', acc, xs, inv, hm', st', hx, rx, fD', mD'⟩
  obtain ⟨y1, y2⟩ := yl F' m' H' hm' st' i
  by_cases hlt : i < ds.length
  · have hg := List.getElem?_eq_getElem hlt
    obtain ⟨go, y1⟩ := y1 ds[i] hg
    refine .inr ⟨go, fun H2 => ∃ F' m' acc xs, I (i + 1) acc m' ∧ MOk X.K F' m' H2 ∧ Step F1 m1 H1 F' m' H2 ∧ H2 D = some (.lst xs) ∧ Ents X.K F' xs acc ∧ F' D = none ∧ m' D = none, fun H2 q => ⟨_, by omega, rfl, hlt, q⟩, fun x H3 hy => ?_⟩
    obtain ⟨F3, rd, hm3, st3⟩ := y1 x H3 hy
    obtain ⟨hl, tgw⟩ := turn i ds[i] acc m' hg inv
    have hxn : H' D ≠ none := by rw [hx]; exact fun z => nomatch z
    have hx3 := st3.st D _ hx mD'
    obtain ⟨fD3, mD3⟩ := st3.off hxn fD' mD'
    intro s0 H0 C cl fp
    refine (tgw s0 H0 C cl fp F3 (wipe σ vs) H3 x hm3.sub rd (slots_wipe (hs1.inc (fun a o e => st3.fr a o (st'.fr a o e))) vs)).mono fun σ2 H2 ⟨e, tou, n2, w2, hs2⟩ => ?_
    subst e
    refine ⟨wipe_tou tou, ?_⟩
    have s3 := st'.trans st3
    have elem : ∀ F4 b H4 m4, (b = true → ∀ s0 H0 C cl fp, WE (Bk X scope s0 H0 C cl fp) elt n2 m4 fun r m3 => I (i + 1) (acc ++ [r]) m3) ∧ (b = false → I (i + 1) acc m4) → MOk X.K F4 m4 H4 → Step F3 m' H2 F4 m4 H4 → Slots X.K F4 σ2 n2 →
        if b = true then teB X scope elt σ2 H4 (fun y H5 => ∃ acc, H5 D = some (.lst acc) ∧ acc.length < sizeLine ∧ ∃ F' m' acc', ∃ xs, I (i + 1) acc' m' ∧ MOk X.K F' m' (upd H5 D (.lst (acc ++ [y]))) ∧ Step F1 m1 H1 F' m' (upd H5 D (.lst (acc ++ [y]))) ∧ (upd H5 D (.lst (acc ++ [y]))) D = some (.lst xs) ∧ Ents X.K F' xs acc' ∧ F' D = none ∧ m' D = none)
        else ∃ F' m' acc xs, I (i + 1) acc m' ∧ MOk X.K F' m' H4 ∧ Step F1 m1 H1 F' m' H4 ∧ H4 D = some (.lst xs) ∧ Ents X.K F' xs acc ∧ F' D = none ∧ m' D = none := by
      intro F4 b H4 m4 hb hm4 st4 hs4
      have hx3n : H2 D ≠ none := by rw [hx3]; exact fun z => nomatch z
      have hx4 := st4.st D _ hx3 mD3
      obtain ⟨fD4, mD4⟩ := st4.off hx3n fD3 mD3
      have s4 := s3.trans st4
      cases b with
      | false => exact iteF ⟨F4, m4, acc, xs, hb.2 rfl, hm4, s4, hx4, rx.inc (fun a o e => st4.fr a o (st3.fr a o e)), fD4, mD4⟩
      | true =>
        refine iteT fun s0 H0 C cl fp => ?_
        refine (hb.1 rfl s0 H0 C cl fp F4 σ2 H4 hm4 (hs_blk hs4)).mono fun y H5 ⟨F5, r, m5, k5, ok5, hm5, st5⟩ => ?_
        have hx4n : H4 D ≠ none := by rw [hx4]; exact fun z => nomatch z
        have hx5 := st5.st D _ hx4 mD4
        obtain ⟨fD5, mD5⟩ := st5.off hx4n fD4 mD4
        have s5 := s4.trans st5
        have rx5 := rx.inc (F' := F5) (fun a o e => st5.fr a o (st4.fr a o (st3.fr a o e)))
        refine ⟨xs, hx5, by rw [Paired.length rx, sizeLine_eq]; exact hl, F5, m5, acc ++ [r], xs ++ [y], k5, hm5.frame fD5 mD5, ?_, upd_same, Paired.snoc rx5 ok5, fD5, mD5⟩
        refine ⟨s5.fr, fun a o e hma => ?_, s5.nf, s5.nm⟩
        rw [upd_ne (ne_of_none e hD)]
        exact s5.st a o e hma
    match ifs, w2 with
    | [], w2 =>
      exact elem F3 true H2 m' (w2 s0 H0 C cl fp) hm3 .refl hs2
    | [c], w2 =>
      intro s0 H0 C cl fp
      have w3 : WT (Bk X scope s0 H0 C cl fp) c n2 m' _ := w2 s0 H0 C cl fp
      exact w3.go hm3 (hs_blk hs2) fun F4 b H4 m4 hb hm4 st4 hs4 => elem F4 b H4 m4 hb hm4 st4 hs4.sl
    | _ :: _ :: _, w2 => exact (w2 s0 H0 C cl fp).elim
  · have e : i = ds.length := by omega
    subst e
    exact .inl ⟨y2 (Nat.le_refl _), k D H' F' m' acc xs (fin acc m' inv) hm' (st1.trans st') hx rx fD' mD' HD⟩
theorem lc_data {F : Hp} {H : Hp} {D : Addr} {H' F' : Hp} {m' : Mem} {ds : List PyData} {xs : List V} (k : K (.d (.list ds)) m') (hm' : MOk X.K F' m' H') (st' : Step F m H F' m' H') (hx : H' D = some (.lst xs)) (rx : Ents X.K F' xs (ds.map .d)) (fD : F' D = none) (mD : m' D = none) (hD : H D = none ∨ m D ≠ none) :
    PostE X F m H K (.ref D) H' := by
  have inc : Inc F' (upd F' D (.lst xs)) := Inc.upd fD
  refine ⟨upd F' D (.lst xs), _, m', k, .lst (.inl (.inl upd_same)) ((RpAll.of_ents rx).inc inc), ⟨fun a o e => ?_, fun a o e => ?_, fun a o e => XOk.inc inc (fun _ z => z) (hm'.obj a o e)⟩, ⟨fun a o e => inc a o (st'.fr a o e), st'.st, fun a e z => ?_, st'.nm⟩⟩
  · by_cases ha : a = D
    · subst ha; rw [upd_same] at e; cases e; exact hx
    · rw [upd_ne ha] at e; exact hm'.sub a o e
  · have ha : a ≠ D := fun q => by rw [q, mD] at e; cases e
    rw [upd_ne ha]
    exact hm'.out a o e
  · by_cases ha : a = D
    · subst ha; exact hD
    · rw [upd_ne ha] at z; exact st'.nf a e z
theorem lc_mem {F : Hp} {H : Hp} {D : Addr} {H' F' : Hp} {m' : Mem} {es : List Ent} {xs : List V} (k : K (.x D) (m'.put D (.lst es))) (hm' : MOk X.K F' m' H') (st' : Step F m H F' m' H') (hx : H' D = some (.lst xs)) (rx : Ents X.K F' xs es) (fD : F' D = none) (mD : m' D = none) (hD : H D = none ∨ m D ≠ none) :
    PostE X F m H K (.ref D) H' := by
  refine ⟨F', .x D, _, k, rfl, ⟨hm'.sub, fun a o e => ?_, fun a o e => ?_⟩, ⟨st'.fr, st'.st, st'.nf, fun a e z => ?_⟩⟩
  · by_cases ha : a = D
    · subst ha; exact fD
    · rw [Mem.put_ne ha] at e; exact hm'.out a o e
  · by_cases ha : a = D
    · subst ha; rw [Mem.put_same] at e; cases e; exact ⟨xs, hx, rx⟩
    · rw [Mem.put_ne ha] at e; exact hm'.obj a o e
  · by_cases ha : a = D
    · subst ha
      rcases hD with q | q
      · exact q
      · exact absurd e q
    · rw [Mem.put_ne ha] at z; exact st'.nm a e z
/-- [e for ..], data -/
theorem we_lcD (own : List (Str × Nat)) (hc : X.calm = true) (hN : X.N.Nodup) (ok : BlkOk X.N X.env.scope scope own)
    (h : WI X tg iter n m (LcEnd X tg elt ifs scope (own.map (·.2)) n fun acc m' => ∃ ds, acc = ds.map .d ∧ K (.d (.list ds)) m')) (hf : ∀ x, foldedSetIterable iter X.env x = pure x := by intro _; rfl) : WE X (.ListComp elt [⟨tg, iter, ifs, 0⟩] scope pos) n m K := fun F σ H hm hs =>
  wpE.of (pe_lc hc hN pi_wp ok (g := tgB X scope tg) (tt := ttB X scope ifs) (te := teB X scope elt) (fun s0 H0 C cl fp => ⟨fun pins s _ _ _ u _ I r q => q s0 H0 C cl fp pins s u I r⟩) (fun s0 H0 C cl fp => pts_B s0 H0 C cl fp) (fun s0 H0 C cl fp => ⟨fun pins s _ _ _ I q => q s0 H0 C cl fp pins s I⟩) hf)
    (lc_go hm hs h fun D H' F' m' acc xs ⟨ds, e, k⟩ hm' st' hx rx fD mD hD => by
      subst e
      exact lc_data k hm' st' hx rx fD mD hD)
/-- [e for ..], a list that may change -/
theorem we_lcX (own : List (Str × Nat)) (hc : X.calm = true) (hN : X.N.Nodup) (ok : BlkOk X.N X.env.scope scope own)
    (h : WI X tg iter n m (LcEnd X tg elt ifs scope (own.map (·.2)) n fun acc m' => ∀ p, m' p = none → K (.x p) (m'.put p (.lst acc)))) (hf : ∀ x, foldedSetIterable iter X.env x = pure x := by intro _; rfl) : WE X (.ListComp elt [⟨tg, iter, ifs, 0⟩] scope pos) n m K := fun F σ H hm hs =>
  wpE.of (pe_lc hc hN pi_wp ok (g := tgB X scope tg) (tt := ttB X scope ifs) (te := teB X scope elt) (fun s0 H0 C cl fp => ⟨fun pins s _ _ _ u _ I r q => q s0 H0 C cl fp pins s u I r⟩) (fun s0 H0 C cl fp => pts_B s0 H0 C cl fp) (fun s0 H0 C cl fp => ⟨fun pins s _ _ _ I q => q s0 H0 C cl fp pins s I⟩) hf)
    (lc_go hm hs h fun D H' F' m' acc xs k hm' st' hx rx fD mD hD => lc_mem (k D mD) hm' st' hx rx fD mD hD)
/-- name = [e for ..] on one line -/
theorem ws_lcD {y : Str} {py spos : Pos} (own : List (Str × Nat)) (i : Nat) (hc : X.calm = true) (hN : X.N.Nodup) (hy : X.N[i]? = some y) (hyl : X.env.scope.names.lookup y = some .local) (ok : BlkOk X.N X.env.scope scope own)
    (hsw : swapsWith (.ListComp elt [⟨tg, iter, ifs, 0⟩] scope pos) (some (.Name y py)) spos.line X.env = pure true) {P : KS}
    (h : WI X tg iter n m (LcEnd X tg elt ifs scope (own.map (·.2)) n fun acc m' => ∃ ds, acc = ds.map .d ∧ P (.nx (n.set i (some (.d (.list ds)))) m'))) (hf : ∀ x, foldedSetIterable iter X.env x = pure x := by intro _; rfl) : WS X (.Assign [.Name y py] (.ListComp elt [⟨tg, iter, ifs, 0⟩] scope pos) spos) n m P := fun F σ H hm hs =>
  wpS.of (ps_setLc hc hN hy hyl hsw pi_wp ok (g := tgB X scope tg) (tt := ttB X scope ifs) (te := teB X scope elt) (fun s0 H0 C cl fp => ⟨fun pins s _ _ _ u _ I r q => q s0 H0 C cl fp pins s u I r⟩) (fun s0 H0 C cl fp => pts_B s0 H0 C cl fp) (fun s0 H0 C cl fp => ⟨fun pins s _ _ _ I q => q s0 H0 C cl fp pins s I⟩) hf)
    (lc_go hm hs h fun D H' F' m' acc xs ⟨ds, e, k⟩ hm' st' hx rx fD mD hD => by
      subst e
      obtain ⟨F2, r, m2, ⟨rfl, rfl⟩, ok2, hm2, st2⟩ := lc_data (K := fun r m2 => r = .d (.list ds) ∧ m2 = m') ⟨rfl, rfl⟩ hm' st' hx rx fD mD hD
      exact (show PostN X F m H _ (σ.set i (some (.ref D))) H' from ⟨F2, _, m2, k, (hs.sl.inc st2.fr).set ok2, hm2, st2⟩))
theorem ws_lcX {y : Str} {py spos : Pos} (own : List (Str × Nat)) (i : Nat) (hc : X.calm = true) (hN : X.N.Nodup) (hy : X.N[i]? = some y) (hyl : X.env.scope.names.lookup y = some .local) (ok : BlkOk X.N X.env.scope scope own)
    (hsw : swapsWith (.ListComp elt [⟨tg, iter, ifs, 0⟩] scope pos) (some (.Name y py)) spos.line X.env = pure true) {P : KS}
    (h : WI X tg iter n m (LcEnd X tg elt ifs scope (own.map (·.2)) n fun acc m' => ∀ p, m' p = none → P (.nx (n.set i (some (.x p))) (m'.put p (.lst acc))))) (hf : ∀ x, foldedSetIterable iter X.env x = pure x := by intro _; rfl) : WS X (.Assign [.Name y py] (.ListComp elt [⟨tg, iter, ifs, 0⟩] scope pos) spos) n m P := fun F σ H hm hs =>
  wpS.of (ps_setLc hc hN hy hyl hsw pi_wp ok (g := tgB X scope tg) (tt := ttB X scope ifs) (te := teB X scope elt) (fun s0 H0 C cl fp => ⟨fun pins s _ _ _ u _ I r q => q s0 H0 C cl fp pins s u I r⟩) (fun s0 H0 C cl fp => pts_B s0 H0 C cl fp) (fun s0 H0 C cl fp => ⟨fun pins s _ _ _ I q => q s0 H0 C cl fp pins s I⟩) hf)
    (lc_go hm hs h fun D H' F' m' acc xs k hm' st' hx rx fD mD hD => by
      obtain ⟨F2, r, m2, ⟨rfl, rfl⟩, ok2, hm2, st2⟩ := lc_mem (K := fun r m2 => r = .x D ∧ m2 = m'.put D (.lst acc)) ⟨rfl, rfl⟩ hm' st' hx rx fD mD hD
      exact (show PostN X F m H _ (σ.set i (some (.ref D))) H' from ⟨F2, _, _, k D mD, (hs.sl.inc st2.fr).set ok2, hm2, st2⟩))
end

/-! ### defs -/
/-- what a def promises: the arguments by i, what is needed of the memory, what is told behind; what it raises: the class, the fields, the memory -/
structure Prm where
  I : Type
  args : I → List Ent
  pre : I → Mem → Prop
  post : I → Mem → Ent → Mem → Prop
  exc : I → Mem → Value → Option Addr → Mem → Prop := fun _ _ _ _ _ => False
def spW (K : PySem.W.Frag) (S : Prm) : Sp := fun vs H Q E => ∃ (i : S.I) (F : Hp) (m : Mem), Ents K F vs (S.args i) ∧ MOk K F m H ∧ S.pre i m ∧
  (∀ F' r m' v H', S.post i m r m' → EntOk K F' v r → MOk K F' m' H' → Step F m H F' m' H' → Q v H') ∧ ∀ F' cls d m' H', S.exc i m cls d m' → MOk K F' m' H' → Step F m H F' m' H' → E cls d H'
/-- the def at f keeps the promise; as FnOk, where nothing but the frames is under way -/
structure FnG (P : Program) (w : World) (K : PySem.W.Frag) (mg : Str → Option Value) (base : Heap) (k : Nat) (f : Addr) (fd : FuncData) (ps : List Str) (sp : Sp) : Prop where
  len : ∀ vs H Q E, sp vs H Q E → vs.length = ps.length
  run : ∀ (A : Around) (outer : List Env) (s : Shared) (H : Hp) (args : Args) (us : List Value) (vs : List V) (Q : VK) (E : XK), Room k A → A.guards = some [] → Env0 P w K mg base A outer s H → BindsTo s fd args (ps.zip us) → Vals vs us → sp vs H Q E →
    codeAny (model P w) A (.call (.ref f) args) (CR (CX P w) outer P w H s Q E) s
/-- a def by its name -/
def Av (P : Program) (w : World) (K : PySem.W.Frag) (mg : Str → Option Value) (base : Heap) (k : Nat) (x : Str) (ps : List Str) (S : Prm) : Prop :=
  ∃ f fd, FnG P w K mg base k f fd ps (spW K S) ∧ mg x = some (.ref f) ∧ PySem.W.keepIn K (.ref f) = true ∧ Binds K fd ps []
/-- what a body's rules lean on -/
structure XC (X : Cz) (k : Nat) : Prop where
  calm : X.calm = true
  nd : X.N.Nodup
  room : Room k X.A
  guards : X.A.guards = some []
  pass : PassesOwn (model X.prog X.w) X.A X.env X.xe
theorem XC.blk {k : Nat} (c : XC X k) {scope : Scope} {s : Shared} {H : Hp} {C : Addr} {cl : List (Str × Addr)} {fp : List Addr} : XC (Bk X scope s H C cl fp) k := ⟨c.calm, c.nd, c.room, c.guards, PassesOwn.never⟩
section
variable {X : Cz} {k k' : Nat} {x : Str} {p pos : Pos} {e : Expr} {es : List Expr} {n : Nm} {m : Mem} {K : KE} {S : Prm} {ps : List Str}
/-- how a def is used: the arguments, what it needs, what is told behind, where what it raises goes -/
def Use (S : Prm) (rs : List Ent) (m : Mem) (K : KE) (Zx : Value → Option Addr → Mem → Prop) : Prop := ∃ i, rs = S.args i ∧ S.pre i m ∧ (∀ r m', S.post i m r m' → K r m') ∧ ∀ c d m', S.exc i m c d m' → Zx c d m'
theorem run_G {f : Addr} {fd : FuncData} {pins : List (Addr × Obj)} {σ : St} {F H : Hp} {s : Shared} {us : List Value} {vs : List V} {rs : List Ent} (G : FnG X.prog X.w X.K X.mg X.base k' f fd ps (spW X.K S)) (c : XC X k) (hk : k' ≤ k) (hb : Binds X.K fd ps []) (I : Inv X pins σ H s) (r : Vals vs us)
    (hm : MOk X.K F m H) (hs : HS X F σ H n m) (hr : Ents X.K F vs rs) (h : Use S rs m K fun cls d m' => X.Z cls d n m') : wpAny (model X.prog X.w) X.A (call (.ref f) us) (EP X pins σ (PostE X F m H K)) X.xe s := by
  obtain ⟨i, rfl, pre, post, exc⟩ := h
  have sp : spW X.K S vs H (PostE X F m H K) (fun cls d H' => PostX X F m H cls d σ H') := ⟨i, F, m, hr, hm, pre, fun F' r m' v H' q ok hm' st => ⟨F', r, m', post r m' q, ok, hm', st⟩, fun F' cls d m' H' q hm' st => ⟨F', n, m', exc cls d m' q, hs.sl.inc st.fr, hm', st⟩⟩
  have hl : us.length = ps.length := by rw [← r.length]; exact G.len _ _ _ _ sp
  have bt := hb s us I.kIn (by rw [List.append_nil]; exact hl)
  rw [List.append_nil] at bt
  refine wpAny_call (codeAny_mono (G.run X.A X.stack s H ⟨us, []⟩ us vs _ _ (c.room.mono hk) c.guards I.env0 bt r sp) fun r s' hq => ?_)
  match r, hq with
  | .error e, hq => exact hs.tk e s' (XE.of_call I (fun _ _ _ z => z) hq)
  | .ok (.ret u), hq => exact I.after hq
theorem we_callX (c : XC X k) (av : Av X.prog X.w X.K X.mg X.base k' x ps S) (hk : k' ≤ k) (hg : Gl X x) (h : WA X (e :: es) n m fun rs m1 => Use S rs m1 K fun cls d m' => X.Z cls d n m')
    (hdb : (x == ("__debug__" : Str)) = false := by decide) (he : starEach (e :: es) X.env = (false, eval e X.env) :: starEach es X.env := by rfl) (hpl : (backTo pos (starEach es X.env)).any (·.1) = false := by rfl) : WE X (.Call (.Name x p) (e :: es) [] pos) n m K := fun F σ H hm hs pins s I => by
  obtain ⟨f, fd, G, hmg, hkp, hb⟩ := av
  refine wpAny_Call_Name_kw (ld_glob I hg hmg ?_ hdb)
  refine PySem.W.callWith_K (h₀ := X.base) I.ok.mod.kin hkp (thn (h F σ H hm hs pos pins s I) fun us s1 ⟨vs, H1, I1, r, F1, rs, m1, k1, ok1, hm1, st1⟩ => ⟨I1.kIn, ?_⟩) he hpl
  exact thn (run_G (K := K) (n := n) G c hk hb I1 r hm1 (hs.go st1) ok1 k1) fun u s2 ⟨v, H2, I2, r2, q⟩ => ⟨v, H2, I2, r2, PostE.after st1 q⟩
theorem we_callX0 (c : XC X k) (av : Av X.prog X.w X.K X.mg X.base k' x ps S) (hk : k' ≤ k) (hg : Gl X x) (h : Use S [] m K fun cls d m' => X.Z cls d n m')
    (hdb : (x == ("__debug__" : Str)) = false := by decide) : WE X (.Call (.Name x p) [] [] pos) n m K := fun F σ H hm hs pins s I => by
  obtain ⟨f, fd, G, hmg, hkp, hb⟩ := av
  refine wpAny_Call_Name_kw (ld_glob I hg hmg ?_ hdb)
  exact PySem.W.callWith_K0 I.kIn hkp (run_G (us := []) (vs := []) (K := K) (n := n) G c hk hb I .nil hm hs .nil h)
/-- a def that raises nothing -/
def Prm.Calm (S : Prm) : Prop := ∀ i m c d m', ¬ S.exc i m c d m'
theorem Use.of {rs : List Ent} {Zx : Value → Option Addr → Mem → Prop} (hS : S.Calm) (h : ∃ i, rs = S.args i ∧ S.pre i m ∧ ∀ r m', S.post i m r m' → K r m') : Use S rs m K Zx :=
  let ⟨i, e, pre, post⟩ := h
  ⟨i, e, pre, post, fun c d m' z => absurd z (hS i m c d m')⟩
theorem we_call (c : XC X k) (av : Av X.prog X.w X.K X.mg X.base k' x ps S) (hk : k' ≤ k) (hg : Gl X x) (h : WA X (e :: es) n m fun rs m1 => ∃ i, rs = S.args i ∧ S.pre i m1 ∧ ∀ r m', S.post i m1 r m' → K r m') (hS : S.Calm := by exact fun _ _ _ _ _ z => z)
    (hdb : (x == ("__debug__" : Str)) = false := by decide) (he : starEach (e :: es) X.env = (false, eval e X.env) :: starEach es X.env := by rfl) (hpl : (backTo pos (starEach es X.env)).any (·.1) = false := by rfl) : WE X (.Call (.Name x p) (e :: es) [] pos) n m K :=
  we_callX c av hk hg (h.mono fun _ _ q => Use.of hS q) hdb he hpl
theorem we_call0 (c : XC X k) (av : Av X.prog X.w X.K X.mg X.base k' x ps S) (hk : k' ≤ k) (hg : Gl X x) (h : ∃ i, [] = S.args i ∧ S.pre i m ∧ ∀ r m', S.post i m r m' → K r m') (hS : S.Calm := by exact fun _ _ _ _ _ z => z)
    (hdb : (x == ("__debug__" : Str)) = false := by decide) : WE X (.Call (.Name x p) [] [] pos) n m K := we_callX0 c av hk hg (Use.of hS h) hdb
end
/-- the names at a def's entry -/
def startN (k : Nat) (rs : List Ent) : Nm := rs.map some ++ List.replicate (k - rs.length) none
theorem ents_get {K : PySem.W.Frag} {F : Hp} : ∀ {vs : List V} {rs : List Ent} {i : Nat} {r : Ent}, Ents K F vs rs → rs[i]? = some r → ∃ v, vs[i]? = some v ∧ EntOk K F v r
  | _, _, _, _, .nil, e => by simp at e
  | _, _, 0, _, .cons q _, e => by simp at e; subst e; exact ⟨_, rfl, q⟩
  | _, _, i + 1, r, .cons _ t, e => by
    obtain ⟨v, h1, h2⟩ := ents_get (i := i) (r := r) t (by simpa using e)
    exact ⟨v, by simpa using h1, h2⟩
theorem slots_start {K : PySem.W.Frag} {F : Hp} {N : List Str} {vs : List V} {rs : List Ent} (h : Ents K F vs rs) : Slots K F (L2.start N vs) (startN N.length rs) := by
  have hl := Paired.length h
  refine ⟨?_, fun i r e => ?_⟩
  · unfold L2.start startN
    simp only [List.length_append, List.length_map, List.length_replicate, hl]
  · unfold startN at e
    by_cases hi : i < rs.length
    · rw [List.getElem?_append_left (by simpa using hi), List.getElem?_map] at e
      cases q : rs[i]? with
      | none => rw [q] at e; cases e
      | some u =>
        rw [q] at e
        cases e
        obtain ⟨v, h1, h2⟩ := ents_get h q
        refine ⟨v, ?_, h2⟩
        unfold L2.start
        rw [List.getElem?_append_left (by rw [List.length_map, hl]; exact hi), List.getElem?_map, h1]
        rfl
    · rw [List.getElem?_append_right (by simpa using hi), List.getElem?_replicate] at e
      split at e <;> cases e
/-- a body's context -/
abbrev BX (P : Program) (w : World) (K : PySem.W.Frag) (mg : Str → Option Value) (base : Heap) (N : List Str) (qual : Str) (st : Stmt) (f : Addr) (cdv : Value) (A : Around) (outer : List Env) (s : Shared) (H : Hp) (E : XK) (Zx : KX) : Cz :=
  ⟨cxOf (CX P w) P w K mg base N qual (defScope st) f cdv A outer s H E, Zx⟩
/-- a body's end, by the promise -/
def retP (S : Prm) (i : S.I) (m : Mem) : KS := fun o => match o with
  | .rt r m' => ∃ m2, Mem.Sub m2 m' ∧ S.post i m r m2
  | .nx _ m' => ∃ m2, Mem.Sub m2 m' ∧ S.post i m (.d .none) m2
  | _ => False
section
variable {P : Program} {w : World} {K : PySem.W.Frag} {mg : Str → Option Value} {base : Heap}
/-- what it raises, by the promise -/
def excP (S : Prm) (i : S.I) (m : Mem) : KX := fun cls d _ m' => ∃ m2, Mem.Sub m2 m' ∧ S.exc i m cls d m2
/-- THE RULE for a def -/
theorem fn_GX {x qual : Str} {st : Stmt} {f : Addr} {fd : FuncData} {N ps : List Str} {k : Nat} {S : Prm} (Fn : Fun K x qual st f fd) (sc : FnScope N ps (defScope st)) (len : ∀ i, (S.args i).length = ps.length)
    (hbody : ∀ (cdv : Value) (A : Around) (outer : List Env) (s : Shared) (H : Hp) (E : XK) (Zx : KX), XC (BX P w K mg base N qual st f cdv A outer s H E Zx) k → ∀ (i : S.I) (m : Mem), S.pre i m → (∀ cls d n' m', excP S i m cls d n' m' → Zx cls d n' m') → WB (BX P w K mg base N qual st f cdv A outer s H E Zx) (defBody st) (startN N.length (S.args i)) m (retP S i m)) : FnG P w K mg base (k + 1) f fd ps (spW K S) := by
  obtain ⟨oc, od, kV, doc, pm, an, cdv, ct, osl, rfl, lk, hcd⟩ := Fn.ex
  have hlen : ∀ vs H Q E, spW K S vs H Q E → vs.length = ps.length := fun vs H Q E ⟨i, F, m, h, _⟩ => by rw [Paired.length h]; exact len i
  refine ⟨hlen, fun A outer s H args us vs Q E hr hg e0 hb r hsp => ?_⟩
  have KX : K.In s.heap := e0.mod.kin.keeps fun b o e => (e0.bs b o e).1
  have lim : s.heap.NoLimit := e0.mod.nolimit.keeps fun b o e => (e0.bs b o e).1
  refine codeAny_call_function hr.depth (KX _ _ lk) rfl sc.co sc.gen rfl (PySem.W.codeRec_of KX hcd) (hb _ _ _ _ (wpAny_newFunctionEnv_cells sc.kind (fun ⟨y, v⟩ hy => ?_) fun env he s1 x => ?_))
  · rcases sc.par y (List.of_mem_zip hy).1 with q | q
    · exact .inl q
    · exact .inr ⟨q, PySem.W.cellsFrom_some _ _ _ (.inl q)⟩
  · subst he
    refine ⟨lim.keeps x.toInCall.keep, codeAny_func ?_⟩
    obtain ⟨i, F, m, hA, hm, pre, post, exc⟩ := hsp
    have I : Inv (cxOf (CX P w) P w K mg base N qual (defScope st) f cdv A outer s H E) [] (L2.start N vs) H s1 := inv_start sc hr.hd e0 (by rw [Paired.length hA]; exact len i) r x
    have tk : Tk (BX P w K mg base N qual st f cdv A outer s H E (excP S i m)) F m H := Takes.imp (takes_of rfl rfl rfl rfl) fun cls d σ H' ⟨F', n', m', ⟨m2, sub, q⟩, _, hm', st'⟩ => exc F' cls d m2 H' q (hm'.less sub) (st'.trans (Step.sub sub))
    have body := hbody cdv A outer s H E (excP S i m) ⟨rfl, sc.nd, hr.deeper _, hg, PassesOwn.leaving⟩ i m pre (fun _ _ _ _ z => z) F (L2.start N vs) H hm ⟨slots_start hA, tk⟩ [] s1 I
    refine wpAny_mono body (fun fl s' hs => ?_) fun _ _ z => z
    have fin : ∀ {σ' : St} {H' : Hp} {v : V} {u : Value} {F' : Hp} {r : Ent} {m' : Mem}, Inv (cxOf (CX P w) P w K mg base N qual (defScope st) f cdv A outer s H E) [] σ' H' s' → RelV v u → (∃ m2, Mem.Sub m2 m' ∧ S.post i m r m2) → EntOk K F' v r → MOk K F' m' H' → Step F m H F' m' H' → CE outer P w H s Q u s' :=
      fun {σ' H' v u F' r m'} J rv ⟨m2, sub, q⟩ ok hm' st => ⟨v, H', J.os, J.bare, J.base, J.hok, rv, post F' r m2 v H' q ok (hm'.less sub) (st.trans (Step.sub sub))⟩
    match fl, hs with
    | .ret u, ⟨v, σ', H', J, rv, F', r, m', q, ok, hm', st⟩ => exact fin J rv q ok hm' st
    | .next, ⟨σ', H', J, F', n', m', q, hs', hm', st⟩ => exact fin (v := .non) (u := Value.none) J rfl q Rp.non hm' st
    | .brk, ⟨_, _, _, _, _, _, q, _⟩ => exact q.elim
    | .cont, ⟨_, _, _, _, _, _, q, _⟩ => exact q.elim
/-- .. for a def that raises nothing -/
theorem fn_G {x qual : Str} {st : Stmt} {f : Addr} {fd : FuncData} {N ps : List Str} {k : Nat} {S : Prm} (Fn : Fun K x qual st f fd) (sc : FnScope N ps (defScope st)) (len : ∀ i, (S.args i).length = ps.length)
    (hbody : ∀ (cdv : Value) (A : Around) (outer : List Env) (s : Shared) (H : Hp) (E : XK) (Zx : KX), XC (BX P w K mg base N qual st f cdv A outer s H E Zx) k → ∀ (i : S.I) (m : Mem), S.pre i m → WB (BX P w K mg base N qual st f cdv A outer s H E Zx) (defBody st) (startN N.length (S.args i)) m (retP S i m)) : FnG P w K mg base (k + 1) f fd ps (spW K S) :=
  fn_GX Fn sc len fun cdv A outer s H E Zx c i m pre _ => hbody cdv A outer s H E Zx c i m pre
end
end Z

/-! Z5: operators, subscripts, what is built in. -/
namespace Z
open PySem PySem.Spec L2
set_option linter.all false
section
variable {X : Cz} {e o a b : Expr} {es : List Expr} {n : Nm} {m : Mem} {K : KE} {pos : Pos} {x y : Ent}
/-! ### whole numbers -/
theorem r2_I {C : Int → Int → Prop} {g : Int → Int → Int} {i j : Int} (hc : C i j) (k : K (.d (.int (g i j))) m) : R2W X (rI C fun i j => .int (g i j)) (.d (.int i)) (.d (.int j)) m K := fun F H v u hm h1 h2 Q q =>
  ⟨i, j, h1.int, h2.int, hc, q _ _ (PostE.here k (Rp.int _) hm)⟩
theorem r2_I0 {g : Int → Int → Int} {i j : Int} (k : K (.d (.int (g i j))) m) : R2W X (rI0 fun i j => .int (g i j)) (.d (.int i)) (.d (.int j)) m K := fun F H v u hm h1 h2 Q q =>
  ⟨i, j, h1.int, h2.int, q _ _ (PostE.here k (Rp.int _) hm)⟩
theorem r2_B0 {g : Int → Int → Bool} {i j : Int} (k : K (.d (.bool (g i j))) m) : R2W X (rI0 fun i j => .bl (g i j)) (.d (.int i)) (.d (.int j)) m K := fun F H v u hm h1 h2 Q q =>
  ⟨i, j, h1.int, h2.int, q _ _ (PostE.here k (Rp.bl _) hm)⟩
/-! ### + -/
def rCatS (K : PySem.W.Frag) : R2 := fun x y H Q => ∃ l b xs zs, x = .ref l ∧ y = .ref b ∧ SqL K H l xs ∧ SqL K H b zs ∧ xs.length + zs.length ≤ sizeLine ∧ ∀ p, H p = none → Q (.ref p) (upd H p (.lst (xs ++ zs)))
theorem op_catS : OpR X (binaryOp .Add) (rCatS X.K) := by
  intro pins s σ H x y v u Q I rx ry ⟨l, b, xs, zs, ex, ey, hl, hb, hz, q⟩
  subst ex ey
  cases rx
  cases ry
  obtain ⟨i1, r1, p1, z1⟩ := I.list hl
  obtain ⟨i2, r2, p2, z2⟩ := I.list hb
  obtain ⟨⟨c1, d1, t1, s1⟩, o1, k1, n1, e1⟩ := p1.isList
  obtain ⟨⟨c2, d2, t2, s2⟩, o2, k2, n2, e2⟩ := p2.isList
  simp only at k1 e1 k2 e2
  subst k1 e1 k2 e2
  have len1 := r1.length
  have len2 := r2.length
  refine concat_meets ⟨_, o1, rfl⟩ ⟨_, o2, rfl⟩ noFill_list_add seq_list_add PySem.F.slot_list_add PySem.F.entry_list_add (PySem.F.args_list_add_2 _ _) (PyProof.Rows.list_addW l b i1.toArray i2.toArray n1 n2 d1 d2 s1 s2 ?_) ⟨o1, o2, ?_⟩
  · rw [List.size_toArray, List.size_toArray]; omega
  · rw [List.append_toArray]
    exact ⟨.ref _, _, I.lnew (t' := s.toks) (r1.append r2) (by rw [List.length_append]; omega), rfl, q _ I.fresh⟩
def rAddStr : R2 := fun x y H Q => ∃ i j, x = .str i ∧ y = .str j ∧ i.length + j.length ≤ sizeLine ∧ Q (.str (i ++ j)) H
def rAddZ (K : PySem.W.Frag) : R2 := fun x y H Q => rI0 (fun i j => .int (i + j)) x y H Q ∨ rAddStr x y H Q ∨ rCatS K x y H Q ∨ rCatA K x y H Q
theorem op_addZ : OpR X (binaryOp .Add) (rAddZ X.K) := op_add.or (OpR.or (r := rAddStr) op_add_str (op_catS.or op_catA))
theorem add_I {i j : Int} (k : K (.d (.int (i + j))) m) : R2W X (rAddZ X.K) (.d (.int i)) (.d (.int j)) m K := fun F H v u hm h1 h2 Q q =>
  .inl ⟨i, j, h1.int, h2.int, q _ _ (PostE.here k (Rp.int _) hm)⟩
theorem add_S {i j : Str} (hl : i.length + j.length ≤ 16777216) (k : K (.d (.str (i ++ j))) m) : R2W X (rAddZ X.K) (.d (.str i)) (.d (.str j)) m K := fun F H v u hm h1 h2 Q q =>
  .inr (.inl ⟨i, j, h1.str, h2.str, by rw [sizeLine_eq]; exact hl, q _ _ (PostE.here k (Rp.str _) hm)⟩)
theorem RpAll.append {K : PySem.W.Frag} {F : Hp} : ∀ {xs ys : List V} {ds es : List PyData}, RpAll K F xs ds → RpAll K F ys es → RpAll K F (xs ++ ys) (ds ++ es)
  | _, _, _, _, .nil, s => s
  | _, _, _, _, .cons r t, s => .cons r (RpAll.append t s)
theorem add_L {ds es : List PyData} (hx : Dat m x (.list ds)) (hy : Dat m y (.list es)) (hl : ds.length + es.length ≤ 16777216) (k : K (.d (.list (ds ++ es))) m) : R2W X (rAddZ X.K) x y m K := fun F H v u hm h1 h2 Q q => by
  obtain ⟨p1, xs, rfl, s1, r1⟩ := hx.sqL hm h1
  obtain ⟨p2, ys, rfl, s2, r2⟩ := hy.sqL hm h2
  exact .inr (.inr (.inl ⟨p1, p2, xs, ys, rfl, rfl, s1, s2, by rw [r1.length, r2.length, sizeLine_eq]; exact hl, fun p hp => q _ _ (post_L hm hp (r1.append r2) k)⟩))
/-- .. a list that may change -/
theorem add_LX {ds es : List PyData} (hx : Dat m x (.list ds)) (hy : Dat m y (.list es)) (hl : ds.length + es.length ≤ 16777216) (k : ∀ p, m p = none → K (.x p) (m.put p (.lst (List.map .d (ds ++ es))))) : R2W X (rAddZ X.K) x y m K := fun F H v u hm h1 h2 Q q => by
  obtain ⟨p1, xs, rfl, s1, r1⟩ := hx.sqL hm h1
  obtain ⟨p2, ys, rfl, s2, r2⟩ := hy.sqL hm h2
  exact .inr (.inr (.inl ⟨p1, p2, xs, ys, rfl, rfl, s1, s2, by rw [r1.length, r2.length, sizeLine_eq]; exact hl, fun p hp => q _ _ (post_X hm hp (r1.append r2).ents k)⟩))
theorem add_T {ds es : List PyData} (hl : ds.length + es.length ≤ 16777216) (k : K (.d (.tuple (ds ++ es))) m) : R2W X (rAddZ X.K) (.d (.tuple ds)) (.d (.tuple es)) m K := fun F H v u hm h1 h2 Q q => by
  obtain ⟨p1, xs, rfl, s1, r1⟩ := dat_sqT hm h1
  obtain ⟨p2, ys, rfl, s2, r2⟩ := dat_sqT hm h2
  refine .inr (.inr (.inr ⟨p1, p2, xs, ys, rfl, rfl, s1, s2, by rw [r1.length, r2.length, sizeLine_eq]; exact hl, fun e => ?_, fun _ e => ?_, fun _ _ p hp => q _ _ (post_T hm hp (r1.append r2) k)⟩))
  · subst e
    cases r1
    exact q _ _ (PostE.here k h2 hm)
  · subst e
    cases r2
    rw [List.append_nil] at k
    exact q _ _ (PostE.here k h1 hm)

theorem we_neg {i0 : Unit} (h : WE X a n m fun x m1 => ∃ i, x = .d (.int i) ∧ K (.d (.int (-i))) m1) : WE X (.UnaryOp .USub a pos) n m K := fun F σ H hm hs =>
  wpE.of (pe_un un_neg pe_wp) (h.go hm hs fun F1 v H1 x m1 ⟨i, ex, k⟩ ok hm1 st1 hs1 => by
    subst ex
    exact ⟨i, ok.int, PostE.after st1 (PostE.here k (Rp.int _) hm1)⟩)
def rIsN0 : R2 := fun x y H Q => y = .non ∧ Q (.bl (decide (x = .non))) H
def rNotN0 : R2 := fun x y H Q => y = .non ∧ Q (.bl (!decide (x = .non))) H
theorem op_isN0 : OpR X (compareOp .Is) rIsN0 := op_isN
theorem op_notN0 : OpR X (compareOp .IsNot) rNotN0 := op_notN
def isNone : Ent → Bool
  | .d .none => true
  | .v .non => true
  | _ => false
theorem isNone_ok {K : PySem.W.Frag} {F : Hp} {v : V} {r : Ent} (h : EntOk K F v r) : decide (v = .non) = isNone r := by
  cases r with
  | d d =>
    cases d with
    | none => rw [h.non]; rfl
    | bool b => rw [h.bl]; rfl
    | int b => rw [h.int]; rfl
    | str b => rw [h.str]; rfl
    | list xs => cases h; rfl
    | tuple xs => cases h; rfl
    | dict xs => cases h; rfl
  | x a => have e : v = .ref a := h; rw [e]; rfl
  | v u =>
    have e : v = u := h
    subst e
    cases v <;> rfl
theorem is_N (k : K (.d (.bool (isNone x))) m) : R2W X rIsN0 x (.d .none) m K := fun F H v u hm h1 h2 Q q => ⟨h2.non, by rw [isNone_ok h1]; exact q _ _ (PostE.here k (Rp.bl _) hm)⟩
theorem not_N (k : K (.d (.bool (!isNone x))) m) : R2W X rNotN0 x (.d .none) m K := fun F H v u hm h1 h2 Q q => ⟨h2.non, by rw [isNone_ok h1]; exact q _ _ (PostE.here k (Rp.bl _) hm)⟩

/-! ### == != of data -/
theorem eq_D {d d' : PyData} (hx : Dat m x d) (hy : Dat m y d') (s1 : SeqAt.shaped d = true) (s2 : SeqAt.shaped d' = true) (n1 : nodict d = true) (n2 : nodict d' = true) (k : K (.d (.bool (PyData.eqv d d'))) m) : R2W X (rEqD X.K) x y m K := fun F H v u hm h1 h2 Q q =>
  ⟨d, d', hx.dp hm h1 n1, hy.dp hm h2 n2, s1, s2, q _ _ (PostE.here k (Rp.bl _) hm)⟩
theorem ne_D {d d' : PyData} (hx : Dat m x d) (hy : Dat m y d') (s1 : SeqAt.shaped d = true) (s2 : SeqAt.shaped d' = true) (n1 : nodict d = true) (n2 : nodict d' = true) (k : K (.d (.bool (!PyData.eqv d d'))) m) : R2W X (rNeD X.K) x y m K := fun F H v u hm h1 h2 Q q =>
  ⟨d, d', hx.dp hm h1 n1, hy.dp hm h2 n2, s1, s2, q _ _ (PostE.here k (Rp.bl _) hm)⟩
theorem eqv_int (i j : Int) : PyData.eqv (.int i) (.int j) = decide (i = j) := by rw [PyData.eqv]; exact Bool.beq_eq_decide_eq i j
theorem eqv_str (i j : Str) : PyData.eqv (.str i) (.str j) = decide (i = j) := by rw [PyData.eqv]; exact Bool.beq_eq_decide_eq i j
theorem eqv_bl (i j : Bool) : PyData.eqv (.bool i) (.bool j) = decide (i = j) := by rw [PyData.eqv]; exact Bool.beq_eq_decide_eq i j
theorem sh_int (i : Int) : SeqAt.shaped (.int i) = true := by simp [SeqAt.shaped, PyData.canLay0, PyData.depth]
theorem eq_I {i j : Int} (k : K (.d (.bool (decide (i = j)))) m) : R2W X (rEqD X.K) (.d (.int i)) (.d (.int j)) m K := eq_D .d .d (sh_int i) (sh_int j) rfl rfl (by rw [eqv_int]; exact k)
theorem ne_I {i j : Int} (k : K (.d (.bool (!decide (i = j)))) m) : R2W X (rNeD X.K) (.d (.int i)) (.d (.int j)) m K := ne_D .d .d (sh_int i) (sh_int j) rfl rfl (by rw [eqv_int]; exact k)
/-- of numbers, texts, bools, None: by the scalar rule -/
def sV : PyData → Option V
  | .none => some .non
  | .bool b => some (.bl b)
  | .int i => some (.int i)
  | .str x => some (.str x)
  | _ => none
theorem sV_ok {K : PySem.W.Frag} {F : Hp} {v u : V} {d : PyData} (h : EntOk K F v (.d d)) (e : sV d = some u) : v = u := by
  cases d with
  | none => cases h; cases e; rfl
  | bool b => cases h; cases e; rfl
  | int b => cases h; cases e; rfl
  | str b => cases h; cases e; rfl
  | list xs => cases e
  | tuple xs => cases e
  | dict xs => cases e
theorem eq_V {d d' : PyData} {v u : V} (h1 : sV d = some v) (h2 : sV d' = some u) (hs : scal v u = true) (k : K (.d (.bool (decide (v = u)))) m) : R2W X rEq (.d d) (.d d') m K := fun F H v' u' hm o1 o2 Q q => by
  rw [sV_ok o1 h1, sV_ok o2 h2]
  exact ⟨hs, q _ _ (PostE.here k (Rp.bl _) hm)⟩
theorem ne_V {d d' : PyData} {v u : V} (h1 : sV d = some v) (h2 : sV d' = some u) (hs : scal v u = true) (k : K (.d (.bool (!decide (v = u)))) m) : R2W X rNe (.d d) (.d d') m K := fun F H v' u' hm o1 o2 Q q => by
  rw [sV_ok o1 h1, sV_ok o2 h2]
  exact ⟨hs, q _ _ (PostE.here k (Rp.bl _) hm)⟩
theorem eq_S {i j : Str} (k : K (.d (.bool (decide (i = j)))) m) : R2W X rEq (.d (.str i)) (.d (.str j)) m K := eq_V (v := .str i) (u := .str j) rfl rfl rfl (by
  have e : decide (V.str i = V.str j) = decide (i = j) := by simp
  rw [e]; exact k)
theorem ne_S {i j : Str} (k : K (.d (.bool (!decide (i = j)))) m) : R2W X rNe (.d (.str i)) (.d (.str j)) m K := ne_V (v := .str i) (u := .str j) rfl rfl rfl (by
  have e : decide (V.str i = V.str j) = decide (i = j) := by simp
  rw [e]; exact k)

/-! ### in -/
def sVs : List PyData → Option (List V)
  | [] => some []
  | d :: ds => match sV d, sVs ds with
    | some v, some vs => some (v :: vs)
    | _, _ => none
theorem RpAll.scals {K : PySem.W.Frag} {F : Hp} : ∀ {xs vs : List V} {ds : List PyData}, RpAll K F xs ds → sVs ds = some vs → xs = vs
  | _, _, _, .nil, e => by cases e; rfl
  | _, _, _, .cons (d := d) (ds := ds) r t, e => by
    unfold sVs at e
    cases e1 : sV d with
    | none => rw [e1] at e; simp at e
    | some v =>
      cases e2 : sVs ds with
      | none => rw [e1, e2] at e; simp at e
      | some ws =>
        rw [e1, e2] at e
        simp at e
        subst e
        rw [sV_ok r e1, RpAll.scals t e2]
theorem in_L {neg : Bool} {d : PyData} {ds : List PyData} {v : V} {vs : List V} (hy : Dat m y (.list ds)) (h1 : sV d = some v) (h2 : sVs ds = some vs) (f1 : flatV v = true) (f2 : vs.all flatV = true) (k : K (.d (.bool (if neg then !inV v vs else inV v vs))) m) : R2W X (rIn X.K neg) (.d d) y m K := fun F H v' u' hm o1 o2 Q q => by
  obtain ⟨p, xs, rfl, s, r⟩ := hy.sqL hm o2
  rw [sV_ok o1 h1]
  have e := r.scals h2
  subst e
  exact ⟨p, xs, rfl, .inl s, f1, f2, q _ _ (PostE.here k (Rp.bl _) hm)⟩
theorem in_T {neg : Bool} {d : PyData} {ds : List PyData} {v : V} {vs : List V} (h1 : sV d = some v) (h2 : sVs ds = some vs) (f1 : flatV v = true) (f2 : vs.all flatV = true) (k : K (.d (.bool (if neg then !inV v vs else inV v vs))) m) : R2W X (rIn X.K neg) (.d d) (.d (.tuple ds)) m K := fun F H v' u' hm o1 o2 Q q => by
  obtain ⟨p, xs, rfl, s, r⟩ := dat_sqT hm o2
  rw [sV_ok o1 h1]
  have e := r.scals h2
  subst e
  exact ⟨p, xs, rfl, .inr s, f1, f2, q _ _ (PostE.here k (Rp.bl _) hm)⟩

/-! ### items -/
theorem we_ix {r : R2} (hr : IxR X r) (h : WE X a n m fun x m1 => WE X b n m1 fun y m2 => R2W X r x y m2 K) (hp : PlainIx b := by exact fun _ _ => rfl) : WE X (.Subscript a b pos) n m K := fun F σ H hm hs =>
  wpE.of (pe_ix hr pe_wp pe_wp hp) (h.go hm hs fun F1 v H1 x m1 h1 ok1 hm1 st1 hs1 => h1.go hm1 hs1 fun F2 u H2 y m2 h2 ok2 hm2 st2 hs2 =>
    h2 F2 H2 v u hm2 (ok1.inc st2.fr) ok2 _ fun z H' q => PostE.after (st1.trans st2) q)
theorem atI_len {α β : Type} {xs : List α} {ds : List β} (h : xs.length = ds.length) {i : Int} {d : β} (e : atI ds i = some d) : ∃ j, ixN xs.length i = some j ∧ ds[j]? = some d := by
  unfold atI at e
  cases q : ixN ds.length i with
  | none => rw [q] at e; cases e
  | some j =>
    rw [q] at e
    exact ⟨j, by rw [h]; exact q, e⟩
theorem RpAll.at {K : PySem.W.Frag} {F : Hp} {xs : List V} {ds : List PyData} (r : RpAll K F xs ds) {i : Int} {d : PyData} (e : atI ds i = some d) : ∃ v, atI xs i = some v ∧ Rp K F v d := by
  obtain ⟨j, h1, h2⟩ := atI_len r.length e
  obtain ⟨v, h3, h4⟩ := r.get h2
  exact ⟨v, by unfold atI; rw [h1]; exact h3, h4⟩
theorem ix_L {ds : List PyData} {d : PyData} {i : Int} (hx : Dat m x (.list ds)) (e : atI ds i = some d) (k : K (.d d) m) : R2W X (rIx X.K) x (.d (.int i)) m K := fun F H v u hm h1 h2 Q q => by
  obtain ⟨p, xs, rfl, s, r⟩ := hx.sqL hm h1
  obtain ⟨w, hw, rw_⟩ := r.at e
  exact .inl ⟨p, xs, i, w, rfl, h2.int, s, hw, q _ _ (PostE.here k rw_ hm)⟩
theorem ix_T {ds : List PyData} {d : PyData} {i : Int} (e : atI ds i = some d) (k : K (.d d) m) : R2W X (rIx X.K) (.d (.tuple ds)) (.d (.int i)) m K := fun F H v u hm h1 h2 Q q => by
  obtain ⟨p, xs, rfl, s, r⟩ := dat_sqT hm h1
  obtain ⟨w, hw, rw_⟩ := r.at e
  exact .inr (.inl ⟨p, xs, i, w, rfl, h2.int, s, hw, q _ _ (PostE.here k rw_ hm)⟩)
theorem ix_S {z : Str} {c : Nat} {i : Int} (hl : z.length ≤ 16777216) (e : atI z.cps.toList i = some c) (k : K (.d (.str ⟨#[c]⟩)) m) : R2W X (rIx X.K) (.d (.str z)) (.d (.int i)) m K := fun F H v u hm h1 h2 Q q =>
  .inr (.inr ⟨z, i, c, h1.str, h2.int, by rw [sizeLine_eq]; exact hl, e, q _ _ (PostE.here k (Rp.str _) hm)⟩)
/-- an item of a list in the memory -/
theorem ix_X {p : Addr} {es : List Ent} {r : Ent} {i : Int} (hx : m p = some (.lst es)) (e : atI es i = some r) (k : K r m) : R2W X (rIx X.K) (.x p) (.d (.int i)) m K := fun F H v u hm h1 h2 Q q => by
  obtain ⟨xs, hH, rr⟩ := hm.obj p _ hx
  obtain ⟨j, hj, hg⟩ := atI_len (Paired.length rr) e
  obtain ⟨w, hw, ok⟩ := ents_get rr hg
  exact .inl ⟨p, xs, i, w, h1, h2.int, .inl (.inl hH), by unfold atI; rw [hj]; exact hw, q _ _ (PostE.here k ok hm)⟩
/-- o[i] = e, a list in the memory -/
theorem ws_setix {P : KS} {i : Expr} {tpos : Pos} (h : WE X e n m fun r m1 => WE X o n m1 fun x m2 => WE X i n m2 fun k m3 => ∃ p es kk j, x = .x p ∧ k = .d (.int kk) ∧ m3 p = some (.lst es) ∧ ixN es.length kk = some j ∧ P (.nx n (m3.put p (.lst (es.set j r)))))
    (ha : ∀ v, assign (.Subscript o i tpos) X.env v = (do
      let ov ← holding [v] (eval o X.env)
      let iv ← holding [v, ov] (eval i X.env)
      standAt tpos
      holding [v, ov, iv] (setItem ov iv v)
      release [v, ov, iv] []) := by intro _; rfl)
    (h1 : swapsWithSole [.Subscript o i tpos] e pos.line X.env = pure false := by rfl) (h2 : swappedStores [.Subscript o i tpos] e X.env = pure none := by rfl)
    (h3 : (assignEach [.Subscript o i tpos] X.env).map (·.2) = [assign (.Subscript o i tpos) X.env] := by rfl) : WS X (.Assign [.Subscript o i tpos] e pos) n m P := fun F σ H hm hs =>
  wpS.of (ps_asg pe_wp (pg_sub pe_wp pe_wp set_list ha) h1 h2 h3) (h.go hm hs fun F1 v H1 r m1 k1 ok1 hm1 st1 hs1 => k1.go hm1 hs1 fun F2 ov H2 x m2 k2 ok2 hm2 st2 hs2 => k2.go hm2 hs2 fun F3 iv H3 y m3 k3 ok3 hm3 st3 hs3 => by
    obtain ⟨p, es, kk, j, rfl, rfl, hp, hj, k⟩ := k3
    obtain ⟨xs, hx, rr⟩ := hm3.obj p _ hp
    have ok1' := (ok1.inc st2.fr).inc st3.fr
    refine ⟨p, xs, kk, j, ok2, ok3.int, hx, by rw [Paired.length rr]; exact hj, (show PostN X F m H _ _ _ from ⟨F3, n, _, k, hs3.sl, hm3.mut hp ⟨_, upd_same, ?_⟩, ((st1.trans st2).trans st3).trans (Step.mut hp)⟩)⟩
    exact ents_set rr j ok1')
where
  ents_set {K : PySem.W.Frag} {F : Hp} {v : V} {r : Ent} : ∀ {xs : List V} {es : List Ent}, Ents K F xs es → ∀ (j : Nat), EntOk K F v r → Ents K F (xs.set j v) (es.set j r)
    | _, _, .nil, _, _ => .nil
    | _, _, .cons _ t, 0, ok => .cons ok t
    | _, _, .cons q t, j + 1, ok => .cons q (ents_set t j ok)

/-! ### slices -/
def WO (X : Cz) (oe : Option Expr) (n : Nm) (m : Mem) (K : Option Int → Mem → Prop) : Prop := match oe with
  | none => K none m
  | some e => WE X e n m fun r m1 => ∃ i, r = .d (.int i) ∧ K (some i) m1
def wpO (X : Cz) (oe : Option Expr) : TO := match oe with
  | none => tNoPart
  | some e => tPart (wpE X e)
theorem po_wp {oe : Option Expr} : PO X oe (wpO X oe) := match oe with
  | none => po_none
  | some _ => po_some pe_wp
theorem WO.go {oe : Option Expr} {F : Hp} {σ : St} {H : Hp} {K : Option Int → Mem → Prop} (h : WO X oe n m K) (hm : MOk X.K F m H) (hs : HS X F σ H n m) {Q : Option Int → Hp → Prop}
    (k : ∀ F1 i H1 m1, K i m1 → MOk X.K F1 m1 H1 → Step F m H F1 m1 H1 → HS X F1 σ H1 n m1 → Q i H1) : wpO X oe σ H Q := by
  match oe, h with
  | none, h => exact k F none H m h hm .refl hs
  | some e, h => exact WE.go h hm hs fun F1 v H1 r m1 ⟨i, er, q⟩ ok hm1 st1 hs1 => ⟨i, (show EntOk X.K F1 v (.d (.int i)) from er ▸ ok).int, k F1 (some i) H1 m1 q hm1 st1 hs1⟩
theorem wo_none {K : Option Int → Mem → Prop} (k : K none m) : WO X none n m K := k
theorem wo_some {K : Option Int → Mem → Prop} (h : WE X e n m fun r m1 => ∃ i, r = .d (.int i) ∧ K (some i) m1) : WO X (some e) n m K := h
def SLW (X : Cz) (r : V → Option Int → Option Int → Hp → VK → Prop) (x : Ent) (lo hi : Option Int) (m : Mem) (K : KE) : Prop := ∀ F H v, MOk X.K F m H → EntOk X.K F v x → ∀ Q : VK, (∀ z H', PostE X F m H K z H' → Q z H') → r v lo hi H Q
theorem we_slice {r : V → Option Int → Option Int → Hp → VK → Prop} {lo hi : Option Expr} {p2 : Pos} (hr : SlR X r) (h : WE X e n m fun x m1 => WO X lo n m1 fun l m2 => WO X hi n m2 fun u m3 => SLW X r x l u m3 K) : WE X (.Subscript e (.Slice lo hi none p2) pos) n m K := fun F σ H hm hs =>
  wpE.of (pe_slice hr pe_wp po_wp po_wp) (h.go hm hs fun F1 v H1 x m1 h1 ok1 hm1 st1 hs1 => h1.go hm1 hs1 fun F2 l H2 m2 h2 hm2 st2 hs2 => h2.go hm2 hs2 fun F3 u H3 m3 h3 hm3 st3 hs3 =>
    h3 F3 H3 v hm3 ((ok1.inc st2.fr).inc st3.fr) _ fun z H' q => PostE.after ((st1.trans st2).trans st3) q)
def rSlZ (K : PySem.W.Frag) : V → Option Int → Option Int → Hp → VK → Prop := fun x lo hi H Q => rSlL K x lo hi H Q ∨ rSlA K x lo hi H Q ∨ rSlS x lo hi H Q
theorem sl_Z : SlR X (rSlZ X.K) := sl_list.or (sl_tupA.or sl_str)
def cutD {α : Type} (xs : List α) (lo hi : Option Int) : List α := (xs.drop (HT.sIx xs.length 0 lo)).take (HT.sIx xs.length xs.length hi - HT.sIx xs.length 0 lo)
theorem RpAll.drop {K : PySem.W.Frag} {F : Hp} : ∀ {xs : List V} {ds : List PyData}, RpAll K F xs ds → ∀ k : Nat, RpAll K F (xs.drop k) (ds.drop k)
  | _, _, .nil, k => by simp; exact .nil
  | _, _, .cons r t, 0 => .cons r t
  | _, _, .cons _ t, k + 1 => RpAll.drop t k
theorem RpAll.take {K : PySem.W.Frag} {F : Hp} : ∀ {xs : List V} {ds : List PyData}, RpAll K F xs ds → ∀ k : Nat, RpAll K F (xs.take k) (ds.take k)
  | _, _, .nil, k => by simp; exact .nil
  | _, _, .cons _ _, 0 => .nil
  | _, _, .cons r t, k + 1 => .cons r (RpAll.take t k)
theorem RpAll.cut {K : PySem.W.Frag} {F : Hp} {xs : List V} {ds : List PyData} (r : RpAll K F xs ds) (lo hi : Option Int) : RpAll K F (cutV xs lo hi) (cutD ds lo hi) := by
  unfold cutV cutD
  rw [r.length]
  exact (r.drop _).take _
theorem sl_L {ds : List PyData} {lo hi : Option Int} (hx : Dat m x (.list ds)) (k : K (.d (.list (cutD ds lo hi))) m) : SLW X (rSlZ X.K) x lo hi m K := fun F H v hm h1 Q q => by
  obtain ⟨p, xs, rfl, s, r⟩ := hx.sqL hm h1
  exact .inl ⟨p, xs, rfl, s, fun p hp => q _ _ (post_L hm hp (r.cut lo hi) k)⟩
theorem sl_LX {ds : List PyData} {lo hi : Option Int} (hx : Dat m x (.list ds)) (k : ∀ p, m p = none → K (.x p) (m.put p (.lst (List.map .d (cutD ds lo hi))))) : SLW X (rSlZ X.K) x lo hi m K := fun F H v hm h1 Q q => by
  obtain ⟨p, xs, rfl, s, r⟩ := hx.sqL hm h1
  exact .inl ⟨p, xs, rfl, s, fun p hp => q _ _ (post_X hm hp (r.cut lo hi).ents k)⟩
theorem cutD_whole {α : Type} {ds : List α} {lo hi : Option Int} (h : HT.sIx ds.length 0 lo = 0 ∧ HT.sIx ds.length ds.length hi = ds.length) : cutD ds lo hi = ds := by
  unfold cutD
  rw [h.1, h.2]
  simp
theorem sl_T {ds : List PyData} {lo hi : Option Int} (k : K (.d (.tuple (cutD ds lo hi))) m) : SLW X (rSlZ X.K) (.d (.tuple ds)) lo hi m K := fun F H v hm h1 Q q => by
  obtain ⟨p, xs, rfl, s, r⟩ := dat_sqT hm h1
  refine .inr (.inl ⟨p, xs, rfl, s, fun w => ?_, fun _ p hp => q _ _ (post_T hm hp (r.cut lo hi) k)⟩)
  rw [r.length] at w
  rw [cutD_whole w] at k
  exact q _ _ (PostE.here k h1 hm)
theorem sl_S {z : Str} {lo hi : Option Int} (hl : z.length ≤ 16777216) (k : K (.d (.str (cutS z lo hi))) m) : SLW X (rSlZ X.K) (.d (.str z)) lo hi m K := fun F H v hm h1 Q q =>
  .inr (.inr ⟨z, h1.str, by rw [sizeLine_eq]; exact hl, q _ _ (PostE.here k (Rp.str _) hm)⟩)

/-! ### what is built in -/
theorem Ents.one {K : PySem.W.Frag} {F : Hp} {vs : List V} {r : Ent} (h : Ents K F vs [r]) : ∃ v, vs = [v] ∧ EntOk K F v r := by
  cases h with
  | cons q t => cases t; exact ⟨_, rfl, q⟩
theorem Ents.two {K : PySem.W.Frag} {F : Hp} {vs : List V} {r s : Ent} (h : Ents K F vs [r, s]) : ∃ v u, vs = [v, u] ∧ EntOk K F v r ∧ EntOk K F u s := by
  cases h with
  | cons q t => cases t with
    | cons q2 t => cases t; exact ⟨_, _, rfl, q, q2⟩
def rAbs : List V → Hp → VK → Prop := fun xs H Q => ∃ i, xs = [.int i] ∧ Q (.int (if i < 0 then -i else i)) H
theorem c_abs : CallR X (.builtin "abs") rAbs := call_abs
theorem abs_I {i : Int} (k : K (.d (.int (if i < 0 then -i else i))) m) : RCW X rAbs [.d (.int i)] m K := fun F H vs hm h Q q => by
  obtain ⟨v, rfl, ok⟩ := h.one
  exact ⟨i, by rw [ok.int], q _ _ (PostE.here k (Rp.int _) hm)⟩
def rMax2 : List V → Hp → VK → Prop := fun xs H Q => ∃ i j, xs = [.int i, .int j] ∧ Q (.int (if j > i then j else i)) H
def rMin2 : List V → Hp → VK → Prop := fun xs H Q => ∃ i j, xs = [.int i, .int j] ∧ Q (.int (if j < i then j else i)) H
theorem c_max2 (hc : X.calm = true) : CallR X (.builtin "max") rMax2 := call_max2 hc
theorem c_min2 (hc : X.calm = true) : CallR X (.builtin "min") rMin2 := call_min2 hc
theorem max_II {i j : Int} (k : K (.d (.int (max i j))) m) : RCW X rMax2 [.d (.int i), .d (.int j)] m K := fun F H vs hm h Q q => by
  obtain ⟨v, u, rfl, o1, o2⟩ := h.two
  have e : (if j > i then j else i) = max i j := by split <;> omega
  exact ⟨i, j, by rw [o1.int, o2.int], by rw [e]; exact q _ _ (PostE.here k (Rp.int _) hm)⟩
theorem min_II {i j : Int} (k : K (.d (.int (min i j))) m) : RCW X rMin2 [.d (.int i), .d (.int j)] m K := fun F H vs hm h Q q => by
  obtain ⟨v, u, rfl, o1, o2⟩ := h.two
  have e : (if j < i then j else i) = min i j := by split <;> omega
  exact ⟨i, j, by rw [o1.int, o2.int], by rw [e]; exact q _ _ (PostE.here k (Rp.int _) hm)⟩
def rLenZ (K : PySem.W.Frag) : List V → Hp → VK → Prop := fun xs H Q => ∃ x n, xs = [x] ∧ LenV K x H n ∧ Q (.int n) H
theorem c_len : CallR X (.builtin "len") (rLenZ X.K) := call_len
theorem len_L {ds : List PyData} (hx : Dat m x (.list ds)) (k : K (.d (.int (ds.length : Int))) m) : RCW X (rLenZ X.K) [x] m K := fun F H vs hm h Q q => by
  obtain ⟨v, rfl, ok⟩ := h.one
  obtain ⟨p, xs, rfl, s, r⟩ := hx.sqL hm ok
  exact ⟨_, xs.length, rfl, .inl ⟨xs, s, rfl⟩, q _ _ (PostE.here (r := .d (.int (xs.length : Int))) (by rw [r.length]; exact k) (Rp.int _) hm)⟩
theorem len_T {ds : List PyData} (k : K (.d (.int (ds.length : Int))) m) : RCW X (rLenZ X.K) [.d (.tuple ds)] m K := fun F H vs hm h Q q => by
  obtain ⟨v, rfl, ok⟩ := h.one
  obtain ⟨p, xs, rfl, s, r⟩ := dat_sqT hm ok
  exact ⟨_, xs.length, rfl, .inr ⟨xs, s, rfl⟩, q _ _ (PostE.here (r := .d (.int (xs.length : Int))) (by rw [r.length]; exact k) (Rp.int _) hm)⟩
theorem len_S {z : Str} (hl : z.length ≤ 16777216) (k : K (.d (.int (z.length : Int))) m) : RCW X (rLenZ X.K) [.d (.str z)] m K := fun F H vs hm h Q q => by
  obtain ⟨v, rfl, ok⟩ := h.one
  exact ⟨_, z.length, rfl, by rw [ok.str]; exact ⟨by rw [sizeLine_eq]; exact hl, rfl⟩, q _ _ (PostE.here k (Rp.int _) hm)⟩
theorem len_X {p : Addr} {es : List Ent} (hx : m p = some (.lst es)) (k : K (.d (.int (es.length : Int))) m) : RCW X (rLenZ X.K) [.x p] m K := fun F H vs hm h Q q => by
  obtain ⟨v, rfl, ok⟩ := h.one
  obtain ⟨xs, hH, rr⟩ := hm.obj p _ hx
  have e : v = .ref p := ok
  subst e
  exact ⟨_, xs.length, rfl, .inl ⟨xs, .inl (.inl hH), rfl⟩, q _ _ (PostE.here (r := .d (.int (xs.length : Int))) (by rw [Paired.length rr]; exact k) (Rp.int _) hm)⟩
def rInt1 : List V → Hp → VK → Prop := fun xs H Q => (∃ i, xs = [.int i] ∧ Q (.int i) H) ∨ ∃ k, xs = [.bl k] ∧ Q (.int (if k then 1 else 0)) H
theorem c_int1 : CallR X (.type "int") rInt1 := call_int1
theorem int_I {i : Int} (k : K (.d (.int i)) m) : RCW X rInt1 [.d (.int i)] m K := fun F H vs hm h Q q => by
  obtain ⟨v, rfl, ok⟩ := h.one
  exact .inl ⟨i, by rw [ok.int], q _ _ (PostE.here k (Rp.int _) hm)⟩
theorem int_B {i : Bool} (k : K (.d (.int (if i then 1 else 0))) m) : RCW X rInt1 [.d (.bool i)] m K := fun F H vs hm h Q q => by
  obtain ⟨v, rfl, ok⟩ := h.one
  exact .inr ⟨i, by rw [ok.bl], q _ _ (PostE.here k (Rp.int _) hm)⟩
def rTupOf (K : PySem.W.Frag) : List V → Hp → VK → Prop := fun xs H Q => ∃ p ys, xs = [.ref p] ∧ ((SqL K H p ys ∧ ∀ l, H l = none → Q (.ref l) (upd H l (.tup ys))) ∨ (SqT K H p ys ∧ Q (.ref p) H))
theorem c_tuple : CallR X (.type "tuple") (rTupOf X.K) := call_tuple_of
theorem tuple_L {ds : List PyData} (hx : Dat m x (.list ds)) (k : K (.d (.tuple ds)) m) : RCW X (rTupOf X.K) [x] m K := fun F H vs hm h Q q => by
  obtain ⟨v, rfl, ok⟩ := h.one
  obtain ⟨p, xs, rfl, s, r⟩ := hx.sqL hm ok
  exact ⟨p, xs, rfl, .inl ⟨s, fun l hl => q _ _ (post_T hm hl r k)⟩⟩
theorem tuple_T {ds : List PyData} (k : K (.d (.tuple ds)) m) : RCW X (rTupOf X.K) [.d (.tuple ds)] m K := fun F H vs hm h Q q => by
  obtain ⟨v, rfl, ok⟩ := h.one
  obtain ⟨p, xs, rfl, s, r⟩ := dat_sqT hm ok
  exact ⟨p, xs, rfl, .inr ⟨s, q _ _ (PostE.here k ok hm)⟩⟩
def rListOf (K : PySem.W.Frag) : List V → Hp → VK → Prop := fun xs H Q => ∃ p ys, xs = [.ref p] ∧ (SqL K H p ys ∨ SqT K H p ys) ∧ ∀ l, H l = none → Q (.ref l) (upd H l (.lst ys))
theorem c_list : CallR X (.type "list") (rListOf X.K) := call_list_of
theorem list_L {ds : List PyData} (hx : Dat m x (.list ds)) (k : K (.d (.list ds)) m) : RCW X (rListOf X.K) [x] m K := fun F H vs hm h Q q => by
  obtain ⟨v, rfl, ok⟩ := h.one
  obtain ⟨p, xs, rfl, s, r⟩ := hx.sqL hm ok
  exact ⟨p, xs, rfl, .inl s, fun l hl => q _ _ (post_L hm hl r k)⟩
theorem list_LX {ds : List PyData} (hx : Dat m x (.list ds)) (k : ∀ p, m p = none → K (.x p) (m.put p (.lst (List.map .d ds)))) : RCW X (rListOf X.K) [x] m K := fun F H vs hm h Q q => by
  obtain ⟨v, rfl, ok⟩ := h.one
  obtain ⟨p, xs, rfl, s, r⟩ := hx.sqL hm ok
  exact ⟨p, xs, rfl, .inl s, fun l hl => q _ _ (post_X hm hl r.ents k)⟩
theorem list_T {ds : List PyData} (k : K (.d (.list ds)) m) : RCW X (rListOf X.K) [.d (.tuple ds)] m K := fun F H vs hm h Q q => by
  obtain ⟨v, rfl, ok⟩ := h.one
  obtain ⟨p, xs, rfl, s, r⟩ := dat_sqT hm ok
  exact ⟨p, xs, rfl, .inr s, fun l hl => q _ _ (post_L hm hl r k)⟩
theorem list_TX {ds : List PyData} (k : ∀ p, m p = none → K (.x p) (m.put p (.lst (List.map .d ds)))) : RCW X (rListOf X.K) [.d (.tuple ds)] m K := fun F H vs hm h Q q => by
  obtain ⟨v, rfl, ok⟩ := h.one
  obtain ⟨p, xs, rfl, s, r⟩ := dat_sqT hm ok
  exact ⟨p, xs, rfl, .inr s, fun l hl => q _ _ (post_X hm hl r.ents k)⟩

/-! ### methods of what is built in -/
variable {name : Str} {apos : Pos} {T id : String}
def BMW (X : Cz) (r : V → List V → Hp → VK → Prop) (x : Ent) (rs : List Ent) (m : Mem) (K : KE) : Prop := ∀ F H v vs, MOk X.K F m H → EntOk X.K F v x → Ents X.K F vs rs → ∀ Q : VK, (∀ z H', PostE X F m H K z H' → Q z H') → r v vs H Q
def TyW (X : Cz) (T : String) (x : Ent) (m : Mem) : Prop := ∀ F H v, MOk X.K F m H → EntOk X.K F v x → tyV X.K T v H
theorem ty_L {ds : List PyData} (hx : Dat m x (.list ds)) : TyW X "list" x m := fun F H v hm ok => by
  obtain ⟨p, xs, rfl, s, r⟩ := hx.sqL hm ok
  exact .inl ⟨rfl, xs, s⟩
theorem ty_X {p : Addr} {es : List Ent} (hx : m p = some (.lst es)) : TyW X "list" (.x p) m := fun F H v hm ok => by
  obtain ⟨xs, hH, _⟩ := hm.obj p _ hx
  have e : v = .ref p := ok
  subst e
  exact .inl ⟨rfl, xs, .inl (.inl hH)⟩
theorem ty_S {z : Str} : TyW X "str" (.d (.str z)) m := fun F H v hm ok => by rw [ok.str]; exact (rfl : ("str" : String) = "str")
theorem we_bm {r : V → List V → Hp → VK → Prop} (pa : PlainAttrs T) (slot : Slot T name id) (hty : typeOf (.builtin id) = pure (.type "method_descriptor")) (hr : MtR X id r)
    (h : WE X o n m fun x m1 => TyW X T x m1 ∧ WA X (e :: es) n m1 fun rs m2 => BMW X r x rs m2 K)
    (hbase : attributeBase o name X.env (eval o X.env) = eval o X.env := by rfl)
    (hfew : ((backTo pos (starEach (e :: es) X.env)).all (fun x => !x.1) && (backToKw pos (keywordEach [] X.env)).all (fun x => x.1.isSome)
      && decide ((e :: es).length + ([] : List Keyword).length + (if ([] : List Keyword).isEmpty then 0 else 1) < 30)) = true := by rfl)
    (hline : (apos.endLine == pos.line) = true := by rfl) (hs0 : starEach (e :: es) X.env = (false, eval e X.env) :: starEach es X.env := by rfl) (hpl : (backTo pos (starEach es X.env)).any (·.1) = false := by rfl) :
    WE X (.Call (.Attribute o name apos) (e :: es) [] pos) n m K := fun F σ H hm hs =>
  wpE.of (pe_bm pa slot hty hr pe_wp pa_wp hbase hfew hline hs0 hpl) (h.go hm hs fun F1 v H1 x m1 h1 ok1 hm1 st1 hs1 => ⟨h1.1 F1 H1 v hm1 ok1, h1.2.go hm1 hs1 fun F2 vs H2 rs m2 h2 ok2 hm2 st2 hs2 =>
    h2 F2 H2 v vs hm2 (ok1.inc st2.fr) ok2 _ fun z H' q => PostE.after (st1.trans st2) q⟩)
theorem we_bm0 {r : V → List V → Hp → VK → Prop} (pa : PlainAttrs T) (slot : Slot T name id) (hty : typeOf (.builtin id) = pure (.type "method_descriptor")) (hr : MtR X id r)
    (h : WE X o n m fun x m1 => TyW X T x m1 ∧ BMW X r x [] m1 K)
    (hbase : attributeBase o name X.env (eval o X.env) = eval o X.env := by rfl) (hline : (apos.endLine == pos.line) = true := by rfl) : WE X (.Call (.Attribute o name apos) [] [] pos) n m K := fun F σ H hm hs =>
  wpE.of (pe_bm0 pa slot hty hr pe_wp hbase hline) (h.go hm hs fun F1 v H1 x m1 h1 ok1 hm1 st1 hs1 => ⟨h1.1 F1 H1 v hm1 ok1, h1.2 F1 H1 v [] hm1 ok1 .nil _ fun z H' q => PostE.after st1 q⟩)
theorem app_X {p : Addr} {es : List Ent} {r : Ent} (hx : m p = some (.lst es)) (hl : es.length < 16777216) (k : K (.d .none) (m.put p (.lst (es ++ [r])))) : BMW X rAppend (.x p) [r] m K := fun F H v vs hm h1 h2 Q q => by
  obtain ⟨y, rfl, ok⟩ := h2.one
  obtain ⟨xs, hH, rr⟩ := hm.obj p _ hx
  refine ⟨p, xs, y, h1, rfl, hH, by rw [Paired.length rr, sizeLine_eq]; exact hl, q _ _ ⟨F, _, _, k, Rp.non, hm.mut hx ⟨_, upd_same, Paired.snoc rr ok⟩, Step.mut hx⟩⟩
theorem clear_X {p : Addr} {es : List Ent} (hx : m p = some (.lst es)) (k : K (.d .none) (m.put p (.lst []))) : BMW X rClear (.x p) [] m K := fun F H v vs hm h1 h2 Q q => by
  cases h2
  obtain ⟨xs, hH, rr⟩ := hm.obj p _ hx
  exact ⟨p, xs, h1, rfl, hH, q _ _ ⟨F, _, _, k, Rp.non, hm.mut hx ⟨_, upd_same, .nil⟩, Step.mut hx⟩⟩
def rJoin (K : PySem.W.Frag) : V → List V → Hp → VK → Prop := fun x xs H Q => ∃ a p, ∃ ys : List Str, x = .str a ∧ xs = [.ref p] ∧ (SqL K H p (ys.map V.str) ∨ SqT K H p (ys.map V.str)) ∧
    (ys.map (·.length)).sum + ys.length * a.length ≤ 16777216 ∧ Q (.str (Txt.join a ys)) H
theorem m_join : MtR X "str.join" (rJoin X.K) := mt_join
theorem strs_of {K : PySem.W.Frag} {F : Hp} : ∀ {ys : List Str} {xs : List V}, RpAll K F xs (ys.map .str) → xs = ys.map V.str
  | [], _, .nil => rfl
  | y :: ys, _, .cons r t => by
    cases r
    rw [List.map_cons, strs_of t]
theorem ints_of {K : PySem.W.Frag} {F : Hp} : ∀ {ys : List Int} {xs : List V}, RpAll K F xs (ys.map .int) → xs = ys.map V.int
  | [], _, .nil => rfl
  | y :: ys, _, .cons r t => by
    cases r
    rw [List.map_cons, ints_of t]
theorem bls_of {K : PySem.W.Frag} {F : Hp} : ∀ {ys : List Bool} {xs : List V}, RpAll K F xs (ys.map .bool) → xs = ys.map V.bl
  | [], _, .nil => rfl
  | y :: ys, _, .cons r t => by
    cases r
    rw [List.map_cons, bls_of t]
theorem join_L {a : Str} {ys : List Str} (hx : Dat m x (.list (ys.map .str))) (hl : (ys.map (·.length)).sum + ys.length * a.length ≤ 16777216) (k : K (.d (.str (Txt.join a ys))) m) : BMW X (rJoin X.K) (.d (.str a)) [x] m K := fun F H v vs hm h1 h2 Q q => by
  obtain ⟨y, rfl, ok⟩ := h2.one
  obtain ⟨p, xs, rfl, s, r⟩ := hx.sqL hm ok
  have e := strs_of r
  subst e
  exact ⟨a, p, ys, h1.str, rfl, .inl s, hl, q _ _ (PostE.here k (Rp.str _) hm)⟩
theorem join_T {a : Str} {ys : List Str} (hl : (ys.map (·.length)).sum + ys.length * a.length ≤ 16777216) (k : K (.d (.str (Txt.join a ys))) m) : BMW X (rJoin X.K) (.d (.str a)) [.d (.tuple (ys.map .str))] m K := fun F H v vs hm h1 h2 Q q => by
  obtain ⟨y, rfl, ok⟩ := h2.one
  obtain ⟨p, xs, rfl, s, r⟩ := dat_sqT hm ok
  have e := strs_of r
  subst e
  exact ⟨a, p, ys, h1.str, rfl, .inr s, hl, q _ _ (PostE.here k (Rp.str _) hm)⟩
theorem we_append (h : WE X o n m fun x m1 => TyW X "list" x m1 ∧ WA X (e :: es) n m1 fun rs m2 => BMW X rAppend x rs m2 K)
    (hbase : attributeBase o "append" X.env (eval o X.env) = eval o X.env := by rfl)
    (hfew : ((backTo pos (starEach (e :: es) X.env)).all (fun x => !x.1) && (backToKw pos (keywordEach [] X.env)).all (fun x => x.1.isSome)
      && decide ((e :: es).length + ([] : List Keyword).length + (if ([] : List Keyword).isEmpty then 0 else 1) < 30)) = true := by rfl)
    (hline : (apos.endLine == pos.line) = true := by rfl) (hs0 : starEach (e :: es) X.env = (false, eval e X.env) :: starEach es X.env := by rfl) (hpl : (backTo pos (starEach es X.env)).any (·.1) = false := by rfl) :
    WE X (.Call (.Attribute o "append" apos) (e :: es) [] pos) n m K := we_bm PySem.F.plainAttrs_list PySem.F.slot_list_append PySem.F.type_list_append mt_append h hbase hfew hline hs0 hpl
theorem we_join (h : WE X o n m fun x m1 => TyW X "str" x m1 ∧ WA X (e :: es) n m1 fun rs m2 => BMW X (rJoin X.K) x rs m2 K)
    (hbase : attributeBase o "join" X.env (eval o X.env) = eval o X.env := by rfl)
    (hfew : ((backTo pos (starEach (e :: es) X.env)).all (fun x => !x.1) && (backToKw pos (keywordEach [] X.env)).all (fun x => x.1.isSome)
      && decide ((e :: es).length + ([] : List Keyword).length + (if ([] : List Keyword).isEmpty then 0 else 1) < 30)) = true := by rfl)
    (hline : (apos.endLine == pos.line) = true := by rfl) (hs0 : starEach (e :: es) X.env = (false, eval e X.env) :: starEach es X.env := by rfl) (hpl : (backTo pos (starEach es X.env)).any (·.1) = false := by rfl) :
    WE X (.Call (.Attribute o "join" apos) (e :: es) [] pos) n m K := we_bm PySem.F.plainAttrs_str PySem.F.slot_str_join PySem.F.type_str_join m_join h hbase hfew hline hs0 hpl
theorem we_clear (h : WE X o n m fun x m1 => TyW X "list" x m1 ∧ BMW X rClear x [] m1 K)
    (hbase : attributeBase o "clear" X.env (eval o X.env) = eval o X.env := by rfl) (hline : (apos.endLine == pos.line) = true := by rfl) : WE X (.Call (.Attribute o "clear" apos) [] [] pos) n m K := we_bm0 PySem.F.plainAttrs_list PySem.F.slot_list_clear PySem.F.type_list_clear mt_clear h hbase hline
end
end Z

/-! Z6: sums, greatest, least; products of great numbers; the end of a law. -/
namespace Z
open PySem PySem.Spec PyProof.Rows L2
set_option linter.all false
section
variable {X : Cz} {n : Nm} {m : Mem} {K : KE} {x y : Ent}
/-! ### products -/
def CMulZ (i j : Int) : Prop := i.natAbs.log2 + j.natAbs.log2 < 100000000
theorem CMulZ.ok {i j : Int} (h : CMulZ i j) : IntMulOk i j := by
  have bits : ∀ z : Int, Builtin.Int.intBits z ≤ z.natAbs.log2 + 1 := fun z => by
    unfold Builtin.Int.intBits
    split <;> omega
  have b1 := bits i
  have b2 := bits j
  unfold CMulZ at h
  intro hz
  rw [Bool.and_eq_true] at hz
  have hz2 := hz.2
  unfold Builtin.Int.intTooBig at hz2
  have hz3 := of_decide_eq_true hz2
  have line : bitsLine = 134217728 := by decide
  rw [line] at hz3
  omega
theorem op_mulZ : OpR X (binaryOp .Mult) (rI CMulZ fun i j => .int (i * j)) := opI fun _ _ _ _ _ _ _ hc q => mul_int q hc.ok
/-- both small -/
theorem CMulZ.small {i j : Int} (h1 : -(2 ^ 400) < i ∧ i < 2 ^ 400) (h2 : -(2 ^ 400) < j ∧ j < 2 ^ 400) : CMulZ i j := by
  have e1 : i.natAbs < 2 ^ 400 := by omega
  have e2 : j.natAbs < 2 ^ 400 := by omega
  have a1 := PySem.Flt.log2_lt_of (by decide) e1
  have a2 := PySem.Flt.log2_lt_of (by decide) e2
  unfold CMulZ
  omega
/-! ### sum, max, min of whole numbers -/
def SqI (K : PySem.W.Frag) (H : Hp) (a : Addr) (ns : List Int) : Prop := SqL K H a (ns.map V.int) ∨ SqT K H a (ns.map V.int)
def rSumZ (K : PySem.W.Frag) : List V → Hp → VK → Prop := fun vs H Q => ∃ (a : Addr) (ns : List Int), vs = [V.ref a] ∧ SqI K H a ns ∧ Q (.int ns.sum) H
def rMaxZ (K : PySem.W.Frag) : List V → Hp → VK → Prop := fun vs H Q => ∃ (a : Addr) (i : Int) (ns : List Int), vs = [V.ref a] ∧ SqI K H a (i :: ns) ∧ Q (.int (ns.foldl max i)) H
def rMinZ (K : PySem.W.Frag) : List V → Hp → VK → Prop := fun vs H Q => ∃ (a : Addr) (i : Int) (ns : List Int), vs = [V.ref a] ∧ SqI K H a (i :: ns) ∧ Q (.int (ns.foldl min i)) H
theorem c_sumZ (hc : X.calm = true) : CallR X (.builtin "sum") (rSumZ X.K) := by
  intro pins s σ H vs us Q I r ⟨a, ns, e, hs, q⟩
  rcases hs with hs | hs
  · exact cr_sum hc pins s σ H vs us Q I r ⟨a, ns, e, hs, q⟩
  · subst e
    obtain ⟨its, rv, ht, _⟩ := I.tuple hs
    rw [Vals.ref1 r]
    obtain ⟨zs, ez⟩ := rv.ints.allInts.items
    have hn : numsOf (intItems zs).toList = ns := by rw [← ez]; exact rv.ints.numsOf
    rw [nums_intItems] at hn
    rw [ez] at ht
    refine PySem.W.ktm_sumG (I.ok.hd hc) ht fun h' tk t' hk => ⟨.int _, H, I.kept hk, ⟨t', ?_⟩, q⟩
    rw [preSum_eq, List.take_of_length_le (by simp), hn]
theorem alike_ints (ns : List Int) : PySem.W.AlikeAll (ns.map .int) := by
  refine ⟨fun a ha b hb => ?_, fun a ha => ?_⟩
  · obtain ⟨i, _, rfl⟩ := List.mem_map.mp ha
    obtain ⟨j, _, rfl⟩ := List.mem_map.mp hb
    rfl
  · obtain ⟨i, _, rfl⟩ := List.mem_map.mp ha
    exact fun z => nomatch z
theorem depth_ints : ∀ ns : List Int, PyData.depthAll (ns.map .int) = 0
  | [] => rfl
  | i :: ns => by rw [List.map_cons, PyData.depthAll, depth_ints ns]; rfl
theorem reads_ints {h : Heap} : ∀ {vs : List Value} {ns : List Int}, IntsAre vs ns → ReadsAll h vs (ns.map .int) []
  | _, _, .nil => .nil
  | _, _, .cons n t r => by
    have := ReadsAll.cons (Reads.int (h := h) n t) (reads_ints r)
    exact this
theorem c_maxZ {k : Nat} (c : XC X k) : CallR X (.builtin "max") (rMaxZ X.K) := by
  intro pins s σ H vs us Q I r ⟨a, i, ns, e, hs, q⟩
  subst e
  have hu : X.A.units + 1 + PyData.depthAll ((i :: ns).map .int) < cLine := by
    rw [depth_ints]
    have := c.room.units
    omega
  have fin : ∀ (v : Value) (h' : Heap) (tk : Nat) (bs : List Addr), Reads h' v (PySem.W.maxD (.int i) (ns.map .int)) bs → (∀ b o, s.heap.get? b = some o → h'.get? b = some o) → EP X pins σ Q v { s with heap := h', toks := tk } := fun v h' tk bs rd hk => by
    rw [PySem.W.maxD_ints] at rd
    cases rd
    exact ⟨.int _, H, I.kept hk, ⟨_, rfl⟩, q⟩
  rcases hs with hs | hs
  · obtain ⟨its, rv, hl, _⟩ := I.list hs
    rw [Vals.ref1 r]
    exact PySem.W.max_list_data (I.ok.hd c.calm) hl.isList (reads_ints rv.ints) (alike_ints (i :: ns)) hu fun j v h' tk bs _ rd hk => fin v h' tk bs rd hk
  · obtain ⟨its, rv, hl, _⟩ := I.tuple hs
    rw [Vals.ref1 r]
    exact PySem.W.max_tuple_data (I.ok.hd c.calm) hl (reads_ints rv.ints) (alike_ints (i :: ns)) hu fun j v h' tk bs _ rd hk => fin v h' tk bs rd hk
theorem c_minZ {k : Nat} (c : XC X k) : CallR X (.builtin "min") (rMinZ X.K) := by
  intro pins s σ H vs us Q I r ⟨a, i, ns, e, hs, q⟩
  subst e
  have hu : X.A.units + 1 + PyData.depthAll ((i :: ns).map .int) < cLine := by
    rw [depth_ints]
    have := c.room.units
    omega
  have fin : ∀ (v : Value) (h' : Heap) (tk : Nat) (bs : List Addr), Reads h' v (PySem.W.minD (.int i) (ns.map .int)) bs → (∀ b o, s.heap.get? b = some o → h'.get? b = some o) → EP X pins σ Q v { s with heap := h', toks := tk } := fun v h' tk bs rd hk => by
    rw [PySem.W.minD_ints] at rd
    cases rd
    exact ⟨.int _, H, I.kept hk, ⟨_, rfl⟩, q⟩
  rcases hs with hs | hs
  · obtain ⟨its, rv, hl, _⟩ := I.list hs
    rw [Vals.ref1 r]
    exact PySem.W.min_list_data (I.ok.hd c.calm) hl.isList (reads_ints rv.ints) (alike_ints (i :: ns)) hu fun j v h' tk bs _ rd hk => fin v h' tk bs rd hk
  · obtain ⟨its, rv, hl, _⟩ := I.tuple hs
    rw [Vals.ref1 r]
    exact PySem.W.min_tuple_data (I.ok.hd c.calm) hl (reads_ints rv.ints) (alike_ints (i :: ns)) hu fun j v h' tk bs _ rd hk => fin v h' tk bs rd hk
/-- a list or a tuple of data -/
def DatS (m : Mem) (x : Ent) (ds : List PyData) : Prop := Dat m x (.list ds) ∨ x = .d (.tuple ds)
theorem DatS.sqI {K : PySem.W.Frag} {F H : Hp} {v : V} {ns : List Int} (h : DatS m x (ns.map .int)) (hm : MOk K F m H) (ok : EntOk K F v x) : ∃ a, v = .ref a ∧ SqI K H a ns := by
  rcases h with h | h
  · obtain ⟨p, xs, rfl, s, r⟩ := h.sqL hm ok
    rw [ints_of r] at s
    exact ⟨p, rfl, .inl s⟩
  · subst h
    obtain ⟨p, xs, rfl, s, r⟩ := dat_sqT hm ok
    rw [ints_of r] at s
    exact ⟨p, rfl, .inr s⟩
theorem sum_Z {ns : List Int} (hx : DatS m x (ns.map .int)) (k : K (.d (.int ns.sum)) m) : RCW X (rSumZ X.K) [x] m K := fun F H vs hm h Q q => by
  obtain ⟨v, rfl, ok⟩ := h.one
  obtain ⟨a, rfl, s⟩ := hx.sqI hm ok
  exact ⟨a, ns, rfl, s, q _ _ (PostE.here k (Rp.int _) hm)⟩
theorem max_Z {i : Int} {ns : List Int} (hx : DatS m x ((i :: ns).map .int)) (k : K (.d (.int (ns.foldl max i))) m) : RCW X (rMaxZ X.K) [x] m K := fun F H vs hm h Q q => by
  obtain ⟨v, rfl, ok⟩ := h.one
  obtain ⟨a, rfl, s⟩ := hx.sqI hm ok
  exact ⟨a, i, ns, rfl, s, q _ _ (PostE.here k (Rp.int _) hm)⟩
theorem min_Z {i : Int} {ns : List Int} (hx : DatS m x ((i :: ns).map .int)) (k : K (.d (.int (ns.foldl min i))) m) : RCW X (rMinZ X.K) [x] m K := fun F H vs hm h Q q => by
  obtain ⟨v, rfl, ok⟩ := h.one
  obtain ⟨a, rfl, s⟩ := hx.sqI hm ok
  exact ⟨a, i, ns, rfl, s, q _ _ (PostE.here k (Rp.int _) hm)⟩
end

/-! ### the end -/
/-- the law's own promise: of any script it hands back True -/
def lawS (n : Nat) : Prm where
  I := List Int
  args ns := [.d (.list (ns.map .int))]
  pre ns m := ns.length ≤ n ∧ (∀ z ∈ ns, Builtin.Int.intBits z ≤ 1048576) ∧ m = fun _ => none
  post _ _ r _ := r = .d (.bool true)
theorem rp_ints {K : PySem.W.Frag} {F : Hp} : ∀ ns : List Int, RpAll K F (ns.map V.int) (ns.map .int)
  | [] => .nil
  | i :: ns => .cons (.int i) (rp_ints ns)
theorem root_G {P : Program} {w : World} {K : PySem.W.Frag} {mg mb : Str → Option Value} {k n : Nat} {fa a : Addr} {fd : FuncData} {x : Str} {s₁ : Shared} {vs : List Value} {ns : List Int}
    (KX : K.In s₁.heap) (hns : s₁.heap.Ns mainGlobals mg) (hb : s₁.heap.Ns builtinsNs mb) (hbb : ∀ x : Str, x ≠ "__name__" → mb x = bootBuiltins x) (hlim : s₁.heap.NoLimit) (hgens : s₁.gens = #[])
    (ha : s₁.heap.get? a = some { cls := .type "list", data := .seq vs.toArray }) (hi : IntsAre vs ns) (hl : ns.length ≤ n) (hl2 : n ≤ sizeLine) (hbits : ∀ z ∈ ns, Builtin.Int.intBits z ≤ 1048576) (hr : Room k callerA)
    (G : ∀ base : Heap, K.In base → base.Ns mainGlobals mg → FnG P w K mg base k fa fd [x] (spW K (lawS n))) (hbind : ∀ (s : Shared) (u : Value), BindsTo s fd ⟨[u], []⟩ [(x, u)]) :
    codeAny (model P w) callerA (.call (.ref fa) ⟨[.ref a], []⟩) (fun r s' => r = .ok (.ret (.bool true)) ∧ OldK s₁.heap s'.heap ∧ s'.os = s₁.os ∧ AllBare s'.gens) s₁ := by
  have rv : Vals (ns.map V.int) vs := vals_ints hi
  obtain ⟨H, one, locked, seq, hold⟩ : ∃ H : Hp, (∀ b, H b ≠ none → b = a ∧ K.lookup a = none) ∧ (∀ b u, H b = some u → ∃ o xs, u = .frz o (.lst xs)) ∧ SqL K H a (ns.map V.int) ∧ HOk P w H s₁.heap := by
    cases hk : K.lookup a with
    | some o =>
      have e := KX a o hk
      rw [ha] at e
      cases e
      have no : ∀ (b : Addr) (u : HO), (fun _ => none : Hp) b = some u → False := fun b u z => by
        have z' : (none : Option HO) = some u := z
        cases z'
      refine ⟨fun _ => none, fun b z => absurd rfl z, fun b u z => (no b u z).elim, Or.inr ⟨_, vs.toArray, _, hk, rfl, rfl, rfl, ?_, by simpa using rv⟩, fun b u z => (no b u z).elim⟩
      rw [List.size_toArray, hi.length]
      omega
    | none =>
      have at_ : ∀ b u, (if b = a then some (HO.frz { cls := .type "list", data := .seq vs.toArray } (.lst (ns.map V.int))) else none) = some u → b = a ∧ u = .frz { cls := .type "list", data := .seq vs.toArray } (.lst (ns.map V.int)) := fun b u z => by
        split at z
        · cases z; exact ⟨by assumption, rfl⟩
        · cases z
      refine ⟨fun b => if b = a then some (.frz { cls := .type "list", data := .seq vs.toArray } (.lst (ns.map V.int))) else none, fun b z => ?_, fun b u z => ⟨_, _, (at_ b u z).2⟩, .inl (.inr ⟨_, if_pos rfl⟩), fun b u z => ?_⟩
      · by_cases q : b = a
        · exact ⟨q, rfl⟩
        · exact absurd (if_neg q) z
      · obtain ⟨rfl, rfl⟩ := at_ b u z
        exact ⟨ha, by rw [List.length_map]; omega, vs, _, rv, ha⟩
  have cases_H : ∀ b, H b = none ∨ ∃ u, H b = some u := fun b => by
    cases H b with
    | none => exact .inl rfl
    | some u => exact .inr ⟨u, rfl⟩
  have under : ∀ {b : Addr} {o : Obj}, s₁.heap.get? b = some o → H b = none → (hidT s₁.heap H).get? b = some o := fun e z => hidT_get e z
  have nodictH : ∀ {b : Addr} {o : Obj} {es : Array DictEntry} {ep : Nat}, s₁.heap.get? b = some o → o.data = .dict es ep → H b = none := fun {b o es ep} e d => by
    rcases cases_H b with z | ⟨u, z⟩
    · exact z
    · obtain ⟨rfl, _⟩ := one b (by rw [z]; exact fun q => nomatch q)
      rw [ha] at e
      cases e
      cases d
  have names : ∀ {b : Addr} {mm : Str → Option Value}, s₁.heap.Ns b mm → (hidT s₁.heap H).Ns b mm := fun {b mm} ⟨o, es, ep, e, d, q⟩ => ⟨o, es, ep, under e (nodictH e d), d, q⟩
  have kin : K.In (hidT s₁.heap H) := fun b o e => under (KX b o e) (by
    rcases cases_H b with z | ⟨u, z⟩
    · exact z
    · obtain ⟨rfl, q⟩ := one b (by rw [z]; exact fun q => nomatch q)
      rw [q] at e
      cases e)
  have lim : (hidT s₁.heap H).NoLimit := by
    obtain ⟨mc, h1, h2⟩ := hlim
    exact ⟨mc, names h1, h2⟩
  have e0 : Env0 P w K mg (hidT s₁.heap H) callerA [] s₁ H := ⟨rfl, ⟨kin, names hns, ⟨mb, names hb, hbb⟩, lim⟩, fun b o e => of_hidT e, Nat.le_of_eq (hidT_size _ _), trivial, fun b hb => absurd (show b ∈ ([] : List Addr) from hb) (by simp), hold, .of_eq hgens⟩
  have want : spW K (lawS n) [.ref a] H (fun v _ => v = .bl true) E0 := by
    refine ⟨ns, H, fun _ => none, .cons (Rp.lst seq (rp_ints ns)) .nil, ⟨fun _ _ z => z, fun _ o z => absurd (show (none : Option XO) = some o from z) (fun q => nomatch q), fun _ o z => absurd (show (none : Option XO) = some o from z) (fun q => nomatch q)⟩, ⟨hl, hbits, rfl⟩, fun F' r m' v H' q ok _ _ => ?_, fun _ _ _ _ _ z _ _ => z.elim⟩
    have q' : r = .d (.bool true) := q
    subst q'
    exact ok.bl
  refine codeAny_mono ((G _ kin (names hns)).run callerA [] s₁ H ⟨[.ref a], []⟩ [.ref a] [.ref a] _ _ hr rfl e0 (hbind s₁ (.ref a)) (.cons rfl .nil) want) fun r s' h => ?_
  match r, h with
  | .error e, ⟨_, _, _, _, _, _, _, _, _, _, _, _, z⟩ => exact z.elim
  | .ok (.ret u), ⟨v, H', os, bare, un, hok', rel, q⟩ =>
    have q' : v = .bl true := q
    subst q'
    obtain rfl : u = Value.bool true := rel
    refine ⟨rfl, OldK.of_keep fun b o e => ?_, os, bare⟩
    rcases cases_H b with z | ⟨u, z⟩
    · exact un.keep b o e z (fun q => absurd (show b ∈ ([] : List Addr) from q) (by simp)) (by simp)
    · obtain ⟨ob, xs, rfl⟩ := locked b u z
      have f1 := (hold b _ z).1
      have f2 := (hok' b _ (un.frzs b ob _ z)).1
      rw [e] at f1
      cases f1
      exact f2
theorem walk_G {l : PySem.W.OpenLaw} {n k : Nat} {q : Program} {loose : List Str} {XP : (Str → Option Value) → Heap → Prop} {YP : World → Heap → Prop} {d : DefRec} {K : Params → PySem.W.Frag} {x : Str}
    (hn : l.most = some n) (hn2 : n ≤ sizeLine) (hdf : d.params.defaults = []) (hr : Room k callerA)
    (hY : ∀ (w : World) (h : Heap), YP w h → (K w.params).In h)
    (G : ∀ (w : World) (mg : Str → Option Value) (fa : Addr) (h : Heap), (K w.params).In h → h.Ns mainGlobals mg → mg d.name = some (.ref fa) →
      ∃ fd : FuncData, (∀ (s : Shared) (u : Value), BindsTo s fd ⟨[u], []⟩ [(x, u)]) ∧
        ∀ base : Heap, (K w.params).In base → base.Ns mainGlobals mg → FnG l.prog w (K w.params) mg base k fa fd [x] (spW (K w.params) (lawS n))) :
    PySem.W.WalkO q loose XP YP l.row.toRowW d [] (fun f vs => PySem.call f vs) := by
  refine Att.attach_callB hn hdf fun w s₀ s₁ mg mb fa o pm cd doc a vs ns Gr Y _ _ _ hmg hobj hints hlen hbits hgens => ?_
  have KX := hY w _ Y
  obtain ⟨fd, hb, hF⟩ := G w mg fa _ KX Gr.T.g hmg
  exact root_G KX Gr.T.g Gr.T.b Gr.T.builtins Gr.T.nolimit hgens hobj hints hlen hn2 hbits hr hF hb
end Z

/-! Z7: repr; classes of one's own: made, fields, methods, properties; calls by keywords. -/
namespace Z
open PySem PySem.Spec L2
set_option linter.all false

/-! ### repr -/
mutual
/-- a bound of the length of a value's text -/
def rz : PyData → Nat
  | .none => 8
  | .bool _ => 8
  | .int _ => 1922
  | .str x => 10 * x.length + 2
  | .list xs => rzAll xs + 3
  | .tuple xs => rzAll xs + 3
  | .dict _ => 2
def rzAll : List PyData → Nat
  | [] => 0
  | x :: xs => rz x + 2 + rzAll xs
end
mutual
/-- every text and number in it can be told -/
def okR : PyData → Bool
  | .none => true
  | .bool _ => true
  | .int i => decide (i.natAbs.log2 < 1920)
  | .str x => x.cps.toList.all fun c => decide (c < 16 ^ 8)
  | .list xs => okRAll xs
  | .tuple xs => okRAll xs
  | .dict _ => false
def okRAll : List PyData → Bool
  | [] => true
  | x :: xs => okR x && okRAll xs
end
mutual
theorem shown_rz : ∀ d : PyData, okR d = true → d.shown.length ≤ rz d
  | .none, _ => by show (4 : Nat) ≤ 8; omega
  | .bool b, _ => by cases b <;> decide
  | .int i, h => by
    have h : i.natAbs.log2 < 1920 := by simpa [okR] using h
    have e := int_text_length_le (k := 1920) (by decide) h
    have e2 : (PyData.shown (.int i)).length = (toString i).length := by
      show (Str.ofString (toString i)).length = _
      rw [ofString_length]
    rw [e2]
    show _ ≤ 1922
    omega
  | .str x, h => by
    have h : ∀ c ∈ x.cps.toList, c < 16 ^ 8 := by simpa only [okR, List.all_eq_true, decide_eq_true_eq] using h
    exact StrLaws.reprText_len x h
  | .list xs, h => by
    have h1 := shownAll_rz xs (by simpa only [okR] using h)
    have h2 := listText_len_le (PyData.shownAll xs)
    have h3 := PyData.shownAll_length xs
    simp only [PyData.shown, rz]
    omega
  | .tuple xs, h => by
    have h1 := shownAll_rz xs (by simpa only [okR] using h)
    have h2 := tupleText_len_le (PyData.shownAll xs)
    have h3 := PyData.shownAll_length xs
    simp only [PyData.shown, rz]
    omega
  | .dict _, h => by simp [okR] at h
theorem shownAll_rz : ∀ xs : List PyData, okRAll xs = true → ((PyData.shownAll xs).map (·.length)).sum + 2 * xs.length ≤ rzAll xs
  | [], _ => by simp only [PyData.shownAll, rzAll, List.map_nil, List.sum_nil, List.length_nil]; omega
  | x :: xs, h => by
    simp only [okRAll, Bool.and_eq_true] at h
    have h1 := shown_rz x h.1
    have h2 := shownAll_rz xs h.2
    simp only [PyData.shownAll, rzAll, List.map_cons, List.sum_cons, List.length_cons]
    omega
end
mutual
theorem okR_showable : ∀ d : PyData, okR d = true → d.showable = true
  | .none, _ => rfl
  | .bool _, _ => rfl
  | .int i, h => by simpa [okR, PyData.showable] using h
  | .str x, _ => rfl
  | .list xs, h => by simpa only [PyData.showable] using okRAll_showable xs (by simpa only [okR] using h)
  | .tuple xs, h => by simpa only [PyData.showable] using okRAll_showable xs (by simpa only [okR] using h)
  | .dict _, h => by simp [okR] at h
theorem okRAll_showable : ∀ xs : List PyData, okRAll xs = true → PyData.showableAll xs = true
  | [], _ => by simp only [PyData.showableAll]
  | x :: xs, h => by
    simp only [okRAll, Bool.and_eq_true] at h
    simp only [PyData.showableAll, Bool.and_eq_true]
    exact ⟨okR_showable x h.1, okRAll_showable xs h.2⟩
end
mutual
theorem okR_hasDict : ∀ d : PyData, okR d = true → d.hasDict = false
  | .none, _ => by simp only [PyData.hasDict]
  | .bool _, _ => by simp only [PyData.hasDict]
  | .int i, h => by simp only [PyData.hasDict]
  | .str x, _ => by simp only [PyData.hasDict]
  | .list xs, h => by simpa only [PyData.hasDict] using okRAll_hasDict xs (by simpa only [okR] using h)
  | .tuple xs, h => by simpa only [PyData.hasDict] using okRAll_hasDict xs (by simpa only [okR] using h)
  | .dict _, h => by simp [okR] at h
theorem okRAll_hasDict : ∀ xs : List PyData, okRAll xs = true → PyData.hasDictAll xs = false
  | [], _ => by simp only [PyData.hasDictAll]
  | x :: xs, h => by
    simp only [okRAll, Bool.and_eq_true] at h
    simp only [PyData.hasDictAll, Bool.or_eq_false_iff]
    exact ⟨okR_hasDict x h.1, okRAll_hasDict xs h.2⟩
end
mutual
theorem okR_nodict : ∀ d : PyData, okR d = true → nodict d = true
  | .none, _ => rfl
  | .bool _, _ => rfl
  | .int i, h => rfl
  | .str x, _ => rfl
  | .list xs, h => by simpa only [nodict] using okRAll_nodict xs (by simpa only [okR] using h)
  | .tuple xs, h => by simpa only [nodict] using okRAll_nodict xs (by simpa only [okR] using h)
  | .dict _, h => by simp [okR] at h
theorem okRAll_nodict : ∀ xs : List PyData, okRAll xs = true → nodictAll xs = true
  | [], _ => rfl
  | x :: xs, h => by
    simp only [okRAll, Bool.and_eq_true] at h
    simp only [nodictAll, Bool.and_eq_true]
    exact ⟨okR_nodict x h.1, okRAll_nodict xs h.2⟩
end
/-- what repr tells -/
structure Shw (d : PyData) : Prop where
  ok : okR d = true
  sz : rz d ≤ sizeLine
  dp : d.depth ≤ 64
theorem Shw.fits {d : PyData} (h : Shw d) : d.shown.length ≤ sizeLine := Nat.le_trans (shown_rz d h.ok) h.sz
section
variable {X : Cz} {k : Nat}
theorem call_repr_D (c : XC X k) : CallR X (.builtin "repr") (fun xs H Q => ∃ v d, xs = [v] ∧ Dp X.K H v d ∧ Shw d ∧ Q (.str d.shown) H) := by
  intro pins s σ H xs us Q I r h
  obtain ⟨v, d, rfl, dp, sh, q⟩ := h
  obtain ⟨rv, e, t⟩ := vals1 r
  have hu : X.A.units + (d.depth + 1) < cLine := by
    have h1 := c.room.un
    have h2 := sh.dp
    omega
  have fits := sh.fits
  obtain ⟨as, rd⟩ := Dp.reads I d v _ dp t
  cases e
  cases dp with
  | non =>
    cases t
    exact PySem.P.repr_of_none ⟨.str _, H, I.tok _, ⟨_, rfl⟩, q⟩
  | bl b =>
    cases t
    exact PySem.P.repr_of_bool ⟨.str _, H, I.tok _, ⟨_, rfl⟩, by cases b <;> exact q⟩
  | int i =>
    obtain ⟨t, rfl⟩ := (show ∃ t, rv = Value.int i t from t)
    have hz : i.natAbs.log2 < 1920 := by simpa [okR] using sh.ok
    exact PySem.P.repr_of_int hz ⟨.str _, H, I.tok _, ⟨_, rfl⟩, q⟩
  | str x =>
    obtain ⟨t, rfl⟩ := (show ∃ t, rv = Value.str x t from t)
    exact PySem.P.repr_of_str ⟨.str _, H, I.tok _, ⟨_, rfl⟩, q⟩ fits
  | lst _ _ =>
    cases t
    exact repr_of_reads' rd (okR_showable _ sh.ok) (PyData.noDict_hsm (okR_hasDict _ sh.ok)) c.guards hu (fun _ _ e => e) (fun h' u tk hk => ⟨.str _, H, I.kept hk, ⟨_, rfl⟩, q⟩) fits
  | tup _ _ =>
    cases t
    exact repr_of_reads' rd (okR_showable _ sh.ok) (PyData.noDict_hsm (okR_hasDict _ sh.ok)) c.guards hu (fun _ _ e => e) (fun h' u tk hk => ⟨.str _, H, I.kept hk, ⟨_, rfl⟩, q⟩) fits
end
section
variable {X : Cz} {k : Nat} {x : Ent} {m : Mem} {K : KE}
theorem repr_D {d : PyData} (hx : Dat m x d) (sh : Shw d) (h : K (.d (.str d.shown)) m) : RCW X (fun xs H Q => ∃ v d, xs = [v] ∧ Dp X.K H v d ∧ Shw d ∧ Q (.str d.shown) H) [x] m K := fun F H vs hm e Q q => by
  obtain ⟨v, rfl, ok⟩ := e.one
  exact ⟨v, d, rfl, hx.dp hm ok (okR_nodict d sh.ok), sh, q _ _ (PostE.here h (Rp.str _) hm)⟩
end

/-! ### tuple * int -/
theorem tuple_mul1 (l : Addr) (items : Array Value) (n : Nat) (dd : Option Addr) (sl : Array (Option Value)) (u : Tok) :
    Meets (Builtin.«tuple.__mul__» ⟨[.ref l, .int 1 u], []⟩) (fun _ R s => s.heap.get? l = some { cls := .type "tuple", dict := dd, data := .seq items n, slots := sl } ∧ R (.ok (.ret (Value.ref l))) s) :=
  .of_wp fun prog w A R s h => by
    obtain ⟨hp, g, d, tk, os⟩ := s
    obtain ⟨hl, h⟩ := h
    have f1 := AutoSeq1.idx_int
    have c0 : (decide ((1 : Int) < -(2 ^ 63)) || decide ((1 : Int) ≥ 2 ^ 63)) = false := by decide
    have c1 : (items.isEmpty || (1 : Int) == 1) = true := by simp
    wp_walk using wpAny_loadPart' hl
    repeat (first
      | (refine wpAny_ite_false (decide_eq_false (by rw [c0]; exact Bool.false_ne_true)) ?_; wp_walk using wpAny_loadPart' hl)
      | (refine wpAny_ite_true (decide_eq_true (by rw [c1])) ?_; wp_walk using wpAny_loadPart' hl))
    exact ⟨_, rfl, h⟩
theorem tuple_mul0 (l : Addr) (items : Array Value) (n : Nat) (dd : Option Addr) (sl : Array (Option Value)) (u : Tok) (hne : items.isEmpty = false) :
    Meets (Builtin.«tuple.__mul__» ⟨[.ref l, .int 0 u], []⟩) (fun _ R s => s.heap.get? l = some { cls := .type "tuple", dict := dd, data := .seq items n, slots := sl } ∧
      R (.ok (.ret (Value.ref s.heap.objs.size))) { s with heap := s.heap.push { cls := Value.type "tuple", data := Data.seq #[] }, toks := s.toks }) :=
  .of_wp fun prog w A R s h => by
    obtain ⟨hp, g, d, tk, os⟩ := s
    obtain ⟨hl, h⟩ := h
    have f1 := AutoSeq1.idx_int
    have c0 : (decide ((0 : Int) < -(2 ^ 63)) || decide ((0 : Int) ≥ 2 ^ 63)) = false := by decide
    have c1 : (items.isEmpty || (0 : Int) == 1) = false := by simp [hne]
    have c2 : (decide ((0 : Int) ≤ 0) || items.isEmpty) = true := by simp
    wp_walk using wpAny_loadPart' hl
    repeat (first
      | (refine wpAny_ite_false (decide_eq_false (by rw [c0]; exact Bool.false_ne_true)) ?_; wp_walk using wpAny_loadPart' hl)
      | (refine wpAny_ite_false (decide_eq_false (by rw [c1]; exact Bool.false_ne_true)) ?_; wp_walk using wpAny_loadPart' hl)
      | (refine wpAny_ite_true (decide_eq_true (by rw [c2])) ?_; wp_walk using wpAny_loadPart' hl))
    exact ⟨_, rfl, h⟩
def rRepZ (K : PySem.W.Frag) : R2 := fun x y H Q => ∃ (l : Addr) (k : Nat) (xs : List V), x = .ref l ∧ y = .int k ∧ SqT K H l xs ∧ xs ≠ [] ∧ k ≤ 1000 ∧ xs.length ≤ 1000 ∧
  ((k = 1 ∧ Q x H) ∨ (k ≠ 1 ∧ ∀ p, H p = none → Q (.ref p) (upd H p (.tup (List.replicate k xs).flatten))))
section
variable {X : Cz} {x y : Ent} {m : Mem} {K : KE}
theorem op_repZ : OpR X (binaryOp .Mult) (rRepZ X.K) := by
  intro pins s σ H x y v u Q I rx ry h
  obtain ⟨l, k, xs, rfl, rfl, hT, hne, h2, hz, q⟩ := h
  by_cases h2k : 2 ≤ k
  · refine op_repT pins s σ H _ _ v u Q I rx ry ⟨l, k, xs, rfl, rfl, hT, hne, by omega, by omega, hz, ?_⟩
    rcases q with ⟨e, _⟩ | ⟨_, q⟩
    · omega
    · exact q
  cases rx
  obtain ⟨t, rfl⟩ := ry
  obtain ⟨its, r, ⟨⟨cls, dd, data, sl⟩, ho, hc, n, hd⟩, hs⟩ := I.tuple hT
  simp only at hc hd
  subst hc hd
  have hle : its.length = xs.length := r.length.symm
  have hi : its.toArray.isEmpty = false := by
    cases its with
    | nil => exact absurd (List.eq_nil_of_length_eq_zero hle.symm) hne
    | cons a b => rfl
  by_cases h1 : k = 1
  · subst h1
    rcases q with ⟨_, q⟩ | ⟨e, _⟩
    · refine wpAny_binaryOp_repeat_ref (T := "tuple") (U := "int") (by decide) ⟨_, ho, rfl⟩ (fun s' => typeIs_int s' 1 t) noFill_tuple_mul F.fills_int_mul F.slot_int_rmul repeat_tuple F.slot_int_index.lookup
        (call_meets F.slot_int_rmul (typeIs_int s 1 t) F.entry_int_rmul (F.args_int_rmul_2 _ _) (int_rmul_tuple 1 t l its.toArray n dd sl)
          ⟨ho, rfl, ⟨_, ho, rfl⟩, call_meets F.slot_tuple_mul ⟨_, ho, rfl⟩ F.entry_tuple_mul (F.args_tuple_mul_2 _ _) (tuple_mul1 l its.toArray n dd sl t) ⟨ho, ?_⟩⟩)
      exact ⟨.ref l, H, I, rfl, q⟩
    · exact absurd rfl e
  · have h0 : k = 0 := by omega
    subst h0
    rcases q with ⟨e, _⟩ | ⟨_, q⟩
    · cases e
    · refine wpAny_binaryOp_repeat_ref (T := "tuple") (U := "int") (by decide) ⟨_, ho, rfl⟩ (fun s' => typeIs_int s' 0 t) noFill_tuple_mul F.fills_int_mul F.slot_int_rmul repeat_tuple F.slot_int_index.lookup
        (call_meets F.slot_int_rmul (typeIs_int s 0 t) F.entry_int_rmul (F.args_int_rmul_2 _ _) (int_rmul_tuple 0 t l its.toArray n dd sl)
          ⟨ho, rfl, ⟨_, ho, rfl⟩, call_meets F.slot_tuple_mul ⟨_, ho, rfl⟩ F.entry_tuple_mul (F.args_tuple_mul_2 _ _) (tuple_mul0 l its.toArray n dd sl t hi) ⟨ho, ?_⟩⟩)
      refine ⟨.ref s.heap.objs.size, _, I.laid (t' := s.toks) (o := .tup []) (fun b ob q => Heap.get?_push_of_some _ q) (Nat.le_refl _) ?_, rfl, q _ (I.hok.fresh (Nat.le_refl _))⟩
      exact ⟨Nat.zero_le _, [], .nil, PyProof.Rows.IsTup.new _ _⟩
theorem rpAll_flat {K : PySem.W.Frag} {F : Hp} {xs : List V} {ds : List PyData} (h : RpAll K F xs ds) : ∀ k : Nat, RpAll K F (List.replicate k xs).flatten (List.replicate k ds).flatten
  | 0 => .nil
  | k + 1 => by
    rw [List.replicate_succ, List.replicate_succ, List.flatten_cons, List.flatten_cons]
    exact RpAll.append h (rpAll_flat h k)
theorem mul_T {ds : List PyData} {k : Nat} (hne : ds ≠ []) (hk : k ≤ 1000) (hz : ds.length ≤ 1000) (h : K (.d (.tuple (List.replicate k ds).flatten)) m) : R2W X (rRepZ X.K) (.d (.tuple ds)) (.d (.int k)) m K := fun F H v u hm ok ok2 Q q => by
  obtain ⟨a, xs, rfl, s, r⟩ := dat_sqT hm ok
  obtain rfl := EntOk.int ok2
  have hl := RpAll.length r
  refine ⟨a, k, xs, rfl, rfl, s, fun e => hne (by rw [e] at hl; exact List.eq_nil_of_length_eq_zero hl.symm), hk, by omega, ?_⟩
  by_cases h1 : k = 1
  · subst h1
    refine .inl ⟨rfl, q _ _ (PostE.here (by simpa using h) ok hm)⟩
  · exact .inr ⟨h1, fun p hp => q _ _ (post_T hm hp (rpAll_flat r k) h)⟩
end

/-! ### keywords -/
theorem pr_app {α β : Type} {R : α → β → Prop} : ∀ {l l' : List α} {k k' : List β}, Paired R l k → Paired R l' k' → Paired R (l ++ l') (k ++ k')
  | _, _, _, _, .nil, h => h
  | _, _, _, _, .cons r t, h => .cons r (pr_app t h)
def wpK (X : Cz) (kws : List Keyword) : TA := fun σ H Q => ∀ pos pins s, Inv X pins σ H s → wpAny (model X.prog X.w) X.A (evalAll ((backToKw pos (keywordEach kws X.env)).map (·.2))) (AP X pins σ Q) X.xe s
def WK (X : Cz) (kws : List Keyword) (n : Nm) (m : Mem) (K : List Ent → Mem → Prop) : Prop := ∀ F σ H, MOk X.K F m H → HS X F σ H n m → wpK X kws σ H (PostA X F m H K)
section
variable {X : Cz} {a : Expr} {kws : List Keyword} {σ : St} {H : Hp} {n : Nm} {m : Mem} {nm : Option Str} {kpos : Pos}
theorem pk_wp : PK X kws (wpK X kws) := ⟨fun pos pins s _ _ _ I h => h pos pins s I⟩
theorem wpK.of {t : TA} {Q} (h : PK X kws t) (q : t σ H Q) : wpK X kws σ H Q := fun pos pins s I => h.run pos pins s σ H Q I q
theorem wpK.mono {Q Q'} (h : wpK X kws σ H Q) (k : ∀ v H', Q v H' → Q' v H') : wpK X kws σ H Q' := fun pos pins s I => thn (h pos pins s I) fun _ _ ⟨v, H', I', r, q⟩ => ⟨v, H', I', r, k v H' q⟩
theorem WK.go {F : Hp} {K : List Ent → Mem → Prop} (h : WK X kws n m K) (hm : MOk X.K F m H) (hs : HS X F σ H n m) {Q : List V → Hp → Prop}
    (k : ∀ F1 vs H1 rs m1, K rs m1 → Ents X.K F1 vs rs → MOk X.K F1 m1 H1 → Step F m H F1 m1 H1 → HS X F1 σ H1 n m1 → Q vs H1) : wpK X kws σ H Q :=
  (h F σ H hm hs).mono fun v H1 ⟨F1, r, m1, k1, ok, hm1, st⟩ => k F1 v H1 r m1 k1 ok hm1 st (hs.go st)
theorem wk_nil {K : List Ent → Mem → Prop} (k : K [] m) : WK X [] n m K := fun F σ H hm hs => wpK.of pk_nil ⟨F, [], m, k, .nil, hm, .refl⟩
theorem wk_cons {K : List Ent → Mem → Prop} (h : WE X a n m fun x m1 => WK X kws n m1 fun xs m2 => K (x :: xs) m2) : WK X (⟨nm, a, kpos⟩ :: kws) n m K := fun F σ H hm hs =>
  wpK.of (pk_cons pe_wp pk_wp) (h.go hm hs fun F1 v H1 x m1 h1 ok1 hm1 st1 hs1 => h1.go hm1 hs1 fun F2 vs H2 xs m2 h2 ok2 hm2 st2 hs2 =>
    ⟨F2, x :: xs, m2, h2, .cons (ok1.inc st2.fr) ok2, hm2, st1.trans st2⟩)
end
/-- how positional values and keywords become the arguments, as values of the calculus -/
def KbE (K : PySem.W.Frag) (fd : FuncData) (ps : List Str) (n : Nat) (ks : List Str) (gE : List Ent → List Ent → List Ent) : Prop :=
  ∃ g gV, KBn K fd ps n ks g gV ∧ ∀ F vs zs rs ts, Ents K F vs rs → Ents K F zs ts → vs.length = n → Ents K F (gV vs zs) (gE rs ts)
theorem KbE.plain {K : PySem.W.Frag} {fd : FuncData} {ps : List Str} {n : Nat} (hb : Binds K fd ps []) (hn : ps.length = n) : KbE K fd ps n [] fun rs _ => rs := by
  refine ⟨fun us _ => us, fun vs _ => vs, ⟨fun s us ws hk h1 h2 => ?_, fun r1 _ => r1⟩, fun _ _ _ _ _ r1 _ _ => r1⟩
  have hw : ws = [] := List.eq_nil_of_length_eq_zero h2
  subst hw
  have := hb s us hk (by rw [List.append_nil]; omega)
  rw [List.append_nil] at this
  exact this
theorem KbE.dfl {K : PySem.W.Frag} {fd : FuncData} {ps : List Str} {n : Nat} {dvs : List V} {ds : List Value} {es : List Ent} (hb : Binds K fd ps ds) (hd : Vals dvs ds) (he : ∀ F, Ents K F dvs es) (hn : ps.length = n + ds.length) : KbE K fd ps n [] fun rs _ => rs ++ es := by
  refine ⟨fun us _ => us ++ ds, fun vs _ => vs ++ dvs, ⟨fun s us ws hk h1 h2 => ?_, fun r1 _ => r1.append hd⟩, fun F vs _ rs _ r1 _ _ => ?_⟩
  · have hw : ws = [] := List.eq_nil_of_length_eq_zero h2
    subst hw
    exact hb s us hk (by rw [List.length_append]; omega)
  · exact pr_app r1 (he F)

theorem _root_.L2.FunD.fun0 {K : PySem.W.Frag} {x qual : Str} {st : Stmt} {kws : List (Str × V)} {f : Addr} {fd : FuncData} (F : FunD K x qual (defArgs st) (defBody st) (defScope st) [] kws f fd) : Fun K x qual st f fd := by
  obtain ⟨oc, od, dV, kV, doc, pm, an, cdv, ct, osl, rfl, lk, hcd, hD, hK⟩ := F.ex
  rcases hD with ⟨_, rfl⟩ | ⟨e, _⟩
  · exact ⟨⟨oc, od, kV, doc, pm, an, cdv, ct, osl, rfl, lk, hcd⟩, F.kp⟩
  · exact absurd rfl e
/-! ### a class is made -/
theorem MOk.newN {K : PySem.W.Frag} {F : Hp} {m : Mem} {H : Hp} {p : Addr} {o : HO} (h : MOk K F m H) (hp : H p = none) : MOk K F m (upd H p o) :=
  ⟨fun a z e => by rw [upd_ne (ne_of_none (h.sub a z e) hp)]; exact h.sub a z e, h.out, fun a z e => XOk.inc (fun _ _ z => z) (fun w hw => by rw [upd_ne (ne_of_none hw hp)]; exact hw) (h.obj a z e)⟩
theorem Step.newN {F : Hp} {m : Mem} {H : Hp} {p : Addr} {o : HO} (hp : H p = none) : Step F m H F m (upd H p o) :=
  ⟨fun _ _ h => h, fun a z e _ => by rw [upd_ne (ne_of_none e hp)]; exact e, fun a e k => absurd e k, fun a e k => absurd e k⟩
/-- the class at C by its name, its __init__ keeps the promise S; n positional values and the keywords ks are written -/
def AvC (P : Program) (w : World) (K : PySem.W.Frag) (mg : Str → Option Value) (base : Heap) (k : Nat) (x : Str) (C : Addr) (S : Prm) (n : Nat) (ks : List Str) (gE : List Ent → List Ent → List Ent) : Prop :=
  ∃ f fd ps, Mk K C f ∧ FnG P w K mg base k f fd ps (spW K S) ∧ mg x = some (.ref C) ∧ KbE K fd ps (n + 1) ks gE
/-- the method of the class at C -/
def AvM (P : Program) (w : World) (K : PySem.W.Frag) (mg : Str → Option Value) (base : Heap) (k : Nat) (C : Addr) (x : Str) (S : Prm) (n : Nat) (gE : List Ent → List Ent → List Ent) : Prop :=
  ∃ f fd ps, Cls K C ∧ Meth K C x f ∧ FnG P w K mg base k f fd ps (spW K S) ∧ KbE K fd ps (n + 1) [] gE
section
variable {X : Cz} {k k' nn : Nat} {x mn f : Str} {p pos apos : Pos} {o e : Expr} {es : List Expr} {kws : List Keyword} {n : Nm} {m : Mem} {K : KE} {S : Prm} {ps ks : List Str} {C : Addr} {gE : List Ent → List Ent → List Ent}
theorem ents_length {K : PySem.W.Frag} {F : Hp} {vs : List V} {rs : List Ent} (h : Ents K F vs rs) : vs.length = rs.length := Paired.length h
theorem guards_make {A : Around} {C : Addr} {us : List Value} {kw : List (Str × Value)} (h : A.guards = some []) : (A.under (.builtin "type.__call__" ⟨.ref C :: us, kw⟩)).guards = some [] := by
  simp [Around.under, pushGuards, Code.guards, Code.isGuard, guardIds, h]
theorem run_mk {fa : Addr} {fd : FuncData} {pins : List (Addr × Obj)} {σ : St} {F H : Hp} {s : Shared} {us ws : List Value} {vs zs : List V} {rs ts : List Ent} (M : Mk X.K C fa) (G : FnG X.prog X.w X.K X.mg X.base k' fa fd ps (spW X.K S)) (c : XC X k) (hk : k' + 1 ≤ k)
    (kb : KbE X.K fd ps (nn + 1) ks gE) (I : Inv X pins σ H s) (r : Vals vs us) (rz : Vals zs ws) (hm : MOk X.K F m H) (hr : Ents X.K F vs rs) (hz : Ents X.K F zs ts)
    (h : rs.length = nn ∧ ts.length = ks.length ∧ ∀ p, m p = none → ∃ i, gE (.x p :: rs) ts = S.args i ∧ S.pre i (m.put p (.ins C [])) ∧ ∀ r m', S.post i (m.put p (.ins C [])) r m' → r = .d .none ∧ K (.x p) m') (hS : S.Calm) :
    wpAny (model X.prog X.w) X.A (call (.ref C) us (ks.zip ws)) (EP X pins σ (PostE X F m H K)) X.xe s := by
  obtain ⟨g, gV, hb, hE⟩ := kb
  obtain ⟨l1, l2, hq⟩ := h
  have I2 := Inv.made (C := C) I
  have f1 : H s.heap.objs.size = none := I.hok.fresh (Nat.le_refl _)
  have f2 : H (s.heap.objs.size + 1) = none := I.hok.fresh (Nat.le_succ _)
  have ne : s.heap.objs.size + 1 ≠ s.heap.objs.size := Nat.succ_ne_self _
  have f3 : (upd H s.heap.objs.size (.own (s.heap.objs.size + 1))) (s.heap.objs.size + 1) = none := by rw [upd_ne ne]; exact f2
  have hm1 : MOk X.K F m (upd H s.heap.objs.size (.own (s.heap.objs.size + 1))) := hm.newN f1
  have hm2 : MOk X.K F (m.put (s.heap.objs.size + 1) (.ins C [])) (upd (upd H s.heap.objs.size (.own (s.heap.objs.size + 1))) (s.heap.objs.size + 1) (.ins C s.heap.objs.size [])) :=
    hm1.newX f3 ⟨s.heap.objs.size, [], upd_same, .nil⟩
  have st2 : Step F m H F (m.put (s.heap.objs.size + 1) (.ins C [])) (upd (upd H s.heap.objs.size (.own (s.heap.objs.size + 1))) (s.heap.objs.size + 1) (.ins C s.heap.objs.size [])) :=
    (Step.newN f1).trans (Step.newX f3)
  obtain ⟨i, ea, pre, post⟩ := hq (s.heap.objs.size + 1) (hm.fresh f2)
  have r1 : Vals (V.ref (s.heap.objs.size + 1) :: vs) (Value.ref (s.heap.objs.size + 1) :: us) := .cons rfl r
  have n0 : (V.ref (s.heap.objs.size + 1) :: vs).length = nn + 1 := by rw [List.length_cons, ents_length hr, l1]
  have n1 : (Value.ref (s.heap.objs.size + 1) :: us).length = nn + 1 := by rw [← n0, List.length_cons, List.length_cons, r.length]
  have lz : ws.length = ks.length := by rw [← rz.length, ents_length hz, l2]
  have eA := hE F _ zs (.x (s.heap.objs.size + 1) :: rs) ts (.cons rfl hr) hz n0
  rw [ea] at eA
  have sp : spW X.K S (gV (V.ref (s.heap.objs.size + 1) :: vs) zs) _ (fun v H2 => v = .non ∧ PostE X F m H K (.ref (s.heap.objs.size + 1)) H2) E0 :=
    ⟨i, F, _, eA, hm2, pre, fun F' r m' v H' q ok hm' st => by
      obtain ⟨rfl, kq⟩ := post r m' q
      exact ⟨EntOk.non ok, F', .x _, m', kq, rfl, hm', st2.trans st⟩, fun F' c d m' H' z _ _ => absurd z (hS _ _ c d m')⟩
  refine wpAny_call (make_map (f := fa) I.kIn M.makes M.init (beq_iff_eq.mp M.fn) (codeAny_mono (G.run _ X.stack _ _ ⟨Value.ref (s.heap.objs.size + 1) :: us, ks.zip ws⟩ (g (Value.ref (s.heap.objs.size + 1) :: us) ws) _ _ E0 ((c.room.mono hk).make C us (ks.zip ws))
    (guards_make c.guards) (I2.env0.make C us (ks.zip ws)) (hb.to _ (Value.ref (s.heap.objs.size + 1) :: us) ws I2.kIn n1 lz) (hb.rel r1 rz) sp) fun r s' hq' => ?_))
  match r, hq' with
  | .error e, hq' => exact passL pins σ _ _ e s' I2 hq'
  | .ok (.ret u), hq' =>
    obtain ⟨v, H', I3, rv, ev, q3⟩ := I2.after hq'
    subst ev
    exact ⟨rv, ⟨V.ref (s.heap.objs.size + 1), H', I3, rfl, q3⟩⟩
theorem we_make (c : XC X k) (av : AvC X.prog X.w X.K X.mg X.base k' x C S nn ks gE) (hk : k' + 1 ≤ k) (hg : Gl X x)
    (h : WA X (e :: es) n m fun rs m1 => WK X kws n m1 fun ts m2 => rs.length = nn ∧ ts.length = ks.length ∧ ∀ p, m2 p = none → ∃ i, gE (.x p :: rs) ts = S.args i ∧ S.pre i (m2.put p (.ins C [])) ∧ ∀ r m', S.post i (m2.put p (.ins C [])) r m' → r = .d .none ∧ K (.x p) m')
    (hall : (backToKw pos (keywordEach kws X.env)).all (·.1.isSome) = true := by rfl) (hS : S.Calm := by exact fun _ _ _ _ _ z => z) (hks : (backToKw pos (keywordEach kws X.env)).filterMap (·.1) = ks := by rfl) (hdb : (x == ("__debug__" : Str)) = false := by decide)
    (he : starEach (e :: es) X.env = (false, eval e X.env) :: starEach es X.env := by rfl) (hpl : ((backTo pos (starEach (e :: es) X.env)).any (·.1) || (backToKw pos (keywordEach kws X.env)).any (·.1.isNone)) = false := by rfl) :
    WE X (.Call (.Name x p) (e :: es) kws pos) n m K := fun F σ H hm hs pins s I => by
  obtain ⟨f, fd, ps, M, G, hmg, kb⟩ := av
  refine wpAny_Call_Name_kw (ld_glob I hg hmg ?_ hdb)
  refine PySem.W.callWith_KW (h₀ := X.base) I.ok.mod.kin M.kp hall (thn (h F σ H hm hs pos pins s I) fun us s1 ⟨vs, H1, I1, r, F1, rs, m1, k1, ok1, hm1, st1⟩ => ?_) hpl he
  refine thn (k1 F1 σ H1 hm1 (hs.go st1) pos pins s1 I1) fun ws s2 ⟨zs, H2, I2, rz, F2, ts, m2, k2, ok2, hm2, st2⟩ => ⟨I2.kIn, ?_⟩
  rw [hks]
  exact thn (run_mk (K := K) M G c hk kb I2 r rz hm2 (Ents.inc st2.fr ok1) ok2 k2 hS) fun u s3 ⟨v, H3, I3, r3, q⟩ => ⟨v, H3, I3, r3, PostE.after (st1.trans st2) q⟩
theorem we_make0 (c : XC X k) (av : AvC X.prog X.w X.K X.mg X.base k' x C S 0 [] gE) (hk : k' + 1 ≤ k) (hg : Gl X x)
    (h : ∀ p, m p = none → ∃ i, gE [.x p] [] = S.args i ∧ S.pre i (m.put p (.ins C [])) ∧ ∀ r m', S.post i (m.put p (.ins C [])) r m' → r = .d .none ∧ K (.x p) m') (hS : S.Calm := by exact fun _ _ _ _ _ z => z)
    (hdb : (x == ("__debug__" : Str)) = false := by decide) :
    WE X (.Call (.Name x p) [] [] pos) n m K := fun F σ H hm hs pins s I => by
  obtain ⟨f, fd, ps, M, G, hmg, kb⟩ := av
  refine wpAny_Call_Name_kw (ld_glob I hg hmg ?_ hdb)
  exact PySem.W.callWith_K0 I.kIn M.kp (run_mk (us := []) (ws := []) (vs := []) (zs := []) (rs := []) (ts := []) (K := K) M G c hk kb I .nil .nil hm .nil .nil ⟨rfl, rfl, h⟩ hS)

/-! ### fields -/
theorem pr_lookup {K : PySem.W.Frag} {F : Hp} {f : Str} : ∀ {ys : List (Str × V)} {fs : List (Str × Ent)} {e : Ent}, Paired (fun (p : Str × V) (q : Str × Ent) => p.1 = q.1 ∧ EntOk K F p.2 q.2) ys fs → fs.lookup f = some e → ∃ v, ys.lookup f = some v ∧ EntOk K F v e
  | _, _, _, .nil, h => by simp at h
  | (y, v) :: ys, (g, u) :: fs, e, .cons ⟨q1, q2⟩ t, h => by
    have q1 : y = g := q1
    subst q1
    rw [List.lookup_cons] at h ⊢
    cases hb : f == y with
    | true =>
      simp only [hb] at h ⊢
      cases h
      exact ⟨_, rfl, q2⟩
    | false =>
      simp only [hb] at h ⊢
      exact pr_lookup t h
theorem pr_lookup_no {K : PySem.W.Frag} {F : Hp} {f : Str} : ∀ {ys : List (Str × V)} {fs : List (Str × Ent)}, Paired (fun (p : Str × V) (q : Str × Ent) => p.1 = q.1 ∧ EntOk K F p.2 q.2) ys fs → fs.lookup f = none → ys.lookup f = none
  | _, _, .nil, h => rfl
  | (y, v) :: ys, (g, u) :: fs, .cons ⟨q1, q2⟩ t, h => by
    have q1 : y = g := q1
    subst q1
    rw [List.lookup_cons] at h ⊢
    cases hb : f == y with
    | true =>
      simp only [hb] at h
      cases h
    | false =>
      simp only [hb] at h ⊢
      exact pr_lookup_no t h
def putE (f : Str) (e : Ent) : List (Str × Ent) → List (Str × Ent)
  | [] => [(f, e)]
  | (g, x) :: r => if g = f then (g, e) :: r else (g, x) :: putE f e r
theorem pr_put {K : PySem.W.Frag} {F : Hp} {f : Str} {v : V} {e : Ent} (h : EntOk K F v e) : ∀ {ys : List (Str × V)} {fs : List (Str × Ent)}, Paired (fun (p : Str × V) (q : Str × Ent) => p.1 = q.1 ∧ EntOk K F p.2 q.2) ys fs → Paired (fun (p : Str × V) (q : Str × Ent) => p.1 = q.1 ∧ EntOk K F p.2 q.2) (putF f v ys) (putE f e fs)
  | _, _, .nil => .cons ⟨rfl, h⟩ .nil
  | (y, v) :: ys, (g, u) :: fs, .cons ⟨q1, q2⟩ t => by
    have q1 : y = g := q1
    subst q1
    show Paired _ (if y = f then _ else _) (if y = f then _ else _)
    by_cases hb : y = f
    · rw [if_pos hb, if_pos hb]
      exact .cons ⟨rfl, h⟩ t
    · rw [if_neg hb, if_neg hb]
      exact .cons ⟨rfl, q2⟩ (pr_put h t)
/-- a field is read -/
def FldW (K : PySem.W.Frag) (f : Str) (x : Ent) (m : Mem) (k : KE) : Prop := ∃ a C fs e, x = .x a ∧ m a = some (.ins C fs) ∧ Cls K C ∧ NoAttr K C f ∧ fs.lookup f = some e ∧ k e m
theorem we_fld (h : WE X o n m fun x m1 => FldW X.K f x m1 K) (hb : attributeBase o f X.env (eval o X.env) = eval o X.env := by rfl) : WE X (.Attribute o f pos) n m K := fun F σ H hm hs =>
  wpE.of (pe_fld pe_wp hb) (h.go hm hs fun F1 v H1 x m1 ⟨a, C, fs, e, ex, ha, cl, na, lk, hk⟩ ok1 hm1 st1 hs1 => by
    subst ex
    obtain ⟨dx, ys, hy, pr⟩ := hm1.obj a _ ha
    obtain ⟨v', lv, okv⟩ := pr_lookup pr lk
    have ev : v = .ref a := ok1
    exact ⟨a, C, dx, ys, v', ev, hy, cl, na, lv, PostE.after st1 (PostE.here hk okv hm1)⟩)
/-- a field is written -/
def FldP (K : PySem.W.Frag) (f : Str) (y x : Ent) (m : Mem) (k : Mem → Prop) : Prop := ∃ a C fs, x = .x a ∧ m a = some (.ins C fs) ∧ Cls K C ∧ NoAttr K C f ∧ fs.length < 1000 ∧ k (m.put a (.ins C (putE f y fs)))
theorem ws_fld {value : Expr} {tpos spos : Pos} {P : KS} (h : WE X value n m fun y m1 => WE X o n m1 fun x m2 => FldP X.K f y x m2 fun m3 => P (.nx n m3)) (hsw : swapsWith value (some (.Attribute o f tpos)) spos.line X.env = pure false := by rfl) :
    WS X (.Assign [.Attribute o f tpos] value spos) n m P := fun F σ H hm hs =>
  wpS.of (ps_fld pe_wp pe_wp hsw) (h.go hm hs fun F1 u H1 y m1 h1 ok1 hm1 st1 hs1 => h1.go hm1 hs1 fun F2 v H2 x m2 ⟨a, C, fs, ex, ha, cl, na, ln, hk⟩ ok2 hm2 st2 hs2 => by
    subst ex
    obtain ⟨dx, ys, hy, pr⟩ := hm2.obj a _ ha
    have ev : v = .ref a := ok2
    have hl := Paired.length pr
    refine ⟨a, C, dx, ys, ev, hy, cl, na, by omega, ?_⟩
    have o1 : EntOk X.K F2 u y := ok1.inc st2.fr
    exact (show PostN X F m H _ σ _ from ⟨F2, n, _, hk, hs2.sl, hm2.mut ha ⟨dx, _, upd_same, pr_put o1 pr⟩, (st1.trans st2).trans (Step.mut ha)⟩))

/-! ### methods -/
theorem run_av {fa : Addr} {fd : FuncData} {pins : List (Addr × Obj)} {σ : St} {F H : Hp} {s : Shared} {us : List Value} {vs : List V} {rs : List Ent} (G : FnG X.prog X.w X.K X.mg X.base k' fa fd ps (spW X.K S)) (c : XC X k) (hk : k' ≤ k) (kb : KbE X.K fd ps nn [] gE) (I : Inv X pins σ H s) (r : Vals vs us)
    (hm : MOk X.K F m H) (hs : HS X F σ H n m) (hr : Ents X.K F vs rs) (h : rs.length = nn ∧ Use S (gE rs []) m K fun cls d m' => X.Z cls d n m') : wpAny (model X.prog X.w) X.A (call (.ref fa) us) (EP X pins σ (PostE X F m H K)) X.xe s := by
  obtain ⟨g, gV, hb, hE⟩ := kb
  obtain ⟨l1, i, ea, pre, post, exc⟩ := h
  have lv : vs.length = nn := by rw [ents_length hr, l1]
  have eA := hE F vs [] rs [] hr .nil lv
  rw [ea] at eA
  have sp : spW X.K S (gV vs []) H (PostE X F m H K) (fun cls d H' => PostX X F m H cls d σ H') := ⟨i, F, m, eA, hm, pre, fun F' r m' v H' q ok hm' st => ⟨F', r, m', post r m' q, ok, hm', st⟩, fun F' cls d m' H' q hm' st => ⟨F', n, m', exc cls d m' q, hs.sl.inc st.fr, hm', st⟩⟩
  refine wpAny_call (codeAny_mono (G.run X.A X.stack s H ⟨us, []⟩ (g us []) _ _ _ (c.room.mono hk) c.guards I.env0 (hb.to s us [] I.kIn (by rw [← r.length]; exact lv) rfl) (hb.rel r .nil) sp) fun r s' hq => ?_)
  match r, hq with
  | .error e, hq => exact hs.tk e s' (XE.of_call I (fun _ _ _ z => z) hq)
  | .ok (.ret u), hq => exact I.after hq
theorem we_methX {pl : Sem Bool} (c : XC X k) (av : AvM X.prog X.w X.K X.mg X.base k' C mn S nn gE) (hk : k' ≤ k)
    (h : WE X o n m fun r m1 => ∃ a fs, r = .x a ∧ m1 a = some (.ins C fs) ∧ fs.lookup mn = none ∧ WA X (e :: es) n m1 fun rs m2 => rs.length = nn ∧ Use S (gE (.x a :: rs) []) m2 K fun cls d m' => X.Z cls d n m')
    (hst : starEach (e :: es) X.env = (false, eval e X.env) :: starEach es X.env := by rfl) (hpl : (backTo pos (starEach es X.env)).any (·.1) = false := by rfl)
    (ht : eval (.Call (.Attribute o mn apos) (e :: es) [] pos) X.env = (do
      let ov ← eval o X.env
      standAt apos.atName
      let (f, first) ← holding [ov] (getMethod ov mn pl)
      callWith pos f first (backTo pos (starEach (e :: es) X.env)) (backToKw pos (keywordEach [] X.env))) := by rfl) :
    WE X (.Call (.Attribute o mn apos) (e :: es) [] pos) n m K := fun F σ H hm hs pins s I => by
  obtain ⟨f, fd, ps, cl, me, G, kb⟩ := av
  refine PySem.W.methodCall_KW (pl := pl) (thn (h F σ H hm hs pins s I) fun u s1 ⟨x, H1, I1, rx, F1, r, m1, ⟨a, fs, ex, ha, lk, h1⟩, ok1, hm1, st1⟩ => ?_) ht
  subst ex
  have ev : x = .ref a := ok1
  subst ev
  obtain rfl : u = Value.ref a := rx
  obtain ⟨dx, ys, hy, pr⟩ := hm1.obj a _ ha
  refine getmeth_ok I1 hy cl me (pr_lookup_no pr lk) ?_
  refine PySem.W.callWith_K (first := [.ref a]) (h₀ := X.base) I.ok.mod.kin me.kp (thn (h1 F1 σ H1 hm1 (hs.go st1) pos pins s1 I1) fun us s2 ⟨vs, H2, I2, r, F2, rs, m2, ⟨hl, k2⟩, ok2, hm2, st2⟩ => ⟨I2.kIn, ?_⟩) hst hpl
  have rr : Vals (V.ref a :: vs) (Value.ref a :: us) := .cons rfl r
  have ee : Ents X.K F2 (V.ref a :: vs) (.x a :: rs) := .cons rfl ok2
  exact thn (run_av (K := K) (n := n) G c hk kb I2 rr hm2 ((hs.go st1).go st2) ee ⟨by rw [List.length_cons, hl], k2⟩) fun u s3 ⟨v, H3, I3, r3, q⟩ => ⟨v, H3, I3, r3, PostE.after (st1.trans st2) q⟩
theorem we_methX0 {pl : Sem Bool} (c : XC X k) (av : AvM X.prog X.w X.K X.mg X.base k' C mn S 0 gE) (hk : k' ≤ k)
    (h : WE X o n m fun r m1 => ∃ a fs, r = .x a ∧ m1 a = some (.ins C fs) ∧ fs.lookup mn = none ∧ Use S (gE [.x a] []) m1 K fun cls d m' => X.Z cls d n m')
    (ht : eval (.Call (.Attribute o mn apos) [] [] pos) X.env = (do
      let ov ← eval o X.env
      standAt apos.atName
      let (f, first) ← holding [ov] (getMethod ov mn pl)
      callWith pos f first (backTo pos (starEach [] X.env)) (backToKw pos (keywordEach [] X.env))) := by rfl) :
    WE X (.Call (.Attribute o mn apos) [] [] pos) n m K := fun F σ H hm hs pins s I => by
  obtain ⟨f, fd, ps, cl, me, G, kb⟩ := av
  refine PySem.W.methodCall_KW (pl := pl) (thn (h F σ H hm hs pins s I) fun u s1 ⟨x, H1, I1, rx, F1, r, m1, ⟨a, fs, ex, ha, lk, h1⟩, ok1, hm1, st1⟩ => ?_) ht
  subst ex
  have ev : x = .ref a := ok1
  subst ev
  obtain rfl : u = Value.ref a := rx
  obtain ⟨dx, ys, hy, pr⟩ := hm1.obj a _ ha
  refine getmeth_ok I1 hy cl me (pr_lookup_no pr lk) ?_
  have rr : Vals [V.ref a] [Value.ref a] := .cons rfl .nil
  have ee : Ents X.K F1 [V.ref a] [.x a] := .cons rfl .nil
  exact PySem.W.callWith_K0 (first := [.ref a]) I1.kIn me.kp (thn (run_av (K := K) (n := n) G c hk kb I1 rr hm1 (hs.go st1) ee ⟨rfl, h1⟩) fun u s3 ⟨v, H3, I3, r3, q⟩ => ⟨v, H3, I3, r3, PostE.after st1 q⟩)
theorem we_meth {pl : Sem Bool} (c : XC X k) (av : AvM X.prog X.w X.K X.mg X.base k' C mn S nn gE) (hk : k' ≤ k)
    (h : WE X o n m fun r m1 => ∃ a fs, r = .x a ∧ m1 a = some (.ins C fs) ∧ fs.lookup mn = none ∧ WA X (e :: es) n m1 fun rs m2 => rs.length = nn ∧ ∃ i, gE (.x a :: rs) [] = S.args i ∧ S.pre i m2 ∧ ∀ r m', S.post i m2 r m' → K r m') (hS : S.Calm := by exact fun _ _ _ _ _ z => z)
    (hst : starEach (e :: es) X.env = (false, eval e X.env) :: starEach es X.env := by rfl) (hpl : (backTo pos (starEach es X.env)).any (·.1) = false := by rfl)
    (ht : eval (.Call (.Attribute o mn apos) (e :: es) [] pos) X.env = (do
      let ov ← eval o X.env
      standAt apos.atName
      let (f, first) ← holding [ov] (getMethod ov mn pl)
      callWith pos f first (backTo pos (starEach (e :: es) X.env)) (backToKw pos (keywordEach [] X.env))) := by rfl) :
    WE X (.Call (.Attribute o mn apos) (e :: es) [] pos) n m K := we_methX (pl := pl) c av hk (h.mono fun r m1 ⟨a, fs, e1, e2, e3, q⟩ => ⟨a, fs, e1, e2, e3, q.mono fun rs m2 ⟨l, q⟩ => ⟨l, Use.of hS q⟩⟩) hst hpl ht
theorem we_meth0 {pl : Sem Bool} (c : XC X k) (av : AvM X.prog X.w X.K X.mg X.base k' C mn S 0 gE) (hk : k' ≤ k)
    (h : WE X o n m fun r m1 => ∃ a fs, r = .x a ∧ m1 a = some (.ins C fs) ∧ fs.lookup mn = none ∧ ∃ i, gE [.x a] [] = S.args i ∧ S.pre i m1 ∧ ∀ r m', S.post i m1 r m' → K r m') (hS : S.Calm := by exact fun _ _ _ _ _ z => z)
    (ht : eval (.Call (.Attribute o mn apos) ([]) [] pos) X.env = (do
      let ov ← eval o X.env
      standAt apos.atName
      let (f, first) ← holding [ov] (getMethod ov mn pl)
      callWith pos f first (backTo pos (starEach ([]) X.env)) (backToKw pos (keywordEach [] X.env))) := by rfl) :
    WE X (.Call (.Attribute o mn apos) ([]) [] pos) n m K := we_methX0 (pl := pl) c av hk (h.mono fun r m1 ⟨a, fs, e1, e2, e3, q⟩ => ⟨a, fs, e1, e2, e3, Use.of hS q⟩) ht
end
section
variable {X : Cz} {x : Ent} {m : Mem} {K : KE}
theorem tuple_S {ds : List PyData} (hx : DatS m x ds) (h : K (.d (.tuple ds)) m) : RCW X (rTupOf X.K) [x] m K := by
  rcases hx with hx | rfl
  · exact tuple_L hx h
  · exact tuple_T h
end
/-! ### Shw by parts -/
abbrev okS (x : Str) : Prop := (x.cps.toList.all fun c => decide (c < 16 ^ 8)) = true
theorem okS_app {x y : Str} (hx : okS x) (hy : okS y) : okS (x ++ y) := by
  have e : (x ++ y).cps.toList = x.cps.toList ++ y.cps.toList := TL.tl_append x y
  unfold okS
  rw [e, List.all_append, Bool.and_eq_true]
  exact ⟨hx, hy⟩
theorem log_lt {i : Int} {B : Nat} (h : i.natAbs ≤ B) (hB : B < 2 ^ 1919) : i.natAbs.log2 < 1920 := by
  by_cases h0 : i.natAbs = 0
  · rw [h0]; decide
  · have := (Nat.log2_lt (k := 1919) h0).mpr (Nat.lt_of_le_of_lt h hB)
    omega
theorem okR_I {i : Int} {B : Nat} (h : i.natAbs ≤ B) (hB : B < 2 ^ 1919) : okR (.int i) = true := by
  simp only [okR, decide_eq_true_eq]
  exact log_lt h hB
theorem okR_Is {B : Nat} (hB : B < 2 ^ 1919) : ∀ {xs : List Int}, (∀ x ∈ xs, x.natAbs ≤ B) → okRAll (xs.map .int) = true
  | [], _ => rfl
  | x :: xs, h => by
    simp only [List.map_cons, okRAll, Bool.and_eq_true]
    exact ⟨okR_I (h x List.mem_cons_self) hB, okR_Is hB fun y hy => h y (List.mem_cons_of_mem _ hy)⟩
theorem okR_Ss : ∀ {xs : List Str}, (∀ x ∈ xs, okS x) → okRAll (xs.map .str) = true
  | [], _ => rfl
  | x :: xs, h => by
    simp only [List.map_cons, okRAll, Bool.and_eq_true]
    exact ⟨h x List.mem_cons_self, okR_Ss fun y hy => h y (List.mem_cons_of_mem _ hy)⟩
theorem okR_all : ∀ {ds : List PyData}, (∀ d ∈ ds, okR d = true) → okRAll ds = true
  | [], _ => rfl
  | x :: xs, h => by
    simp only [okRAll, Bool.and_eq_true]
    exact ⟨h x List.mem_cons_self, okR_all fun y hy => h y (List.mem_cons_of_mem _ hy)⟩
theorem rz_all {B : Nat} : ∀ {ds : List PyData}, (∀ d ∈ ds, rz d ≤ B) → rzAll ds ≤ (B + 2) * ds.length
  | [], _ => by simp [rzAll]
  | x :: xs, h => by
    have h1 := h x List.mem_cons_self
    have h2 := rz_all (B := B) (ds := xs) fun y hy => h y (List.mem_cons_of_mem _ hy)
    simp only [rzAll, List.length_cons, Nat.mul_add, Nat.mul_one]
    omega
theorem dep_all {B : Nat} : ∀ {ds : List PyData}, (∀ d ∈ ds, d.depth ≤ B) → PyData.depthAll ds ≤ B
  | [], _ => by simp [PyData.depthAll]
  | x :: xs, h => by
    have h1 := h x List.mem_cons_self
    have h2 := dep_all (B := B) (ds := xs) fun y hy => h y (List.mem_cons_of_mem _ hy)
    simp only [PyData.depthAll]
    omega
/-- a value whose parts are short -/
structure Sh (B D : Nat) (d : PyData) : Prop where
  ok : okR d = true
  sz : rz d ≤ B
  dp : d.depth ≤ D
theorem Sh.shw {B D : Nat} {d : PyData} (h : Sh B D d) (hB : B ≤ 16777216) (hD : D ≤ 64) : Shw d := ⟨h.ok, Nat.le_trans h.sz (by rw [sizeLine_eq]; omega), Nat.le_trans h.dp hD⟩
theorem Sh.int {i : Int} {B : Nat} (h : i.natAbs ≤ B) (hB : B < 2 ^ 1919) : Sh 1922 0 (.int i) := ⟨okR_I h hB, Nat.le_refl _, Nat.le_refl _⟩
theorem Sh.str {x : Str} {n : Nat} (h : okS x) (hn : x.length ≤ n) : Sh (10 * n + 2) 0 (.str x) := ⟨h, by show 10 * x.length + 2 ≤ _; omega, Nat.le_refl _⟩
theorem Sh.lst {ds : List PyData} {B D n : Nat} (h : ∀ d ∈ ds, Sh B D d) (hn : ds.length ≤ n) : Sh ((B + 2) * n + 3) (D + 1) (.list ds) :=
  ⟨okR_all fun d hd => (h d hd).ok, by
    have := rz_all fun d hd => (h d hd).sz
    have h2 : (B + 2) * ds.length ≤ (B + 2) * n := Nat.mul_le_mul_left _ hn
    show rzAll ds + 3 ≤ _
    omega, by
    have := dep_all fun d hd => (h d hd).dp
    show PyData.depthAll ds + 1 ≤ _
    omega⟩
theorem Sh.tup {ds : List PyData} {B D n : Nat} (h : ∀ d ∈ ds, Sh B D d) (hn : ds.length ≤ n) : Sh ((B + 2) * n + 3) (D + 1) (.tuple ds) :=
  ⟨okR_all fun d hd => (h d hd).ok, by
    have := rz_all fun d hd => (h d hd).sz
    have h2 : (B + 2) * ds.length ≤ (B + 2) * n := Nat.mul_le_mul_left _ hn
    show rzAll ds + 3 ≤ _
    omega, by
    have := dep_all fun d hd => (h d hd).dp
    show PyData.depthAll ds + 1 ≤ _
    omega⟩
theorem Sh.mono {B D B' D' : Nat} {d : PyData} (h : Sh B D d) (hB : B ≤ B') (hD : D ≤ D') : Sh B' D' d := ⟨h.ok, Nat.le_trans h.sz hB, Nat.le_trans h.dp hD⟩
end Z

/-! Z8: objects become data while a body goes on; any, all, isinstance, list.index; enumerate, zip. -/
namespace Z
open PySem PySem.Spec L2
set_option linter.all false

/-! ### another reading of the same state -/
def Rf (K : PySem.W.Frag) (n : Nm) (m : Mem) (n2 : Nm) (m2 : Mem) : Prop := ∀ F H σ, MOk K F m H → Slots K F σ n → ∃ F', MOk K F' m2 H ∧ Step F m H F' m2 H ∧ Slots K F' σ n2
section
variable {X : Cz} {n n2 n3 : Nm} {m m2 m3 : Mem} {sts : List Stmt} {P : KS} {K : PySem.W.Frag}
theorem Rf.trans (h : Rf K n m n2 m2) (k : Rf K n2 m2 n3 m3) : Rf K n m n3 m3 := fun F H σ hm hs => by
  obtain ⟨F1, hm1, st1, hs1⟩ := h F H σ hm hs
  obtain ⟨F2, hm2, st2, hs2⟩ := k F1 H σ hm1 hs1
  exact ⟨F2, hm2, st1.trans st2, hs2⟩
theorem WB.rf (h : Rf X.K n m n2 m2) (k : WB X sts n2 m2 P) : WB X sts n m P := fun F σ H hm hs => by
  obtain ⟨F1, hm1, st1, hs1⟩ := h F H σ hm hs.sl
  exact wpB.after st1 (k F1 σ H hm1 (hs.at hs1 st1))
theorem WE.rf {e : Expr} {k : KE} (h : Rf X.K n m n2 m2) (q : WE X e n2 m2 k) : WE X e n m k := fun F σ H hm hs => by
  obtain ⟨F1, hm1, st1, hs1⟩ := h F H σ hm hs.sl
  exact (q F1 σ H hm1 (hs.at hs1 st1)).mono fun _ _ z => PostE.after st1 z
/-- the names' values change their reading -/
theorem slots_map {F F' : Hp} {σ : St} (f : Option Ent → Option Ent) (h0 : f none = none) (hf : ∀ v e, EntOk K F v e → ∀ e', f (some e) = some e' → EntOk K F' v e') (hs : Slots K F σ n) : Slots K F' σ (n.map f) :=
  ⟨by rw [List.length_map]; exact hs.1, fun i e q => by
    rw [List.getElem?_map] at q
    cases h : n[i]? with
    | none => rw [h] at q; cases q
    | some o =>
      cases o with
      | none => rw [h] at q; simp [h0] at q
      | some u =>
        rw [h] at q
        obtain ⟨v, h1, h2⟩ := hs.2 i u h
        exact ⟨v, h1, hf v u h2 e (by simpa using q)⟩⟩
/-- the exclusive object at p reads as these data from now on -/
def fzE (p : Addr) (d : PyData) : Option Ent → Option Ent
  | some (.x a) => if a = p then some (.d d) else some (.x a)
  | o => o
theorem rf_list {p : Addr} {ds : List PyData} (hp : m p = some (.lst (List.map .d ds))) : Rf K n m (n.map (fzE p (.list ds))) (m.drop p) := fun F H σ hm hs => by
  obtain ⟨F', hm', st, r⟩ := hm.freeze hp
  refine ⟨F', hm', st, slots_map _ rfl (fun v e ok e' h => ?_) hs⟩
  cases e with
  | d d => cases h; exact EntOk.inc st.fr ok
  | v u => cases h; exact ok
  | x a =>
    have h : (if a = p then some (Ent.d (.list ds)) else some (.x a)) = some e' := h
    by_cases ha : a = p
    · rw [if_pos ha] at h
      cases h
      subst ha
      have ev : v = .ref a := ok
      subst ev
      exact r
    · rw [if_neg ha] at h
      cases h
      exact ok
end

/-! ### any, all -/
section
variable {X : Cz} {x : Ent} {m : Mem} {K : KE}
theorem bools_of {K : PySem.W.Frag} {F : Hp} : ∀ {bs : List Bool} {vs : List V}, RpAll K F vs (bs.map .bool) → vs = bs.map V.bl
  | [], _, .nil => rfl
  | _ :: _, _, .cons (.bl _) t => by rw [bools_of t]; rfl
theorem any_Z {bs : List Bool} (hx : Dat m x (.list (bs.map .bool))) (h : K (.d (.bool (bs.any id))) m) : RCW X (rAny X.K) [x] m K := fun F H vs hm e Q q => by
  obtain ⟨v, rfl, ok⟩ := e.one
  obtain ⟨a, xs, rfl, s, r⟩ := hx.sqL hm ok
  rw [bools_of r] at s
  exact ⟨a, bs, rfl, s, q _ _ (PostE.here h (Rp.bl _) hm)⟩
theorem all_Z {bs : List Bool} (hx : Dat m x (.list (bs.map .bool))) (h : K (.d (.bool (bs.all id))) m) : RCW X (rAll X.K) [x] m K := fun F H vs hm e Q q => by
  obtain ⟨v, rfl, ok⟩ := e.one
  obtain ⟨a, xs, rfl, s, r⟩ := hx.sqL hm ok
  rw [bools_of r] at s
  exact ⟨a, bs, rfl, s, q _ _ (PostE.here h (Rp.bl _) hm)⟩

/-! ### isinstance of data -/
def tyD : PyData → String
  | .none => "NoneType"
  | .bool _ => "bool"
  | .int _ => "int"
  | .str _ => "str"
  | .list _ => "list"
  | .tuple _ => "tuple"
  | .dict _ => "dict"
theorem we_bltn {n : Nm} {y : Str} {T : String} {pos : Pos} (hg : Gl X y) (hmg : X.mg y = none) (hv : bootBuiltins y = some (.type T)) (h : K (.v (.ty T)) m) (hn : y ≠ "__name__" := by decide) (hd : (y == ("__debug__" : Str)) = false := by decide)
    : WE X (.Name y pos) n m K := fun F σ H hm hs => wpE.of (pe_bltn (v := .ty T) hg hmg hv rfl hn hd) (PostE.here h rfl hm)
theorem ty_rd {K : PySem.W.Frag} {H : Hp} {v : V} {d : PyData} (h : Dp K H v d) : TyX K H v (.type (tyD d)) := by
  cases h with
  | non => exact .base .non
  | bl b => exact .base (.bl b)
  | int i => exact .base (.int i)
  | str x => exact .base (.str x)
  | lst s _ =>
    rcases s with s | ⟨o, its, n, lk, hc, _⟩
    · rcases s with s | ⟨o, s⟩
      · exact .base (.lst s)
      · exact .base (.frz s)
    · exact .kList lk hc
  | tup s _ =>
    rcases s with s | ⟨o, its, n, lk, hc, _⟩
    · rcases s with s | ⟨o, s⟩
      · exact .base (.tup s)
      · exact .fTuple s
    · exact .kTuple lk hc
theorem isi_D {d : PyData} {T : String} {b : Bool} (hx : Dat m x d) (hd : nodict d = true) (hk : PySem.W.kitOne X.K (.type (tyD d)) (.type T) = some b) (h : K (.d (.bool b)) m) : RCW X (rIsi X.K) [x, .v (.ty T)] m K := fun F H vs hm e Q q => by
  obtain ⟨v, u, rfl, ok, ok2⟩ := e.two
  have e2 : u = .ty T := ok2
  subst e2
  exact ⟨v, .ty T, _, _, b, rfl, .ty T, ty_rd (hx.dp hm ok hd), hk, q _ _ (PostE.here h (Rp.bl _) hm)⟩
theorem kit_int {K : PySem.W.Frag} : PySem.W.kitOne K (.type "int") (.type "int") = some true := rfl
theorem kit_int_bool {K : PySem.W.Frag} : PySem.W.kitOne K (.type "int") (.type "bool") = some false := rfl
end

/-! ### enumerate, zip -/
section
variable {X : Cz} {n : Nm} {m : Mem} {e e2 : Expr} {p pos tpos : Pos} {elts : List Expr} {kk : Nat}
def enumD (ds : List PyData) : List PyData := ds.mapIdx fun i d => .tuple [.int (i : Int), d]
theorem enumD_get {ds : List PyData} {i : Nat} {d : PyData} (h : (enumD ds)[i]? = some d) : ∃ c, ds[i]? = some c ∧ d = .tuple [.int (i : Int), c] := by
  unfold enumD at h
  rw [List.getElem?_mapIdx] at h
  cases q : ds[i]? with
  | none => rw [q] at h; cases h
  | some c => rw [q] at h; cases h; exact ⟨c, rfl, rfl⟩
theorem enumD_length {ds : List PyData} : (enumD ds).length = ds.length := by unfold enumD; rw [List.length_mapIdx]
theorem wi_enum {K : List PyData → Mem → Prop} (hg : Gl X "enumerate") (hmg : X.mg "enumerate" = none) (h : WE X e n m fun r m1 => ∃ ds, r = .d (.list ds) ∧ K (enumD ds) m1)
    (hs0 : starEach [e] X.env = [(false, eval e X.env)] := by rfl) : WI X (.Tuple elts kk tpos) (.Call (.Name "enumerate" p) [e] [] pos) n m K := fun F σ H hm hs =>
  wpI.of (pi_enum hg hmg pa_wp hs0) ((wa_cons (K := fun rs m1 => ∃ ds, rs = [.d (.list ds)] ∧ K (enumD ds) m1) (h.mono fun r m1 ⟨ds, e1, k1⟩ => wa_nil ⟨ds, by rw [e1], k1⟩) hs0).go hm hs fun F1 vs H1 rs m1 ⟨ds, e1, k1⟩ ok hm1 st1 hs1 => by
    subst e1
    obtain ⟨v, rfl, ok1⟩ := ok.one
    obtain ⟨a, xs, rfl, sq, rr⟩ := Rp.sqL ok1
    refine ⟨a, xs, rfl, sqLi hm1.sub sq, F1, m1, _, k1, hm1, st1, fun F2 m2 H2 hm2 st2 i => ⟨fun d hd => ?_, fun hl => ⟨xs, sqLi hm2.sub (sqLi st2.fr sq), by rw [rr.length]; rw [enumD_length] at hl; exact hl⟩⟩⟩
    obtain ⟨c, hc, rfl⟩ := enumD_get hd
    obtain ⟨x, hx, rx⟩ := rr.get hc
    refine ⟨⟨xs, x, sqLi hm2.sub (sqLi st2.fr sq), hx⟩, fun y H3 hy => ?_⟩
    obtain ⟨T, x2, rfl, hT, rfl, hy⟩ := hy
    have := hy xs (sqLi hm2.sub (sqLi st2.fr sq))
    rw [hx] at this
    cases this
    have inc : Inc F2 (upd F2 T (.tup [.int (i : Nat), x])) := Inc.upd (hm2.freshF hT)
    exact ⟨upd F2 T (.tup [.int (i : Nat), x]), .tup (.inl (.inl upd_same)) (.cons (.int _) (.cons ((rx.inc st2.fr).inc inc) .nil)), hm2.newF hT, Step.newF hm2 hT⟩)
def zipD (ds es : List PyData) : List PyData := List.zipWith (fun a b => .tuple [a, b]) ds es
theorem zipD_get {ds es : List PyData} {i : Nat} {d : PyData} (h : (zipD ds es)[i]? = some d) : ∃ a b, ds[i]? = some a ∧ es[i]? = some b ∧ d = .tuple [a, b] := by
  unfold zipD at h
  rw [List.getElem?_zipWith] at h
  cases q : ds[i]? with
  | none => rw [q] at h; cases h
  | some a =>
    cases q2 : es[i]? with
    | none => rw [q, q2] at h; cases h
    | some b => rw [q, q2] at h; cases h; exact ⟨a, b, rfl, rfl, rfl⟩
theorem zipD_length {ds es : List PyData} : (zipD ds es).length = min ds.length es.length := by unfold zipD; rw [List.length_zipWith]
theorem wi_zip {K : List PyData → Mem → Prop} (hg : Gl X "zip") (hmg : X.mg "zip" = none) (h : WA X [e, e2] n m fun rs m1 => ∃ ds es, rs = [.d (.list ds), .d (.list es)] ∧ K (zipD ds es) m1)
    (hs0 : starEach [e, e2] X.env = (false, eval e X.env) :: starEach [e2] X.env := by rfl) (hpl : (backTo pos (starEach [e2] X.env)).any (·.1) = false := by rfl) : WI X (.Tuple elts kk tpos) (.Call (.Name "zip" p) [e, e2] [] pos) n m K := fun F σ H hm hs =>
  wpI.of (pi_zip hg hmg pa_wp hs0 hpl) (h.go hm hs fun F1 vs H1 rs m1 ⟨ds, es, e1, k1⟩ ok hm1 st1 hs1 => by
    subst e1
    obtain ⟨v, u, rfl, ok1, ok2⟩ := ok.two
    obtain ⟨a, xs, rfl, sq, rr⟩ := Rp.sqL ok1
    obtain ⟨b, ys, rfl, sq2, rr2⟩ := Rp.sqL ok2
    refine ⟨a, b, xs, ys, rfl, sqLi hm1.sub sq, sqLi hm1.sub sq2, F1, m1, _, k1, hm1, st1, fun F2 m2 H2 hm2 st2 i => ?_⟩
    have s1 := sqLi hm2.sub (sqLi st2.fr sq)
    have s2 := sqLi hm2.sub (sqLi st2.fr sq2)
    refine ⟨fun d hd => ?_, fun hl => ⟨xs, ys, s1, s2, by rw [rr.length, rr2.length]; rw [zipD_length] at hl; omega⟩⟩
    obtain ⟨c1, c2, hc1, hc2, rfl⟩ := zipD_get hd
    obtain ⟨x, hx, rx⟩ := rr.get hc1
    obtain ⟨y, hy, ry⟩ := rr2.get hc2
    refine ⟨⟨xs, ys, x, y, s1, s2, hx, hy⟩, fun z H3 hz => ?_⟩
    obtain ⟨T, x2, y2, rfl, hT, rfl, q1, q2⟩ := hz
    have z1 := q1 xs s1
    have z2 := q2 ys s2
    rw [hx] at z1
    rw [hy] at z2
    cases z1
    cases z2
    have inc : Inc F2 (upd F2 T (.tup [x, y])) := Inc.upd (hm2.freshF hT)
    exact ⟨upd F2 T (.tup [x, y]), .tup (.inl (.inl upd_same)) (.cons ((rx.inc st2.fr).inc inc) (.cons ((ry.inc st2.fr).inc inc) .nil)), hm2.newF hT, Step.newF hm2 hT⟩)
end
end Z

/-! Z9: raise, try, caught exceptions. -/
namespace Z
open PySem PySem.Spec L2 PyProof.Rows
set_option linter.all false

/-! ### raise -/
/-- what __init__ of an own error promises: it keeps its arguments -/
def spI (K : PySem.W.Frag) (C : Addr) (fs : List Str) : Sp := fun vs H Q _ => ∃ (a : Addr) (ws : List V), vs = .ref a :: ws ∧ ws.length = fs.length ∧ OexC K C ∧ (∀ f ∈ fs, PySem.W.findIn K (.ref C) f = some none) ∧ H a = some (exo a C none) ∧
  ∀ d, H d = none → d ≠ a → Q .non (upd (upd H d (exd d (fs.zip ws).reverse)) a (exo a C (some d)))
/-- an own error class by its name -/
def ErrC (P : Program) (w : World) (K : PySem.W.Frag) (mg : Str → Option Value) (base : Heap) (x : Str) (C : Addr) (fs : List Str) : Prop :=
  mg x = some (.ref C) ∧ OexC K C ∧ (∀ f ∈ fs, PySem.W.findIn K (.ref C) f = some none) ∧ ∃ fI fd ps, PySem.W.findIn K (.ref C) "__init__" = some (some (.ref fI)) ∧ PySem.W.typeIn K (.ref fI) = some (.type "function") ∧ FnOk P w K mg base (CX P w) 1 fI fd ps (spI K C fs) ∧ Binds K fd ps []
section
variable {X : Cz} {k : Nat} {x : Str} {C : Addr} {fs : List Str} {e : Expr} {es : List Expr} {n : Nm} {m : Mem} {P : KS} {p pos pos2 : Pos}
theorem zip_pr {K : PySem.W.Frag} {F : Hp} : ∀ {fs : List Str} {vs : List V} {rs : List Ent}, Ents K F vs rs → Paired (fun (p : Str × V) (q : Str × Ent) => p.1 = q.1 ∧ EntOk K F p.2 q.2) (fs.zip vs) (fs.zip rs)
  | [], _, _, _ => .nil
  | _ :: _, _, _, .nil => .nil
  | _ :: _, _, _, .cons r t => .cons ⟨rfl, r⟩ (zip_pr t)
theorem pr_rev {α β : Type} {R : α → β → Prop} : ∀ {l : List α} {k : List β}, Paired R l k → Paired R l.reverse k.reverse
  | _, _, .nil => .nil
  | _, _, .cons r t => by
    rw [List.reverse_cons, List.reverse_cons]
    exact Paired.snoc (pr_rev t) r
theorem ws_raise (c : XC X k) (hk : 2 ≤ k) (hg : Gl X x) (T : ErrC X.prog X.w X.K X.mg X.base x C fs)
    (h : WA X (e :: es) n m fun rs m1 => rs.length = fs.length ∧ rs.length ≤ 900 ∧ ∀ d, m1 d = none → X.Z (.ref C) (some d) n (m1.put d (.exc (fs.zip rs).reverse)))
    (hdb : (x == ("__debug__" : Str)) = false := by decide) (he : starEach (e :: es) X.env = (false, eval e X.env) :: starEach es X.env := by rfl) (hpl : (backTo pos (starEach es X.env)).any (·.1) = false := by rfl) :
    WS X (.Raise (some (.Call (.Name x p) (e :: es) [] pos)) none pos2) n m P := fun F σ H hm hs => by
  obtain ⟨hmg, T, na, fI, fd, ps, iC, tI, F1, hb⟩ := T
  refine wpS.of (ps_raise c.calm hs.tk (pmk_oex T iC tI F1 (c.room.mono hk) hb .nil passL hg hmg pa_wp hdb he hpl)) ?_
  refine h.go hm hs fun F1 vs H1 rs m1 ⟨hl, h9, hq⟩ ok hm1 st1 hs1 => ⟨by rw [Paired.length ok]; omega, fun a ha => ⟨a, vs, by rw [List.append_nil], by rw [Paired.length ok]; exact hl, T, na, upd_same, fun d hd hda => ⟨rfl, d, (fs.zip vs).reverse, upd_same, ?_, ?_, ?_⟩⟩⟩
  · rw [upd_ne hda, upd_same]
  · rw [upd_ne hda] at hd
    exact hd
  · rw [upd_ne hda] at hd
    have e1 : upd (del (upd (upd (upd H1 a (exo a C none)) d (exd d (fs.zip vs).reverse)) a (exo a C (some d))) a) d (.xd (fs.zip vs).reverse) = upd H1 d (.xd (fs.zip vs).reverse) := by
      funext b
      by_cases hb1 : b = d
      · rw [hb1, upd_same, upd_same]
      · rw [upd_ne hb1, upd_ne hb1]
        by_cases hb2 : b = a
        · rw [hb2, del_same, ha]
        · rw [del_ne hb2, upd_ne hb2, upd_ne hb1, upd_ne hb2]
    rw [e1]
    exact ⟨F1, n, _, hq d (hm1.fresh hd), hs1.sl, hm1.newX hd ⟨_, upd_same, pr_rev (zip_pr ok)⟩, st1.trans (Step.newX hd)⟩
end
/-- the text of __init__ of one field, of two -/
theorem init1 {P : Program} {w : World} {K : PySem.W.Frag} {mg : Str → Option Value} {base : Heap} {qual : Str} {st : Stmt} {fI C : Addr} {fd : FuncData} {f : Str} {q1 q2 q3 q4 : Pos} (Fn : Fun K "__init__" qual st fI fd) (sc : FnScope ["self", f] ["self", f] (defScope st)) (hbd : defBody st = [.Assign [.Attribute (.Name "self" q1) f q2] (.Name f q3) q4])
    (hsw : ∀ env, swapsWith (.Name f q3) (some (.Attribute (.Name "self" q1) f q2)) q4.line env = pure false := by intro _; rfl)
    (hd : (f == ("__debug__" : Str)) = false := by decide) (hcd : (f == ("__classdict__" : Str)) = false := by decide) : FnOk P w K mg base (CX P w) 1 fI fd ["self", f] (spI K C [f]) := by
  refine Fn.okX sc (fun vs H Q E ⟨a, ws, e, l, _⟩ => by rw [e, List.length_cons, l]; rfl) fun cdv A outer s H vs Q E hr ⟨a, ws, ev, l, T, na, ha, hq⟩ => ?_
  rw [hbd]
  refine ⟨_, pss_one (ps_ost (pe_var (i := 0) rfl ((sc.par "self" (by simp)).imp_right Or.inl) rfl rfl) (pe_var (i := 1) rfl ((sc.par f (by simp)).imp_right Or.inl) hd hcd) (hsw _)), ?_⟩
  subst ev
  match ws, l with
  | [v], _ =>
    refine ⟨v, rfl, .ref a, rfl, a, C, rfl, T, na f (by simp), .inl ⟨ha, fun dx hdx hne => hq dx hdx hne⟩⟩
theorem init2 {P : Program} {w : World} {K : PySem.W.Frag} {mg : Str → Option Value} {base : Heap} {qual : Str} {st : Stmt} {fI C : Addr} {fd : FuncData} {f g : Str} {q1 q2 q3 q4 r1 r2 r3 r4 : Pos} (Fn : Fun K "__init__" qual st fI fd) (sc : FnScope ["self", f, g] ["self", f, g] (defScope st)) (hbd : defBody st = [.Assign [.Attribute (.Name "self" q1) f q2] (.Name f q3) q4, .Assign [.Attribute (.Name "self" r1) g r2] (.Name g r3) r4])
    (hsw : ∀ env, swapsWith (.Name f q3) (some (.Attribute (.Name "self" q1) f q2)) q4.line env = pure false := by intro _; rfl) (hsw2 : ∀ env, swapsWith (.Name g r3) (some (.Attribute (.Name "self" r1) g r2)) r4.line env = pure false := by intro _; rfl)
    (hd : (f == ("__debug__" : Str)) = false := by decide) (hcd : (f == ("__classdict__" : Str)) = false := by decide) (hd2 : (g == ("__debug__" : Str)) = false := by decide) (hcd2 : (g == ("__classdict__" : Str)) = false := by decide) : FnOk P w K mg base (CX P w) 1 fI fd ["self", f, g] (spI K C [f, g]) := by
  refine Fn.okX sc (fun vs H Q E ⟨a, ws, e, l, _⟩ => by rw [e, List.length_cons, l]; rfl) fun cdv A outer s H vs Q E hr ⟨a, ws, ev, l, T, na, ha, hq⟩ => ?_
  rw [hbd]
  refine ⟨_, pss_cons (ps_ost (pe_var (i := 0) rfl ((sc.par "self" (by simp)).imp_right Or.inl) rfl rfl) (pe_var (i := 1) rfl ((sc.par f (by simp)).imp_right Or.inl) hd hcd) (hsw _)) (pss_one (ps_ost (pe_var (i := 0) rfl ((sc.par "self" (by simp)).imp_right Or.inl) rfl rfl) (pe_var (i := 2) rfl ((sc.par g (by simp)).imp_right Or.inl) hd2 hcd2) (hsw2 _))), ?_⟩
  subst ev
  match ws, l with
  | [v, u], _ =>
    refine ⟨v, rfl, .ref a, rfl, a, C, rfl, T, na f (by simp), .inl ⟨ha, fun dx hdx hne => ?_⟩⟩
    refine ⟨u, rfl, .ref a, rfl, a, C, rfl, T, na g (by simp), .inr ⟨dx, [(f, v)], upd_same, by rw [upd_ne hne]; exact upd_same, by simp, ?_⟩⟩
    have z := hq dx hdx hne
    have e1 : upd (upd (upd H dx (exd dx [(f, v)])) a (exo a C (some dx))) dx (exd dx ((g, u) :: [(f, v)])) = upd (upd H dx (exd dx (([f, g] : List Str).zip [v, u]).reverse)) a (exo a C (some dx)) := by
      funext b
      by_cases hb1 : b = dx
      · rw [hb1, upd_same, upd_ne hne, upd_same]; rfl
      · rw [upd_ne hb1]
        by_cases hb2 : b = a
        · rw [hb2, upd_same, upd_same]
        · rw [upd_ne hb2, upd_ne hb2, upd_ne hb1, upd_ne hb1]
    show (fun H' => Q .non H') _
    rw [e1]
    exact z

/-! ### try -/
section
variable {X : Cx} {pins : List (Addr × Obj)} {σ : L2.St} {H : Hp} {s : Shared}
/-- a caught exception is tracked -/
theorem Inv_track {a : Addr} {c : Value} {d : Option Addr} {oe : Obj} {vs : Array Value} (I : Inv X pins σ H s) (he : s.heap.get? a = some oe) (hz : Zc c d oe) (hd : oe.data = .fields vs) (na : H a = none) (n0 : X.s_0.heap.get? a = none) (nL : a ≠ X.env.locals) (hp : ∀ p ∈ X.pn ++ pins, p.1 ≠ a) :
    Inv X pins σ (upd H a (exT a c d)) s where
  ok := I.ok
  os := I.os
  bare := I.bare
  base := ⟨I.base.keep, I.base.slot, fun b o e n hx => by
      rw [upd_ne (fun z => by rw [z, n0] at e; cases e)]
      exact I.base.free b o e n hx, I.base.there, fun b xs e => by
      have z := I.base.tups b xs e
      rw [upd_ne (ne_of_none z na)]
      exact z, fun b o u e => by
      have z := I.base.frzs b o u e
      rw [upd_ne (ne_of_none z na)]
      exact z, fun b ps e => by
      obtain ⟨mr, z⟩ := I.base.tbls b ps e
      exact ⟨mr, by rw [upd_ne (ne_of_none z na)]; exact z⟩⟩
  loc := I.loc
  cell := I.cell
  free := by rw [upd_ne (Ne.symm nL)]; exact I.free
  freeC := fun y cc e => by
    have hne : cc ≠ a := fun z => by
      obtain ⟨v, o, ho, hdd⟩ := I.cell y cc e
      rw [z, he] at ho
      cases ho
      rw [hd] at hdd
      cases hdd
    rw [upd_ne hne]
    exact I.freeC y cc e
  pin := fun p hm => by
    obtain ⟨h1, h2, h3⟩ := I.pin p hm
    exact ⟨h1, by rw [upd_ne (hp p hm)]; exact h2, h3⟩
  hok := fun b u e => by
    by_cases hb : b = a
    · subst hb
      rw [upd_same] at e
      cases e
      exact ⟨⟨oe, vs, he, hz, hd⟩, ⟨oe, he⟩, fun _ _ ⟨o, v, q, r⟩ k => ⟨o, v, k o q, r⟩⟩
    · rw [upd_ne hb] at e
      exact (I.hok b u e).stay (fun _ _ _ q => q) (fun c q => by rw [upd_ne (ne_of_none q na)]; exact q) fun c xs q => by rw [upd_ne (ne_of_none q na)]; exact q
  len := I.len
theorem Inv_suite (I : Inv X pins σ H s) (a : Addr) : Inv (X.suite a (X.pn ++ pins)) [] σ H s :=
  ⟨I.ok.suite _ _, I.os, I.bare, I.base, I.loc, I.cell, I.free, I.freeC, fun p hp => I.pin p (by rw [List.append_nil] at hp; exact hp), I.hok, I.len⟩
theorem Inv_unsuite {a : Addr} {pn' : List (Addr × Obj)} (I : Inv (X.suite a (X.pn ++ pins)) pn' σ H s) (ok : X.Ok) : Inv X pins σ H s :=
  ⟨ok, I.os, I.bare, I.base, I.loc, I.cell, I.free, I.freeC, fun p hp => I.pin p (List.mem_append_left _ hp), I.hok, I.len⟩
end
/-- an except clause: the class, the slot of the name, the suite -/
structure Hd where
  c : Value
  i : Option Nat
  su : List Stmt
inductive HdsW (X : Cx) : List ExceptHandler → List Hd → Prop
  | nil : HdsW X [] []
  | as {x nm : Str} {c : Value} {i : Nat} {b₀ : Stmt} {su : List Stmt} {np pos' : Pos} {hds : List ExceptHandler} {l : List Hd} (hc : Names X x c) (hi : X.N[i]? = some nm) (hl : X.env.kindOf nm = some .local) (r : HdsW X hds l) :
      HdsW X (.ExceptHandler (some (.Name x np)) (some nm) (b₀ :: su) pos' :: hds) (⟨c, some i, b₀ :: su⟩ :: l)
  | only {x : Str} {c : Value} {b₀ : Stmt} {su : List Stmt} {np pos' : Pos} {hds : List ExceptHandler} {l : List Hd} (hc : Names X x c) (r : HdsW X hds l) :
      HdsW X (.ExceptHandler (some (.Name x np)) none (b₀ :: su) pos' :: hds) (⟨c, none, b₀ :: su⟩ :: l)
def setO (σ : L2.St) (i : Option Nat) (v : Option V) : L2.St := match i with
  | some i => σ.set i v
  | none => σ
/-- a suite's ends: the name goes -/
def offD (i : Option Nat) (D : Ends) : Ends := { nx := fun σ H => D.nx (setO σ i none) H, rt := D.rt, bk := fun σ H => D.bk (setO σ i none) H, ct := fun σ H => D.ct (setO σ i none) H }
def wHds (X : Cx) (Wout : WX) (D : Ends) : List Hd → WX
  | [] => Wout
  | ⟨c, i, su⟩ :: r => fun cls d σ H => ∃ b, PySem.W.exmOne X.K cls c = some b ∧ (b = true → ∀ a pn, H a = none → wpB (X.suite a pn) su (offD i D) (setO σ i (some (.ref a))) (upd H a (exT a cls d))) ∧ (b = false → wHds X Wout D r cls d σ H)
section
variable {X : Cx} {body : List Stmt} {h₀ : ExceptHandler} {hds : List ExceptHandler} {l : List Hd} {pos : Pos} {tb : WX → TS} {Wout : WX}
theorem ps_tryZ (hs : X.stack = X.env :: X.outer) (hf : X.env.frame = some X.env.locals) (hex : X.ex = []) (hN : X.N.Nodup) (tk : Takes X Wout)
    (hb : ∀ (W : WX) (pn : List (Addr × Obj)) (xe : Value → Shared → Prop), Takes (X.tr pn xe) W → PassesOwn (model X.prog X.w) X.A X.env xe → PSs (X.tr pn xe) body (tb W))
    (hh : HdsW X (h₀ :: hds) l) : PS X (.Try body (h₀ :: hds) [] [] pos) (fun D σ H => tb (wHds X Wout D l) D σ H) := by
  refine ⟨fun pins s σ H D I h => ?_⟩
  have ok := I.ok
  have hfr : X.A.frames = some (X.env :: X.outer) := by rw [ok.frames, hs]
  refine wpAny_Try_except ?_
  refine wpAny_mono ((hb (wHds X Wout D l) (X.pn ++ pins) (fun e s₁ => wpAny (model X.prog X.w) X.A (noteFrame e X.env) (fun _ s₂ => wpAny (model X.prog X.w) X.A (setFlight e none) (fun _ s₃ =>
    wpAny (model X.prog X.w) X.A (handleBy e X.env (h₀ :: hds)) (SP X pins D) X.xe s₃) X.xe s₂) X.xe s₁) (fun u s' xx => ?_) PassesOwn.looking).run [] s σ H D (I.toTry _) h) (fun f s1 hsp => ?_) (fun e s1 he => he)
  · obtain ⟨a, B, sI, pins', σ', H', cls, d, rfl, J', nb, up, sky, na, os, ag, w⟩ := xx
    have J : Inv X pins σ' H' sI := J'.ofTry ok
    have sky' : Sky B (X.env :: X.outer) a (Zc cls d) X.env.locals s'.heap := by rw [← hs]; exact sky
    show wpAny (model X.prog X.w) X.A (noteFrame (.ref a) X.env) _ _ _
    refine Sky.land Zc.steady hfr hf sky' fun h3 fl3 up3 => ?_
    have J3 : Inv X pins σ' H' { s' with heap := h3 } := J.landed nb fl3.1 (up.trans up3) os ag
    obtain ⟨oe3, vs3, he3, hz3, hd3⟩ := fl3.there
    have nfr : a ∉ frs (X.env :: X.outer) := fun hm => by
      obtain ⟨_, o', e', hnf⟩ := fl3.2.2.1.mem hm
      rw [he3] at e'
      cases e'
      exact hnf _ hd3
    have nL : a ≠ X.env.locals := fun z => nfr (List.mem_filterMap.mpr ⟨X.env, List.mem_cons_self, by rw [hf, z]⟩)
    have nI : sI.heap.get? a = none := by
      cases q : sI.heap.get? a with
      | none => rfl
      | some o =>
        have z := nb a o q (by rw [hs]; exact nfr)
        rw [fl3.2.1] at z
        cases z
    have n0 : X.s_0.heap.get? a = none := by
      cases q : X.s_0.heap.get? a with
      | none => rfl
      | some o =>
        obtain ⟨o', z⟩ := J.base.there a o q (by rw [hex]; exact fun z => nomatch z)
        rw [nI] at z
        cases z
    have hpn : ∀ p ∈ X.pn ++ pins, p.1 ≠ a := fun p hp z => by
      have q := (J.pin p hp).1
      rw [z, nI] at q
      cases q
    have T3 := Inv_suite (Inv_track J3 he3 hz3 hd3 na n0 nL hpn) a
    have go : ∀ {hds' : List ExceptHandler} {l' : List Hd}, HdsW X hds' l' → wHds X Wout D l' cls d σ' H' →
        wpAny (model X.prog X.w) X.A (handleBy (.ref a) X.env hds') (SP X pins D) X.xe { s' with heap := h3 } := by
      intro hds' l' hk
      have LT : PySem.W.Looks (model X.prog X.w) h3 (typeOf (.ref a)) cls := fun A Q E s k q => wpAny_typeOf_ref (k _ _ he3) (by rw [hz3.1]; exact q)
      have test : ∀ {x : Str} {c : Value} {np : Pos} {Q : Value → Shared → Prop} {E : Value → Shared → Prop}, Names X x c → Q c { s' with heap := h3 } → wpAny (model X.prog X.w) (X.A.mark (some (.ref a))) (eval (.Name x np) X.env) Q E { s' with heap := h3 } := fun {x c np Q E} hc q => by
        obtain ⟨hg, hdbg, hm | ⟨hm, hv, hnn⟩⟩ := hc
        · exact ld_glob (X := X.suite a (X.pn ++ pins)) T3 hg hm q hdbg
        · exact ld_blt (X := X.suite a (X.pn ++ pins)) T3 hg hm hv q hnn hdbg
      have land4 : ∀ {Q : Unit → Shared → Prop} {E : Value → Shared → Prop} {A : Around}, (∀ h4, Inv (X.suite a (X.pn ++ pins)) [] σ' (upd H' a (exT a cls d)) { s' with heap := h4 } → Q () { s' with heap := h4 }) → wpAny (model X.prog X.w) A (setFlight (.ref a) none) Q E { s' with heap := h3 } := fun {Q E A} q => by
        refine HandSPX.lands_againZ fl3 fun h4 fl4 up4 => q h4 ?_
        have J4 : Inv X pins σ' H' { s' with heap := h4 } := J.landed nb fl4.1 ((up.trans up3).trans up4) os ag
        obtain ⟨oe4, vs4, he4, hz4, hd4⟩ := fl4.there
        exact Inv_suite (Inv_track J4 he4 hz4 hd4 na n0 nL hpn) a
      induction hk with
      | nil =>
        intro w
        refine wpAny_handleBy_nil ?_
        obtain ⟨k1, k2, k3, oe, vs, T, oT, ts', he, hz, hd, h1, hr⟩ := id fl3
        unfold PySem.passOn
        refine wpAny_bind (wpAny_field he hd h1 ?_)
        rw [if_neg (show ¬ ((Value.ref T == Value.none) = true) from by simp)]
        have fin : wpAny (model X.prog X.w) X.A (setFlight (.ref a) X.env.frame) (fun _ s4 => wpAny (model X.prog X.w) X.A (throw (.ref a) : Sem Flow) (SP X pins D) X.xe s4) X.xe { s' with heap := h3 } := by
          rw [hf]
          refine HandSPX.setFlight_upZ fl3 fun h4 hh4 up4 => wpAny_throw (tk _ _ ?_)
          exact ⟨a, B, sI, pins, σ', H', cls, d, rfl, J, nb, (up.trans up3).trans up4, .inr (.inr (by rw [hs]; exact hh4)), na, os, ag, w⟩
        first
          | exact wpAny_bind (wpAny_pure (wpAny_bind fin))
          | exact wpAny_bind fin
      | @only x c b₀ su np pos' hds2 l2 hc r ih =>
        intro w
        obtain ⟨b, hb1, hyes, hno⟩ := w
        refine wpAny_handleBy_cons (codeAny_handlers_test ?_) (by intro q; cases q)
        refine test hc ((PySem.W.exm_one (M := model X.prog X.w) (J3.kIn) LT hb1).here ?_)
        cases b with
        | true =>
          refine codeAny_handlers_suite (land4 fun h4 S4 => ?_)
          refine wpAny_mono (hyes rfl a (X.pn ++ pins) na [] _ S4) (fun f s6 hsp => ?_) (fun _ _ z => False.elim z)
          cases f with
          | next => obtain ⟨σ6, H6, S6, q6⟩ := hsp; exact ⟨_, _, Inv_unsuite S6 ok, q6⟩
          | brk => obtain ⟨σ6, H6, S6, q6⟩ := hsp; exact ⟨_, _, Inv_unsuite S6 ok, q6⟩
          | cont => obtain ⟨σ6, H6, S6, q6⟩ := hsp; exact ⟨_, _, Inv_unsuite S6 ok, q6⟩
          | ret u => obtain ⟨v6, σ6, H6, S6, r6, q6⟩ := hsp; exact ⟨_, _, _, Inv_unsuite S6 ok, r6, q6⟩
        | false =>
          show wpAny _ X.A (handleBy (.ref a) X.env hds2) _ _ _
          exact ih (hno rfl)
      | @as x nm c i b₀ su np pos' hds2 l2 hc hi hln r ih =>
        intro w
        obtain ⟨b, hb1, hyes, hno⟩ := w
        refine wpAny_handleBy_cons (codeAny_handlers_test ?_) (by intro q; cases q)
        refine test hc ((PySem.W.exm_one (M := model X.prog X.w) (J3.kIn) LT hb1).here ?_)
        cases b with
        | true =>
          refine codeAny_handlers_suite_as (land4 fun h4 S4 => ?_)
          refine store_ok (X := X.suite a (X.pn ++ pins)) (v := .ref a) S4 hN hi (.inl hln) rfl (fun s5 S5 => ?_) (.inr hln)
          refine wpAny_mono (hyes rfl a (X.pn ++ pins) na [] s5 S5) (fun f s6 hsp => ?_) (fun _ _ z => False.elim z)
          have end_ : ∀ {σ6 : L2.St} {H6 : Hp} {Q : Shared → Prop}, Inv (X.suite a (X.pn ++ pins)) [] σ6 H6 s6 → (∀ s7, Inv X pins (σ6.set i none) H6 s7 → Q s7) →
              wpAny (model X.prog X.w) X.A (do bindName X.env nm .none; unbindBehindTheSuite X.env nm pos') (fun _ s7 => Q s7) X.xe s6 := fun {σ6 H6 Q} S6 hq => gone_ok (Inv_unsuite S6 ok) hN hi hln hq
          cases f with
          | next => obtain ⟨σ6, H6, S6, q6⟩ := hsp; exact end_ S6 fun s7 J7 => ⟨_, _, J7, q6⟩
          | brk => obtain ⟨σ6, H6, S6, q6⟩ := hsp; exact end_ S6 fun s7 J7 => ⟨_, _, J7, q6⟩
          | cont => obtain ⟨σ6, H6, S6, q6⟩ := hsp; exact end_ S6 fun s7 J7 => ⟨_, _, J7, q6⟩
          | ret u => obtain ⟨v6, σ6, H6, S6, r6, q6⟩ := hsp; exact end_ S6 fun s7 J7 => ⟨_, _, _, J7, r6, q6⟩
        | false =>
          show wpAny _ X.A (handleBy (.ref a) X.env hds2) _ _ _
          exact ih (hno rfl)
    exact go hh w
  · cases f with
    | next => obtain ⟨σ', H', J', q⟩ := hsp; exact wpAny_execs_nil ⟨σ', H', J'.ofTry ok, q⟩
    | brk => obtain ⟨σ', H', J', q⟩ := hsp; exact ⟨σ', H', J'.ofTry ok, q⟩
    | cont => obtain ⟨σ', H', J', q⟩ := hsp; exact ⟨σ', H', J'.ofTry ok, q⟩
    | ret u => obtain ⟨v, σ', H', J', r, q⟩ := hsp; exact ⟨v, σ', H', J'.ofTry ok, r, q⟩
end
/-! ### try over the judgements -/
def setN (n : Nm) (i : Option Nat) (e : Option Ent) : Nm := match i with
  | some i => n.set i e
  | none => n
def endT (i : Option Nat) (P : KS) : KS := fun o => match o with
  | .nx n m => P (.nx (setN n i none) m)
  | .rt r m => P (.rt r m)
  | .bk n m => P (.bk (setN n i none) m)
  | .ct n m => P (.ct (setN n i none) m)
/-- a suite's context -/
abbrev SuX (X : Cz) (a : Addr) (pn : List (Addr × Obj)) : Cz := ⟨X.toCx.suite a pn, fun _ _ _ _ => False⟩
/-- where an exception of the body goes -/
def Zh (X : Cz) (P : KS) : List Hd → KX
  | [] => X.Z
  | ⟨c, i, su⟩ :: r => fun cls d n m => ∃ b, PySem.W.exmOne X.K cls c = some b ∧ (b = true → ∀ a pn, m a = none → WB (SuX X a pn) su (setN n i (some (.x a))) (m.put a (.err cls d)) (endT i P)) ∧ (b = false → Zh X P r cls d n m)
/-- a try's body -/
abbrev TrX (X : Cz) (pn : List (Addr × Obj)) (xe : Value → Shared → Prop) (Zx : KX) : Cz := ⟨X.toCx.tr pn xe, Zx⟩
theorem XC.tr {X : Cz} {k : Nat} {pn : List (Addr × Obj)} {xe : Value → Shared → Prop} {Zx : KX} (c : XC X k) (hp : PassesOwn (model X.prog X.w) X.A X.env xe) : XC (TrX X pn xe Zx) k := ⟨c.calm, c.nd, c.room, c.guards, hp⟩
section
variable {X : Cz} {n : Nm} {m : Mem} {P : KS} {body : List Stmt} {h₀ : ExceptHandler} {hds : List ExceptHandler} {l : List Hd} {pos : Pos}
theorem slots_setO {K : PySem.W.Frag} {F : Hp} {σ : L2.St} {n : Nm} (h : Slots K F σ n) (i : Option Nat) {v : V} {e : Ent} (r : EntOk K F v e) : Slots K F (setO σ i (some v)) (setN n i (some e)) := match i with
  | some _ => h.set r
  | none => h
theorem slots_offO {K : PySem.W.Frag} {F : Hp} {σ : L2.St} {n : Nm} (h : Slots K F σ n) (i : Option Nat) : Slots K F (setO σ i none) (setN n i none) := match i with
  | some i => slots_none h i
  | none => h
theorem zh_w {F : Hp} {H : Hp} : ∀ (l : List Hd) {cls : Value} {d : Option Addr} {σ : L2.St} {H' : Hp} {F' : Hp} {n' : Nm} {m' : Mem}, Zh X P l cls d n' m' → Slots X.K F' σ n' → MOk X.K F' m' H' → Step F m H F' m' H' →
    wHds X.toCx (PostX X F m H) (PostS X F m H P) l cls d σ H'
  | [], _, _, _, _, F', n', m', z, sl, ok, st => ⟨F', n', m', z, sl, ok, st⟩
  | ⟨c, i, su⟩ :: r, cls, d, σ, H', F', n', m', ⟨b, e, yes, no⟩, sl, ok, st => ⟨b, e, fun hb a pn na => by
      have ok2 : MOk X.K F' (m'.put a (.err cls d)) (upd H' a (exT a cls d)) := ok.newX na upd_same
      have st2 : Step F m H F' (m'.put a (.err cls d)) (upd H' a (exT a cls d)) := st.trans (Step.newX na)
      have w := yes hb a pn (ok.fresh na) F' (setO σ i (some (.ref a))) _ ok2 ⟨slots_setO sl i rfl, tk0 fun _ _ _ _ z => z⟩
      exact (wpB.after (X := SuX X a pn) st2 w).mono (fun σ' H2 ⟨F2, n2, m2, q, s2, k2, t2⟩ => ⟨F2, _, m2, q, slots_offO s2 i, k2, t2⟩) (fun _ _ q => q) (fun σ' H2 ⟨F2, n2, m2, q, s2, k2, t2⟩ => ⟨F2, _, m2, q, slots_offO s2 i, k2, t2⟩) (fun σ' H2 ⟨F2, n2, m2, q, s2, k2, t2⟩ => ⟨F2, _, m2, q, slots_offO s2 i, k2, t2⟩),
      fun hb => zh_w r (no hb) sl ok st⟩
theorem ws_try (hs0 : X.stack = X.env :: X.outer) (hf : X.env.frame = some X.env.locals) (hex : X.ex = []) (hN : X.N.Nodup) (hh : HdsW X.toCx (h₀ :: hds) l)
    (h : ∀ pn xe, PassesOwn (model X.prog X.w) X.A X.env xe → WB (TrX X pn xe (Zh X P l)) body n m P) : WS X (.Try body (h₀ :: hds) [] [] pos) n m P := fun F σ H hm hs => by
  refine wpS.of (ps_tryZ hs0 hf hex hN hs.tk (tb := fun W D σ H => ∀ pn xe, Takes (X.toCx.tr pn xe) W → PassesOwn (model X.prog X.w) X.A X.env xe → wpB (X.toCx.tr pn xe) body D σ H) (fun W pn xe tk hp => ⟨fun pins s σ H D I q => q pn xe tk hp pins s I⟩) hh) fun pn xe tk hp => ?_
  exact h pn xe hp F σ H hm ⟨hs.sl, Takes.imp tk fun cls d σ' H' ⟨F', n', m', z, sl, ok, st⟩ => zh_w l z sl ok st⟩
end

/-! ### a caught exception's fields -/
def tXT (K : PySem.W.Frag) (f : Str) (te : TE) : TE := fun σ H Q => te σ H fun x H1 => ∃ (a C d : Addr) (fs : List (Str × V)) (v : V), x = .ref a ∧ H1 a = some (exT a (.ref C) (some d)) ∧ H1 d = some (.xd fs) ∧ XfC K C ∧ PySem.W.findIn K (.ref C) f = some none ∧ fs.lookup f = some v ∧ Q v H1
theorem pe_xT {X : Cx} {e : Expr} {te : TE} {pos : Pos} {f : Str} (he : PE X e te) (hb : attributeBase e f X.env (eval e X.env) = eval e X.env := by rfl) : PE X (.Attribute e f pos) (tXT X.K f te) := by
  refine ⟨fun pins s σ H Q I h => attr_of hb (thn (he.run pins s σ H _ I h) fun u s1 ⟨x, H1, I1, rx, a, C, d, fs, v, ex, ha, hd, T, hno, l, q⟩ => ?_)⟩
  subst ex
  obtain rfl : u = Value.ref a := rx
  obtain ⟨⟨oe, vs, h1, hz, h2⟩, _⟩ := (show ObjOk X.prog X.w H1 s1.heap a (exT a (.ref C) (some d)) from I1.hok a _ ha)
  obtain ⟨mA, hns, hr⟩ := (show ObjOk X.prog X.w H1 s1.heap d (.xd fs) from I1.hok d _ hd)
  obtain ⟨od, ho, hl⟩ := lookIn_ns hns
  obtain ⟨u, hu, ru⟩ := RelO.some_of (v := v) (o := mA f) (by rw [← l]; exact hr f)
  have J : PySem.W.InstAt s1.heap a oe C (some od) := ⟨h1, hz.1, by unfold PySem.W.notCls; rw [h2] <;> rfl, by rw [hz.2]; exact ho⟩
  exact HandSPX.exc_get I1.kIn J T.ga T.gg T.exC (PySem.W.findObj_own T.hdC hno rfl (by rw [hl, hu])) (handed_of ru) ⟨v, H1, I1.tok _, ru, q⟩
theorem we_xT {X : Cz} {o : Expr} {pos : Pos} {f : Str} {n : Nm} {m : Mem} {K : KE} (h : WE X o n m fun x m1 => ∃ a C d fs e, x = .x a ∧ m1 a = some (.err (.ref C) (some d)) ∧ m1 d = some (.exc fs) ∧ XfC X.K C ∧ PySem.W.findIn X.K (.ref C) f = some none ∧ fs.lookup f = some e ∧ K e m1)
    (hb : attributeBase o f X.env (eval o X.env) = eval o X.env := by rfl) : WE X (.Attribute o f pos) n m K := fun F σ H hm hs =>
  wpE.of (pe_xT pe_wp hb) (h.go hm hs fun F1 v H1 x m1 ⟨a, C, d, fs, e, ex, ha, hd, T, na, lk, hk⟩ ok1 hm1 st1 hs1 => by
    subst ex
    have ev : v = .ref a := ok1
    obtain ⟨ys, hy, pr⟩ := hm1.obj d _ hd
    obtain ⟨u, l, ok⟩ := pr_lookup pr lk
    exact ⟨a, C, d, ys, u, ev, hm1.obj a _ ha, hy, T, na, l, PostE.after st1 (PostE.here hk ok hm1)⟩)
end Z

/-! Z10: comprehensions that change nothing, by their functions. -/
namespace Z
open PySem PySem.Spec L2
set_option linter.all false
section
variable {X : Cz} {tg iter elt c : Expr} {scope : Scope} {vs : List Nat} {n : Nm} {m : Mem} {α : Type} {Z : List Ent → Mem → Prop}
theorem WI.mono {K K' : List PyData → Mem → Prop} (h : WI X tg iter n m K) (k : ∀ ds m1, K ds m1 → K' ds m1) : WI X tg iter n m K' := fun F σ H hm hs => (h F σ H hm hs).mono fun J H' ⟨F1, m1, ds, q, z⟩ => ⟨F1, m1, ds, k ds m1 q, z⟩
theorem map_get {β : Type} {f : α → β} {xs : List α} {i : Nat} {d : β} (h : (xs.map f)[i]? = some d) : ∃ x, xs[i]? = some x ∧ d = f x := by
  rw [List.getElem?_map] at h
  cases e : xs[i]? with
  | none => rw [e] at h; cases h
  | some x => rw [e] at h; cases h; exact ⟨x, rfl, rfl⟩
/-- [f x for x in xs] -/
theorem lc_map (enc : α → PyData) (xs : List α) (f : α → PyData) (h : WI X tg iter n m fun ds m1 => ds = xs.map enc ∧ xs.length < 16777216 ∧
    (∀ (i : Nat) x, xs[i]? = some x → ∀ s0 H0 C cl fp, WG (Bk X scope s0 H0 C cl fp) tg vs (.d (enc x)) (wipeN n vs) fun n2 => ∀ s0 H0 C cl fp, WE (Bk X scope s0 H0 C cl fp) elt n2 m1 fun r m3 => r = .d (f x) ∧ m3 = m1) ∧
    Z ((xs.map f).map .d) m1) : WI X tg iter n m (LcEnd X tg elt [] scope vs n Z) := h.mono fun ds m1 ⟨e, hl, turn, fin⟩ => by
  subst e
  refine ⟨fun i acc m' => acc = ((xs.take i).map f).map .d ∧ m' = m1, ⟨rfl, rfl⟩, fun i d acc m' hd ⟨e1, e2⟩ => ?_, fun acc m' ⟨e1, e2⟩ => ?_⟩
  · subst e1 e2
    obtain ⟨x, hx, rfl⟩ := map_get hd
    refine ⟨by rw [List.length_map, List.length_map]; exact Nat.lt_of_le_of_lt (by rw [List.length_take]; exact Nat.min_le_right _ _) hl, fun s0 H0 C cl fp => ?_⟩
    refine fun F σ H v hi ok hs => (turn i x hx s0 H0 C cl fp F σ H v hi ok hs).mono fun σ' H' ⟨q1, q2, n', w, s'⟩ => ⟨q1, q2, n', fun s0 H0 C cl fp => ?_, s'⟩
    exact ⟨fun _ s0 H0 C cl fp => (w s0 H0 C cl fp).mono fun r m3 ⟨z1, z2⟩ => ⟨by rw [List.take_add_one, hx, z1]; simp, z2⟩, fun z => Bool.noConfusion z⟩
  · subst e1 e2
    rw [List.length_map, List.take_length]
    exact fin
/-- [f x for x in xs if p x] -/
theorem lc_filt (enc : α → PyData) (xs : List α) (p : α → Bool) (f : α → PyData) (h : WI X tg iter n m fun ds m1 => ds = xs.map enc ∧ xs.length < 16777216 ∧
    (∀ (i : Nat) x, xs[i]? = some x → ∀ s0 H0 C cl fp, WG (Bk X scope s0 H0 C cl fp) tg vs (.d (enc x)) (wipeN n vs) fun n2 => ∀ s0 H0 C cl fp, WT (Bk X scope s0 H0 C cl fp) c n2 m1 fun b m2 => b = p x ∧ m2 = m1 ∧
      (b = true → ∀ s0 H0 C cl fp, WE (Bk X scope s0 H0 C cl fp) elt n2 m1 fun r m3 => r = .d (f x) ∧ m3 = m1)) ∧
    Z (((xs.filter p).map f).map .d) m1) : WI X tg iter n m (LcEnd X tg elt [c] scope vs n Z) := h.mono fun ds m1 ⟨e, hl, turn, fin⟩ => by
  subst e
  refine ⟨fun i acc m' => acc = (((xs.take i).filter p).map f).map .d ∧ m' = m1, ⟨rfl, rfl⟩, fun i d acc m' hd ⟨e1, e2⟩ => ?_, fun acc m' ⟨e1, e2⟩ => ?_⟩
  · subst e1 e2
    obtain ⟨x, hx, rfl⟩ := map_get hd
    refine ⟨?_, fun s0 H0 C cl fp => ?_⟩
    · rw [List.length_map, List.length_map]
      exact Nat.lt_of_le_of_lt (Nat.le_trans (List.length_filter_le _ _) (by rw [List.length_take]; exact Nat.min_le_right _ _)) hl
    refine fun F σ H v hi ok hs => (turn i x hx s0 H0 C cl fp F σ H v hi ok hs).mono fun σ' H' ⟨q1, q2, n', w, s'⟩ => ⟨q1, q2, n', fun s0 H0 C cl fp => ?_, s'⟩
    refine (w s0 H0 C cl fp).mono fun b m2 ⟨z1, z2, z3⟩ => ⟨fun hb s0 H0 C cl fp => ?_, fun hb => ⟨?_, z2⟩⟩
    · subst z2
      refine (z3 hb s0 H0 C cl fp).mono fun r m3 ⟨y1, y2⟩ => ⟨?_, y2⟩
      rw [hb] at z1
      rw [List.take_add_one, hx, y1]
      simp [← z1]
    · rw [hb] at z1
      rw [List.take_add_one, hx]
      simp [← z1]
  · subst e1 e2
    rw [List.length_map, List.take_length]
    exact fin
/-- ints of a range as a map -/
theorem intsD_map (lo : Int) (k : Nat) : intsD lo k = (List.range k).map fun i : Nat => PyData.int (lo + (i : Int)) := rfl
theorem enumD_map (enc : α → PyData) (xs : List α) : enumD (xs.map enc) = (xs.zipIdx).map fun p => .tuple [.int (p.2 : Int), enc p.1] := by
  unfold enumD
  apply List.ext_getElem?
  intro i
  rw [List.getElem?_mapIdx, List.getElem?_map, List.getElem?_map, List.getElem?_zipIdx]
  cases xs[i]? <;> simp
theorem zipD_map {β : Type} (enc : α → PyData) (enc2 : β → PyData) (xs : List α) (ys : List β) : zipD (xs.map enc) (ys.map enc2) = (xs.zip ys).map fun p => .tuple [enc p.1, enc2 p.2] := by
  unfold zipD
  rw [List.zipWith_map, List.zip, List.map_zipWith]
end
end Z

/-! Z11: list.index, xs[i] += e, lists of lists that become data. -/
namespace Z
open PySem PySem.Spec L2
set_option linter.all false
section
variable {X : Cz} {e o i : Expr} {es : List Expr} {n : Nm} {m : Mem} {K : KE} {P : KS} {pos apos : Pos}
theorem index_I {x : Ent} {xs : List Int} {y : Int} {j : Nat} (hx : Dat m x (.list (xs.map .int))) (h1 : xs[j]? = some y) (h2 : ∀ k z, k < j → xs[k]? = some z → z ≠ y) (k : K (.d (.int (j : Int))) m) : BMW X (rIndex X.K) x [.d (.int y)] m K := fun F H v vs hm ok ok2 Q q => by
  obtain ⟨w, rfl, okw⟩ := ok2.one
  obtain rfl := EntOk.int okw
  obtain ⟨p, us, rfl, s, r⟩ := hx.sqL hm ok
  have e := ints_of r
  subst e
  refine ⟨p, _, .int y, j, .int y, rfl, rfl, s, rfl, ?_, by rw [List.getElem?_map, h1]; rfl, by simp [eqV], fun k z hk hz => ?_, q _ _ (PostE.here k (Rp.int _) hm)⟩
  · rw [List.all_map]
    exact List.all_eq_true.mpr fun _ _ => rfl
  · rw [List.getElem?_map] at hz
    cases hq : xs[k]? with
    | none => rw [hq] at hz; cases hz
    | some u =>
      rw [hq] at hz
      cases hz
      have := h2 k u hk hq
      simpa [eqV] using this
theorem we_index (h : WE X o n m fun x m1 => TyW X "list" x m1 ∧ WA X (e :: es) n m1 fun rs m2 => BMW X (rIndex X.K) x rs m2 K)
    (hbase : attributeBase o "index" X.env (eval o X.env) = eval o X.env := by rfl)
    (hfew : ((backTo pos (starEach (e :: es) X.env)).all (fun x => !x.1) && (backToKw pos (keywordEach [] X.env)).all (fun x => x.1.isSome)
      && decide ((e :: es).length + ([] : List Keyword).length + (if ([] : List Keyword).isEmpty then 0 else 1) < 30)) = true := by rfl)
    (hline : (apos.endLine == pos.line) = true := by rfl) (hs0 : starEach (e :: es) X.env = (false, eval e X.env) :: starEach es X.env := by rfl) (hpl : (backTo pos (starEach es X.env)).any (·.1) = false := by rfl) :
    WE X (.Call (.Attribute o "index" apos) (e :: es) [] pos) n m K := we_bm PySem.F.plainAttrs_list PySem.F.slot_list_index PySem.F.type_list_index mt_index h hbase hfew hline hs0 hpl
/-! ### xs[i] += e -/
def rGetZ (K : PySem.W.Frag) : V → V → Hp → VK → Prop := fun x y H Q => ∃ (p : Addr) (xs : List V) (i : Nat) (v : V), x = .ref p ∧ y = .int (i : Int) ∧ SqL K H p xs ∧ xs[i]? = some v ∧ Q v H
theorem get_listZ {X : Cx} : PGet X (rGetZ X.K) := by
  intro pins s σ H x y v u Q I rx ry ⟨p, xs, i, z, e1, e2, hq, he, q⟩
  subst e1 e2
  cases rx
  obtain ⟨t, rfl⟩ := ry
  obtain ⟨its, r, pl, hz⟩ := I.list hq
  obtain ⟨w, ew, rw'⟩ := r.get he
  have hi := (List.getElem?_eq_some_iff.mp he).1
  have hn := line63
  exact PySem.wpAny_getItem_list (Q := EP X pins σ Q) pl.isList (by omega) (by omega) (by simpa using ew) ⟨z, H, I, rw', q⟩
theorem ws_augix {tpos : Pos} (h : WE X o n m fun x m1 => WE X i n m1 fun k m2 => ∃ (p : Addr) (es : List Ent) (j : Nat) (a : Int), x = .x p ∧ k = .d (.int (j : Int)) ∧ m2 p = some (.lst es) ∧ es[j]? = some (.d (.int a)) ∧ WE X e n m2 fun r m3 => ∃ (es3 : List Ent) (b : Int), m3 p = some (.lst es3) ∧ j < es3.length ∧ r = .d (.int b) ∧ P (.nx n (m3.put p (.lst (es3.set j (.d (.int (a + b))))))))
    (ha : ∀ ov iv new, augStore i ov iv new = (do holding [new, ov, iv] (setItem ov iv new); release [new, ov, iv] []; pure .next) := by intros; rfl) : WS X (.AugAssign (.Subscript o i tpos) .Add e pos) n m P := fun F σ H hm hs =>
  wpS.of (ps_augS pe_wp pe_wp get_listZ pe_wp ip_add set_list ha) (h.go hm hs fun F1 ov H1 x m1 k1 ok1 hm1 st1 hs1 => k1.go hm1 hs1 fun F2 iv H2 y m2 k2 ok2 hm2 st2 hs2 => by
    obtain ⟨p, es, j, a, rfl, rfl, hp, hj, k3⟩ := k2
    obtain ⟨xs, hx, rr⟩ := hm2.obj p _ hp
    obtain ⟨w, hw, okw⟩ := ents_get rr hj
    obtain rfl := EntOk.int okw
    have e1 : ov = .ref p := ok1
    subst e1
    refine ⟨p, xs, j, .int a, rfl, ok2.int, .inl (.inl hx), hw, k3.go hm2 hs2 fun F3 v H3 r m3 k4 ok3 hm3 st3 hs3 => ?_⟩
    obtain ⟨es3, b, hp3, hl3, rfl, k5⟩ := k4
    obtain ⟨xs3, hx3, rr3⟩ := hm3.obj p _ hp3
    have hlx : j < xs3.length := by rw [Paired.length rr3]; exact hl3
    refine ⟨a, b, rfl, ok3.int, p, xs3, j, j, rfl, ok2.int, hx3, ?_, (show PostN X F m H _ _ _ from ⟨F3, n, _, k5, hs3.sl, hm3.mut hp3 ⟨_, upd_same, ?_⟩, ((st1.trans st2).trans st3).trans (Step.mut hp3)⟩)⟩
    · unfold ixN
      simp [hlx]
    · exact ws_setix.ents_set rr3 j (Rp.int (a + b)))
end

/-! ### lists of lists become data -/
section
variable {K : PySem.W.Frag} {n : Nm} {m : Mem}
def Mem.dropL (m : Mem) (ps : List Addr) : Mem := fun b => if b ∈ ps then none else m b
theorem MOk.freezeL {K : PySem.W.Frag} : ∀ (qs : List (Addr × List PyData)) {F H : Hp} {m : Mem}, MOk K F m H → (∀ q ∈ qs, m q.1 = some (.lst (q.2.map .d))) → (qs.map (·.1)).Nodup →
    ∃ F', MOk K F' (m.dropL (qs.map (·.1))) H ∧ Step F m H F' (m.dropL (qs.map (·.1))) H ∧ ∀ q ∈ qs, Rp K F' (.ref q.1) (.list q.2)
  | [], F, H, m, hm, _, _ => ⟨F, by
      have e : m.dropL [] = m := by funext b; simp [Mem.dropL]
      show MOk K F (m.dropL []) H ∧ Step F m H F (m.dropL []) H ∧ _
      rw [e]
      exact ⟨hm, .refl, fun _ h => by simp at h⟩⟩
  | q :: qs, F, H, m, hm, hq, nd => by
    obtain ⟨F1, hm1, st1, r1⟩ := hm.freeze (hq q (by simp))
    rw [List.map_cons, List.nodup_cons] at nd
    obtain ⟨F2, hm2, st2, r2⟩ := MOk.freezeL qs hm1 (fun u hu => by
      have hne : u.1 ≠ q.1 := fun z => nd.1 (by rw [← z]; exact List.mem_map_of_mem hu)
      unfold Mem.drop
      rw [if_neg hne]
      exact hq u (List.mem_cons_of_mem _ hu)) nd.2
    have e : (m.drop q.1).dropL (qs.map (·.1)) = m.dropL ((q :: qs).map (·.1)) := by
      funext b
      simp only [Mem.dropL, Mem.drop, List.map_cons, List.mem_cons]
      by_cases h1 : b = q.1
      · simp [h1]
      · by_cases h2 : b ∈ qs.map (·.1)
        · simp [h2]
        · simp [h1, h2]
    rw [e] at hm2 st2
    exact ⟨F2, hm2, st1.trans st2, fun u hu => by
      rcases List.mem_cons.mp hu with rfl | hu
      · exact Rp.inc st2.fr r1
      · exact r2 u hu⟩
theorem rf_deep {p : Addr} {qs : List (Addr × List PyData)} (hp : m p = some (.lst (qs.map fun q => .x q.1))) (hq : ∀ q ∈ qs, m q.1 = some (.lst (q.2.map .d))) (nd : (qs.map (·.1)).Nodup) (hne : p ∉ qs.map (·.1)) :
    Rf K n m (n.map (fzE p (.list (qs.map fun q => .list q.2)))) ((m.dropL (qs.map (·.1))).drop p) := fun F H σ hm hs => by
  obtain ⟨F1, hm1, st1, r1⟩ := MOk.freezeL qs hm hq nd
  have hp1 : (m.dropL (qs.map (·.1))) p = some (.lst (qs.map fun q => .x q.1)) := by
    unfold Mem.dropL
    rw [if_neg hne]
    exact hp
  obtain ⟨xs, hx, rr⟩ := hm1.obj p _ hp1
  have rr2 : ∀ {qs : List (Addr × List PyData)} {xs : List V}, (∀ q ∈ qs, Rp K F1 (.ref q.1) (.list q.2)) → Ents K F1 xs (qs.map fun q => .x q.1) → Ents K F1 xs ((qs.map fun q => PyData.list q.2).map .d) := by
    intro qs
    induction qs with
    | nil => intro xs _ h; cases h; exact .nil
    | cons q qs ih =>
      intro xs hq h
      cases h with
      | cons r t =>
        refine .cons ?_ (ih (fun u hu => hq u (List.mem_cons_of_mem _ hu)) t)
        have e : _ = V.ref q.1 := r
        rw [e]
        exact hq q (by simp)
  have hm2 : MOk K F1 ((m.dropL (qs.map (·.1))).put p (.lst ((qs.map fun q => PyData.list q.2).map .d))) H := by
    refine ⟨hm1.sub, fun a o e => ?_, fun a o e => ?_⟩
    · by_cases ha : a = p
      · subst ha; exact hm1.out a _ hp1
      · rw [Mem.put_ne ha] at e; exact hm1.out a o e
    · by_cases ha : a = p
      · subst ha
        rw [Mem.put_same] at e
        cases e
        exact ⟨xs, hx, rr2 r1 rr⟩
      · rw [Mem.put_ne ha] at e
        exact hm1.obj a o e
  have st2 : Step F1 (m.dropL (qs.map (·.1))) H F1 ((m.dropL (qs.map (·.1))).put p (.lst ((qs.map fun q => PyData.list q.2).map .d))) H := by
    refine ⟨fun _ _ h => h, fun _ _ e _ => e, fun _ e z => absurd e z, fun a e z => ?_⟩
    by_cases ha : a = p
    · subst ha; rw [hp1] at e; cases e
    · rw [Mem.put_ne ha] at z; exact absurd e z
  have hs1 : Slots K F1 σ n := hs.inc st1.fr
  obtain ⟨F3, hm3, st3, hs3⟩ := rf_list (n := n) (Mem.put_same (m := m.dropL (qs.map (·.1))) (a := p)) F1 H σ hm2 hs1
  have e : ((m.dropL (qs.map (·.1))).put p (.lst ((qs.map fun q => PyData.list q.2).map .d))).drop p = (m.dropL (qs.map (·.1))).drop p := by
    funext b
    by_cases hb : b = p <;> simp [Mem.drop, Mem.put, hb]
  rw [e] at hm3 st3
  exact ⟨F3, hm3, (st1.trans st2).trans st3, hs3⟩
theorem rf_sub {m' : Mem} (h : Mem.Sub m' m) : Rf K n m n m' := fun F H σ hm hs => ⟨F, hm.less h, Step.sub h, hs⟩
end
/-! ### a promise, weaker -/
/-- a value and the memory, read otherwise -/
def RfE (K : PySem.W.Frag) (r : Ent) (m : Mem) (r2 : Ent) (m2 : Mem) : Prop := ∀ F H v, MOk K F m H → EntOk K F v r → ∃ F', MOk K F' m2 H ∧ Step F m H F' m2 H ∧ EntOk K F' v r2
theorem RfE.refl {K : PySem.W.Frag} {r : Ent} {m : Mem} : RfE K r m r m := fun F H v hm ok => ⟨F, hm, .refl, ok⟩
theorem RfE.of {K : PySem.W.Frag} {m m2 : Mem} {r r2 : Ent} (h : Rf K [some r] m [some r2] m2) : RfE K r m r2 m2 := fun F H v hm ok => by
  obtain ⟨F', hm2, st, sl⟩ := h F H [some v] hm ⟨rfl, fun i e q => by
    match i, q with
    | 0, q => cases q; exact ⟨v, rfl, ok⟩⟩
  obtain ⟨v', e, ok2⟩ := sl.2 0 r2 rfl
  cases e
  exact ⟨F', hm2, st, ok2⟩
theorem Av.weak {P : Program} {w : World} {K : PySem.W.Frag} {mg : Str → Option Value} {base : Heap} {k : Nat} {x : Str} {ps : List Str} {S S' : Prm} (av : Av P w K mg base k x ps S)
    (h : ∀ i' m, S'.pre i' m → ∃ i, S.args i = S'.args i' ∧ S.pre i m ∧ (∀ r m', S.post i m r m' → ∃ r2 m2, S'.post i' m r2 m2 ∧ RfE K r m' r2 m2) ∧ ∀ c d m', S.exc i m c d m' → S'.exc i' m c d m') : Av P w K mg base k x ps S' := by
  obtain ⟨f, fd, G, rest⟩ := av
  have go : ∀ vs H Q E, spW K S' vs H Q E → spW K S vs H Q E := fun vs H Q E ⟨i', F, m, a, hm, pre, post, exc⟩ => by
    obtain ⟨i, ea, pr, po, ex⟩ := h i' m pre
    refine ⟨i, F, m, by rw [ea]; exact a, hm, pr, fun F' r m' v H' q ok hm' st => ?_, fun F' c d m' H' q hm' st => exc F' c d m' H' (ex c d m' q) hm' st⟩
    obtain ⟨r2, m2, q2, rf⟩ := po r m' q
    obtain ⟨F2, hm2, st2, ok2⟩ := rf F' H' v hm' ok
    exact post F2 r2 m2 v H' q2 ok2 hm2 (st.trans st2)
  exact ⟨f, fd, ⟨fun vs H Q E z => G.len vs H Q E (go vs H Q E z), fun A outer s H args us vs Q E a b c d e z => G.run A outer s H args us vs Q E a b c d e (go vs H Q E z)⟩, rest⟩
end Z

/-! Z12: is of truth values, sorted ints. -/
namespace Z
open PySem PySem.Spec L2
set_option linter.all false
section
variable {X : Cz} {m : Mem} {K : KE} {x : Ent}
theorem is_B {a b : Bool} (k : K (.d (.bool (decide (a = b)))) m) : R2W X rIsB (.d (.bool a)) (.d (.bool b)) m K := fun F H v u hm h1 h2 Q q => ⟨a, b, h1.bl, h2.bl, q _ _ (PostE.here k (Rp.bl _) hm)⟩
theorem not_B {a b : Bool} (k : K (.d (.bool (!decide (a = b)))) m) : R2W X rNotB (.d (.bool a)) (.d (.bool b)) m K := fun F H v u hm h1 h2 Q q => ⟨a, b, h1.bl, h2.bl, q _ _ (PostE.here k (Rp.bl _) hm)⟩
theorem wt_is {e : Expr} {n : Nm} {b : Bool} {K : Bool → Mem → Prop} (h : WT X e n m fun c m1 => c = b ∧ m1 = m) (k : K b m) : WT X e n m K := h.mono fun c m1 ⟨e1, e2⟩ => by subst e1 e2; exact k
/-- the ints in order -/
def sortI (ns : List Int) : List Int := ns.mergeSort fun a b => decide (a ≤ b)
theorem sortI_perm (ns : List Int) : (sortI ns).Perm ns := List.mergeSort_perm _ _
theorem sortI_pw (ns : List Int) : (sortI ns).Pairwise (· ≤ ·) := by
  have h := List.pairwise_mergeSort (le := fun a b : Int => decide (a ≤ b)) (fun a b c h1 h2 => by simp at *; omega) (fun a b => by simp; omega) ns
  exact h.imp fun h => by simpa using h
theorem sortI_of {ns ks : List Int} (h : ks.Perm ns) (hp : ks.Pairwise (· ≤ ·)) : ks = sortI ns :=
  (h.trans (sortI_perm ns).symm).eq_of_pairwise (fun a b _ _ h1 h2 => Int.le_antisymm h1 h2) hp (sortI_pw ns)
theorem sorted_I {ns : List Int} (hx : Dat m x (.list (ns.map .int))) (k : K (.d (.list ((sortI ns).map .int))) m) : RCW X (rSortedI X.K) [x] m K := fun F H vs hm h Q q => by
  obtain ⟨v, rfl, ok⟩ := h.one
  obtain ⟨p, us, rfl, s, r⟩ := hx.sqL hm ok
  have e := ints_of r
  subst e
  exact ⟨p, ns, rfl, s, fun ns' l hp hs hl => by
    have e := sortI_of hp hs
    subst e
    exact q _ _ (post_L hm hl (rp_ints _) k)⟩
theorem sorted_IX {ns : List Int} (hx : Dat m x (.list (ns.map .int))) (k : ∀ p, m p = none → K (.x p) (m.put p (.lst (List.map .d ((sortI ns).map .int))))) : RCW X (rSortedI X.K) [x] m K := fun F H vs hm h Q q => by
  obtain ⟨v, rfl, ok⟩ := h.one
  obtain ⟨p, us, rfl, s, r⟩ := hx.sqL hm ok
  have e := ints_of r
  subst e
  exact ⟨p, ns, rfl, s, fun ns' l hp hs hl => by
    have e := sortI_of hp hs
    subst e
    exact q _ _ (post_X hm hl (RpAll.ents (rp_ints _)) k)⟩
end
end Z

namespace T
open PySem PySem.Spec L2 Z
local macro_rules | `(tactic| walk_at "zloc") => `(tactic| first | exact Or.inl rfl | exact Or.inr rfl)
local macro_rules | `(tactic| walk_at "zmem") => `(tactic| first | exact Mem.put_same | assumption | (refine (Mem.put_ne (by first | assumption | exact Ne.symm (by assumption))).trans ?_; walk_at "zmem"))
local macro_rules | `(tactic| walk_at "zdat") => `(tactic| first | exact Dat.d | exact Dat.ex (by walk_at "zmem") | assumption)
local macro_rules | `(tactic| walk_at "zds") => `(tactic| first | exact Or.inr rfl | exact Or.inl (by walk_at "zdat"))
local macro_rules | `(tactic| walk_at "zty") => `(tactic| first | exact ty_S | exact ty_X (by walk_at "zmem") | exact ty_L (by walk_at "zdat"))
local macro_rules | `(tactic| walk_at "zsm") => `(tactic| first | omega | exact CMulZ.small (by omega) (by omega) | exact wide_div (b := 60) (by omega) (by omega) (by decide) (by decide) | exact ⟨by decide, by decide, by decide⟩)
local macro_rules | `(tactic| walk_at "zln") => `(tactic| first | (simp only [List.length_cons, List.length_nil, List.length_append, List.length_map]; omega) | omega)
local macro_rules | `(tactic| walk_at "z+") => `(tactic| first | refine add_I ?_ | refine add_T (by walk_at "zln") ?_ | refine add_L (by walk_at "zdat") (by walk_at "zdat") (by walk_at "zln") ?_ | refine add_S (by walk_at "zln") ?_)
local macro_rules | `(tactic| walk_at "z[]") => `(tactic| first | refine ix_X (by walk_at "zmem") (by rfl) ?_ | refine ix_T (by rfl) ?_ | refine ix_L (by walk_at "zdat") (by rfl) ?_)
local macro_rules | `(tactic| walk_at "z:") => `(tactic| first | refine sl_T ?_ | refine sl_L (by walk_at "zdat") ?_)
local macro_rules | `(tactic| walk_at "zlen") => `(tactic| first | refine len_T ?_ | refine len_L (by walk_at "zdat") ?_ | refine len_X (by walk_at "zmem") ?_)
local macro_rules | `(tactic| walk_at "zabs") => `(tactic| refine abs_I ?_)
local macro_rules | `(tactic| walk_at "zint") => `(tactic| first | refine int_I ?_ | refine int_B ?_)
local macro_rules | `(tactic| walk_at "ztuple") => `(tactic| first | refine tuple_T ?_ | refine tuple_L (by walk_at "zdat") ?_)
local macro_rules | `(tactic| walk_at "zlist") => `(tactic| first | refine list_T ?_ | refine list_L (by walk_at "zdat") ?_)
local macro_rules | `(tactic| walk_at "zin") => `(tactic| first | refine in_T rfl rfl rfl rfl ?_ | refine in_L (by walk_at "zdat") rfl rfl rfl rfl ?_)

def top (i : Nat) : Stmt := PySem.Challenge.pw_spanvault_k09_whole_counters_that_were_r.main.body.getD i (.Pass ⟨0, 0, 0, 0⟩)
abbrev s_NoCourse_init : Stmt := inClass (top 2) 0
abbrev n_NoCourse_init : List Str := ["self", "increase"]
abbrev p_NoCourse_init : List Str := ["self", "increase"]
theorem sc_NoCourse_init : FnScope n_NoCourse_init p_NoCourse_init (defScope s_NoCourse_init) := ⟨rfl, rfl, rfl, by decide +kernel, rfl, by decide +kernel, by decide +kernel⟩
abbrev s_is_integer : Stmt := top 4
abbrev n_is_integer : List Str := ["value"]
abbrev p_is_integer : List Str := ["value"]
theorem sc_is_integer : FnScope n_is_integer p_is_integer (defScope s_is_integer) := ⟨rfl, rfl, rfl, by decide +kernel, rfl, by decide +kernel, by decide +kernel⟩
abbrev s_pairs_of : Stmt := top 5
abbrev n_pairs_of : List Str := ["samples", "k"]
abbrev p_pairs_of : List Str := ["samples"]
theorem sc_pairs_of : FnScope n_pairs_of p_pairs_of (defScope s_pairs_of) := ⟨rfl, rfl, rfl, by decide +kernel, rfl, by decide +kernel, by decide +kernel⟩
abbrev s_digest : Stmt := top 6
abbrev n_digest : List Str := ["samples", "pairs", "increase", "fall", "low", "before", "after"]
abbrev p_digest : List Str := ["samples"]
theorem sc_digest : FnScope n_digest p_digest (defScope s_digest) := ⟨rfl, rfl, rfl, by decide +kernel, rfl, by decide +kernel, by decide +kernel⟩
abbrev s_is_increase_by : Stmt := top 7
abbrev n_is_increase_by : List Str := ["kept", "increase", "first", "last", "least", "fall", "low"]
abbrev p_is_increase_by : List Str := ["kept", "increase"]
theorem sc_is_increase_by : FnScope n_is_increase_by p_is_increase_by (defScope s_is_increase_by) := ⟨rfl, rfl, rfl, by decide +kernel, rfl, by decide +kernel, by decide +kernel⟩
abbrev s_least_increase : Stmt := top 8
abbrev n_least_increase : List Str := ["samples"]
abbrev p_least_increase : List Str := ["samples"]
theorem sc_least_increase : FnScope n_least_increase p_least_increase (defScope s_least_increase) := ⟨rfl, rfl, rfl, by decide +kernel, rfl, by decide +kernel, by decide +kernel⟩
abbrev s_is_increase : Stmt := top 9
abbrev n_is_increase : List Str := ["samples", "increase"]
abbrev p_is_increase : List Str := ["samples", "increase"]
theorem sc_is_increase : FnScope n_is_increase p_is_increase (defScope s_is_increase) := ⟨rfl, rfl, rfl, by decide +kernel, rfl, by decide +kernel, by decide +kernel⟩
abbrev s_plain_path : Stmt := top 10
abbrev n_plain_path : List Str := ["before", "after"]
abbrev p_plain_path : List Str := ["before", "after"]
theorem sc_plain_path : FnScope n_plain_path p_plain_path (defScope s_plain_path) := ⟨rfl, rfl, rfl, by decide +kernel, rfl, by decide +kernel, by decide +kernel⟩
abbrev s_course : Stmt := top 11
abbrev n_course : List Str := ["samples", "increase", "pairs", "found", "more", "places", "low", "place", "before", "after", "k"]
abbrev p_course : List Str := ["samples", "increase"]
theorem sc_course : FnScope n_course p_course (defScope s_course) := ⟨rfl, rfl, rfl, by decide +kernel, rfl, by decide +kernel, by decide +kernel⟩
abbrev s_is_path : Stmt := top 12
abbrev n_is_path : List Str := ["before", "after", "value", "growth"]
abbrev p_is_path : List Str := ["before", "after", "value"]
theorem sc_is_path : FnScope n_is_path p_is_path (defScope s_is_path) := ⟨rfl, rfl, rfl, by decide +kernel, rfl, by decide +kernel, by decide +kernel⟩
abbrev s_is_course : Stmt := top 13
abbrev n_is_course : List Str := ["samples", "value", "pairs", "path", "before", "after"]
abbrev p_is_course : List Str := ["samples", "value"]
theorem sc_is_course : FnScope n_is_course p_is_course (defScope s_is_course) := ⟨rfl, rfl, rfl, by decide +kernel, rfl, by decide +kernel, by decide +kernel⟩
abbrev s_increase_of : Stmt := top 14
abbrev n_increase_of : List Str := ["paths", "path"]
abbrev p_increase_of : List Str := ["paths"]
theorem sc_increase_of : FnScope n_increase_of p_increase_of (defScope s_increase_of) := ⟨rfl, rfl, rfl, by decide +kernel, rfl, by decide +kernel, by decide +kernel⟩
abbrev s_l_feed : Stmt := top 16
abbrev n_l_feed : List Str := ["_law_script", "_law_index", "_law_cell", "_law_great", "_law_mixed"]
abbrev p_l_feed : List Str := ["_law_script", "_law_index"]
theorem sc_l_feed : FnScope n_l_feed p_l_feed (defScope s_l_feed) := ⟨rfl, rfl, rfl, by decide +kernel, rfl, by decide +kernel, by decide +kernel⟩
abbrev s_l_take : Stmt := top 17
abbrev n_l_take : List Str := ["_law_feed_here", "_law_size", "_law_digit"]
abbrev p_l_take : List Str := ["_law_feed_here", "_law_size"]
theorem sc_l_take : FnScope n_l_take p_l_take (defScope s_l_take) := ⟨rfl, rfl, rfl, by decide +kernel, rfl, by decide +kernel, by decide +kernel⟩
abbrev s_l_pick : Stmt := top 18
abbrev n_l_pick : List Str := ["_law_feed_here", "_law_options"]
abbrev p_l_pick : List Str := ["_law_feed_here", "_law_options"]
theorem sc_l_pick : FnScope n_l_pick p_l_pick (defScope s_l_pick) := ⟨rfl, rfl, rfl, by decide +kernel, rfl, by decide +kernel, by decide +kernel⟩
abbrev s_l_drawn_course : Stmt := top 19
abbrev n_l_drawn_course : List Str := ["_law_feed_here", "_law_size", "_law_most", "_law_here", "_law_samples_here", "_law_paths_here", "_law_turn", "_law_growths", "_law_fall"]
abbrev p_l_drawn_course : List Str := ["_law_feed_here", "_law_size", "_law_most"]
theorem sc_l_drawn_course : FnScope n_l_drawn_course p_l_drawn_course (defScope s_l_drawn_course) := ⟨rfl, rfl, rfl, by decide +kernel, rfl, by decide +kernel, by decide +kernel⟩
abbrev s_law : Stmt := top 20
abbrev n_law : List Str := ["_law_script", "_law_index", "_law_feed_here", "_law_samples_here", "_law_paths_here", "_law_total", "_law_least", "_law_shown", "_law_following", "_law_left", "_law_fewer", "_law_sample", "_law_path_here", "_law_n"]
abbrev p_law : List Str := ["_law_script"]
theorem sc_law : FnScope n_law p_law (defScope s_law) := ⟨rfl, rfl, rfl, by decide +kernel, rfl, by decide +kernel, by decide +kernel⟩
structure Txt (K : PySem.W.Frag) (mg : Str → Option Value) (C_NoCourse : Addr) : Prop where
  b_ValueError : mg "ValueError" = none
  b_abs : mg "abs" = none
  b_all : mg "all" = none
  b_any : mg "any" = none
  b_bool : mg "bool" = none
  b_enumerate : mg "enumerate" = none
  b_int : mg "int" = none
  b_isinstance : mg "isinstance" = none
  b_len : mg "len" = none
  b_list : mg "list" = none
  b_max : mg "max" = none
  b_min : mg "min" = none
  b_range : mg "range" = none
  b_sorted : mg "sorted" = none
  b_sum : mg "sum" = none
  b_zip : mg "zip" = none
  mg_NoCourse : mg "NoCourse" = some (.ref C_NoCourse)
  oex_NoCourse : OexC K C_NoCourse
  xf_NoCourse : XfC K C_NoCourse
  na_NoCourse_increase : PySem.W.findIn K (.ref C_NoCourse) "increase" = some none
  i_NoCourse : ∃ fI fd, PySem.W.findIn K (.ref C_NoCourse) "__init__" = some (some (.ref fI)) ∧ PySem.W.typeIn K (.ref fI) = some (.type "function") ∧ Fun K "__init__" "NoCourse.__init__" s_NoCourse_init fI fd
  f_is_integer : ∃ f fd, Fun K "is_integer" "is_integer" s_is_integer f fd ∧ mg "is_integer" = some (.ref f)
  f_pairs_of : ∃ f fd, Fun K "pairs_of" "pairs_of" s_pairs_of f fd ∧ mg "pairs_of" = some (.ref f)
  f_digest : ∃ f fd, Fun K "digest" "digest" s_digest f fd ∧ mg "digest" = some (.ref f)
  f_is_increase_by : ∃ f fd, Fun K "is_increase_by" "is_increase_by" s_is_increase_by f fd ∧ mg "is_increase_by" = some (.ref f)
  f_least_increase : ∃ f fd, Fun K "least_increase" "least_increase" s_least_increase f fd ∧ mg "least_increase" = some (.ref f)
  f_is_increase : ∃ f fd, Fun K "is_increase" "is_increase" s_is_increase f fd ∧ mg "is_increase" = some (.ref f)
  f_plain_path : ∃ f fd, Fun K "plain_path" "plain_path" s_plain_path f fd ∧ mg "plain_path" = some (.ref f)
  f_course : ∃ f fd, Fun K "course" "course" s_course f fd ∧ mg "course" = some (.ref f)
  f_is_path : ∃ f fd, Fun K "is_path" "is_path" s_is_path f fd ∧ mg "is_path" = some (.ref f)
  f_is_course : ∃ f fd, Fun K "is_course" "is_course" s_is_course f fd ∧ mg "is_course" = some (.ref f)
  f_increase_of : ∃ f fd, Fun K "increase_of" "increase_of" s_increase_of f fd ∧ mg "increase_of" = some (.ref f)
  f_l_feed : ∃ f fd, Fun K "_law_feed" "_law_feed" s_l_feed f fd ∧ mg "_law_feed" = some (.ref f)
  f_l_take : ∃ f fd, Fun K "_law_take" "_law_take" s_l_take f fd ∧ mg "_law_take" = some (.ref f)
  f_l_pick : ∃ f fd, Fun K "_law_pick" "_law_pick" s_l_pick f fd ∧ mg "_law_pick" = some (.ref f)
  f_l_drawn_course : ∃ f fd, Fun K "_law_drawn_course" "_law_drawn_course" s_l_drawn_course f fd ∧ mg "_law_drawn_course" = some (.ref f)
/-! the draws -/
abbrev fdO (c : Int × Int) : XO := .lst [.d (.int c.1), .d (.int c.2)]
def FOk (c : Int × Int) : Prop := 0 ≤ c.1 ∧ 0 ≤ c.2 ∧ c.2 < 2305843009213693951
def S_feed : Prm where
  I := List Int × Nat
  args i := [.d (.list (i.1.map .int)), .d (.int (i.2 : Int))]
  pre i m := i.2 < 1000 ∧ ∀ z ∈ i.1, Builtin.Int.intBits z ≤ 1048576
  post i m r m' := ∃ p c, m p = none ∧ FOk c ∧ r = .x p ∧ m' = m.put p (fdO c)
def S_take : Prm where
  I := Addr × (Int × Int) × Int
  args i := [.x i.1, .d (.int i.2.2)]
  pre i m := m i.1 = some (fdO i.2.1) ∧ FOk i.2.1 ∧ 0 < i.2.2 ∧ i.2.2 < 2 ^ 60
  post i m r m' := ∃ v c, FOk c ∧ 0 ≤ v ∧ v < i.2.2 ∧ r = .d (.int v) ∧ m' = m.put i.1 (fdO c)
def S_pick : Prm where
  I := Addr × (Int × Int) × Ent × List PyData
  args i := [.x i.1, i.2.2.1]
  pre i m := m i.1 = some (fdO i.2.1) ∧ FOk i.2.1 ∧ Dat m i.2.2.1 (.list i.2.2.2) ∧ i.2.2.1 ≠ .x i.1 ∧ 0 < i.2.2.2.length ∧ i.2.2.2.length < 2 ^ 50
  post i m r m' := ∃ d c, FOk c ∧ d ∈ i.2.2.2 ∧ r = .d d ∧ m' = m.put i.1 (fdO c)
def S_stretch : Prm where
  I := Addr × (Int × Int) × Nat
  args i := [.x i.1, .d (.int (i.2.2 : Int))]
  pre i m := m i.1 = some (fdO i.2.1) ∧ FOk i.2.1 ∧ 0 < i.2.2 ∧ i.2.2 < 2 ^ 50
  post i m r m' := ∃ (a b : Nat) (c : Int × Int), FOk c ∧ a < b ∧ b ≤ i.2.2 ∧ r = .d (.tuple [.int (a : Int), .int (b : Int)]) ∧ m' = m.put i.1 (fdO c)
theorem Dat.put {m : Mem} {x : Ent} {d : PyData} {f : Addr} {o : XO} (h : Dat m x d) (hx : x ≠ .x f) : Dat (m.put f o) x d := by
  rcases h with h | ⟨p, ds, rfl, hp, e⟩
  · exact .inl h
  · exact .inr ⟨p, ds, rfl, by rw [Mem.put_ne (fun q => hx (by rw [q]))]; exact hp, e⟩
theorem use_l_feed {m : Mem} {K : KE} {ns : List Int} {k : Nat} (h0 : k < 1000) (h1 : ∀ z ∈ ns, Builtin.Int.intBits z ≤ 1048576) (h : ∀ p c, m p = none → FOk c → K (.x p) (m.put p (fdO c))) :
    ∃ i, [Ent.d (.list (ns.map .int)), .d (.int (k : Int))] = S_feed.args i ∧ S_feed.pre i m ∧ ∀ r m', S_feed.post i m r m' → K r m' :=
  ⟨(ns, k), rfl, ⟨h0, h1⟩, fun r m' ⟨p, c, hp, hc, e1, e2⟩ => by subst e1 e2; exact h p c hp hc⟩
theorem use_l_take {m0 : Mem} {K : KE} {f : Addr} {c : Int × Int} {k : Int} (hc : FOk c) (h0 : 0 < k) (h1 : k < 2 ^ 60) (h : ∀ v c', FOk c' → 0 ≤ v → v < k → K (.d (.int v)) (m0.put f (fdO c'))) :
    ∃ i, [.x f, .d (.int k)] = S_take.args i ∧ S_take.pre i (m0.put f (fdO c)) ∧ ∀ r m', S_take.post i (m0.put f (fdO c)) r m' → K r m' :=
  ⟨(f, c, k), rfl, ⟨Mem.put_same, hc, h0, h1⟩, fun r m' ⟨v, c', hc', a, b, e1, e2⟩ => by subst e1 e2; rw [Mem.put_put]; exact h v c' hc' a b⟩
theorem use_l_pick {m0 : Mem} {K : KE} {f : Addr} {c : Int × Int} {x : Ent} {ds : List PyData} (hc : FOk c) (hx : Dat (m0.put f (fdO c)) x (.list ds)) (hf : x ≠ .x f) (h0 : 0 < ds.length) (h1 : ds.length < 2 ^ 50) (h : ∀ d c', FOk c' → d ∈ ds → K (.d d) (m0.put f (fdO c'))) :
    ∃ i, [.x f, x] = S_pick.args i ∧ S_pick.pre i (m0.put f (fdO c)) ∧ ∀ r m', S_pick.post i (m0.put f (fdO c)) r m' → K r m' :=
  ⟨(f, c, x, ds), rfl, ⟨Mem.put_same, hc, hx, hf, h0, h1⟩, fun r m' ⟨d, c', hc', a, e1, e2⟩ => by subst e1 e2; rw [Mem.put_put]; exact h d c' hc' a⟩
theorem use_l_pickD {m0 : Mem} {K : KE} {f : Addr} {c : Int × Int} {ds : List PyData} (hc : FOk c) (h0 : 0 < ds.length) (h1 : ds.length < 2 ^ 50) (h : ∀ d c', FOk c' → d ∈ ds → K (.d d) (m0.put f (fdO c'))) :
    ∃ i, [.x f, .d (.list ds)] = S_pick.args i ∧ S_pick.pre i (m0.put f (fdO c)) ∧ ∀ r m', S_pick.post i (m0.put f (fdO c)) r m' → K r m' := use_l_pick hc .d (fun e => nomatch e) h0 h1 h
theorem use_l_stretch {m0 : Mem} {K : KE} {f : Addr} {c : Int × Int} {k : Nat} (hc : FOk c) (h0 : 0 < k) (h1 : k < 2 ^ 50) (h : ∀ (a b : Nat) c', FOk c' → a < b → b ≤ k → K (.d (.tuple [.int (a : Int), .int (b : Int)])) (m0.put f (fdO c'))) :
    ∃ i, [.x f, .d (.int (k : Int))] = S_stretch.args i ∧ S_stretch.pre i (m0.put f (fdO c)) ∧ ∀ r m', S_stretch.post i (m0.put f (fdO c)) r m' → K r m' :=
  ⟨(f, c, k), rfl, ⟨Mem.put_same, hc, h0, h1⟩, fun r m' ⟨a, b, c', hc', h2, h3, e1, e2⟩ => by subst e1 e2; rw [Mem.put_put]; exact h a b c' hc' h2 h3⟩
theorem fd_of {m : Mem} {f : Addr} {c : Int × Int} (h : m f = some (fdO c)) : m = m.put f (fdO c) := by
  funext b
  by_cases hb : b = f
  · subst hb; rw [Mem.put_same, h]
  · rw [Mem.put_ne hb]
theorem bits_log {z : Int} {k : Nat} (h : Builtin.Int.intBits z ≤ k) : z.natAbs.log2 ≤ k := by
  unfold Builtin.Int.intBits at h
  split at h
  · rename_i e
    have : z.natAbs = 0 := by
      first
        | (have e' := eq_of_beq e; omega)
        | omega
        | simp_all
    rw [this]
    exact Nat.le_trans (by decide) (Nat.zero_le _)
  · omega
theorem nat_get {α : Type} {xs : List α} {k : Nat} (h : (k : Int) < (xs.length : Int)) : ∃ z, atI xs (k : Int) = some z ∧ z ∈ xs := by
  have hk : k < xs.length := by omega
  exact ⟨xs[k], atI_nat (List.getElem?_eq_getElem hk), List.getElem_mem hk⟩
theorem int_get {α : Type} {xs : List α} {k : Int} (h0 : 0 ≤ k) (h : k < (xs.length : Int)) : ∃ z, atI xs k = some z ∧ z ∈ xs := by
  obtain ⟨z, h1, h2⟩ := nat_get (xs := xs) (k := k.toNat) (by omega)
  exact ⟨z, by rw [← h1]; congr 1; omega, h2⟩

theorem atI_map {α β : Type} {f : α → β} {xs : List α} {i : Int} : atI (xs.map f) i = (atI xs i).map f := by
  unfold atI
  rw [List.length_map]
  cases ixN xs.length i with
  | none => rfl
  | some j => simp
theorem small_log {z : Int} (h : -(2 ^ 400) < z ∧ z < 2 ^ 400) : z.natAbs.log2 ≤ 1048576 := by
  have e1 : z.natAbs < 2 ^ 400 := by omega
  have a1 := PySem.Flt.log2_lt_of (by decide) e1
  omega
theorem cell_mul {z k : Int} (h : z.natAbs.log2 ≤ 1048576) (hk : k.natAbs < 2 ^ 400 := by decide) : CMulZ z k := by
  have a1 := PySem.Flt.log2_lt_of (by decide) hk
  unfold CMulZ
  omega

/-! draws in any memory -/
theorem use_l_takeM {m : Mem} {K : KE} {f : Addr} {c : Int × Int} {k : Int} (hm : m f = some (fdO c)) (hc : FOk c) (h0 : 0 < k) (h1 : k < 2 ^ 60) (h : ∀ v c', FOk c' → 0 ≤ v → v < k → K (.d (.int v)) (m.put f (fdO c'))) :
    ∃ i, [.x f, .d (.int k)] = S_take.args i ∧ S_take.pre i m ∧ ∀ r m', S_take.post i m r m' → K r m' :=
  ⟨(f, c, k), rfl, ⟨hm, hc, h0, h1⟩, fun r m' ⟨v, c', hc', a, b, e1, e2⟩ => by subst e1 e2; exact h v c' hc' a b⟩
theorem use_l_pickM {m : Mem} {K : KE} {f : Addr} {c : Int × Int} {x : Ent} {ds : List PyData} (hm : m f = some (fdO c)) (hc : FOk c) (hx : Dat m x (.list ds)) (hf : x ≠ .x f) (h0 : 0 < ds.length) (h1 : ds.length < 2 ^ 50) (h : ∀ d c', FOk c' → d ∈ ds → K (.d d) (m.put f (fdO c'))) :
    ∃ i, [.x f, x] = S_pick.args i ∧ S_pick.pre i m ∧ ∀ r m', S_pick.post i m r m' → K r m' :=
  ⟨(f, c, x, ds), rfl, ⟨hm, hc, hx, hf, h0, h1⟩, fun r m' ⟨d, c', hc', a, e1, e2⟩ => by subst e1 e2; exact h d c' hc' a⟩
theorem use_l_stretchM {m : Mem} {K : KE} {f : Addr} {c : Int × Int} {k : Nat} (hm : m f = some (fdO c)) (hc : FOk c) (h0 : 0 < k) (h1 : k < 2 ^ 50) (h : ∀ (a b : Nat) c', FOk c' → a < b → b ≤ k → K (.d (.tuple [.int (a : Int), .int (b : Int)])) (m.put f (fdO c'))) :
    ∃ i, [.x f, .d (.int (k : Int))] = S_stretch.args i ∧ S_stretch.pre i m ∧ ∀ r m', S_stretch.post i m r m' → K r m' :=
  ⟨(f, c, k), rfl, ⟨hm, hc, h0, h1⟩, fun r m' ⟨a, b, c', hc', h2, h3, e1, e2⟩ => by subst e1 e2; exact h a b c' hc' h2 h3⟩
/-- what is kept of the memory -/
def Kp (P : Addr → Prop) (m m' : Mem) : Prop := ∀ a o, P a → m a = some o → m' a = some o
theorem Kp.refl {P : Addr → Prop} {m : Mem} : Kp P m m := fun _ _ _ h => h
theorem Kp.put {P : Addr → Prop} {m m' : Mem} {f : Addr} {o : XO} (h : Kp P m m') (hf : P f → m f = none) : Kp P m (m'.put f o) := fun a u hp e => by
  have ha : a ≠ f := fun q => by subst q; rw [hf hp] at e; cases e
  rw [Mem.put_ne ha]
  exact h a u hp e
theorem Kp.free {P : Addr → Prop} {m m' : Mem} {q : Addr} (h : Kp P m m') (hq : m' q = none) (hp : P q) : m q = none := by
  cases e : m q with
  | none => rfl
  | some o => rw [h q o hp e] at hq; cases hq
abbrev but2 (p f : Addr) : Addr → Prop := fun a => a ≠ p ∧ a ≠ f
/-- a stretch up to a moment -/
def Stv (n : Nat) (d : PyData) : Prop := ∃ a b : Nat, a < b ∧ b ≤ n ∧ d = .tuple [.int (a : Int), .int (b : Int)]
theorem Stv.mk {n : Nat} {i j : Int} (h0 : 0 ≤ i) (h1 : i < j) (h2 : j ≤ n) : Stv n (.tuple [.int i, .int j]) :=
  ⟨i.toNat, j.toNat, by omega, by omega, by rw [Int.toNat_of_nonneg h0, Int.toNat_of_nonneg (by omega)]⟩
abbrev stD (q : Nat × Nat) : PyData := .tuple [.int (q.1 : Int), .int (q.2 : Int)]
theorem stv_list {n : Nat} : ∀ {ds : List PyData}, (∀ d ∈ ds, Stv n d) → ∃ bs : List (Nat × Nat), ds = bs.map stD ∧ ∀ q ∈ bs, q.1 < q.2 ∧ q.2 ≤ n
  | [], _ => ⟨[], rfl, fun _ h => by simp at h⟩
  | d :: ds, h => by
    obtain ⟨a, b, h1, h2, rfl⟩ := h d List.mem_cons_self
    obtain ⟨bs, rfl, hb⟩ := stv_list (ds := ds) fun e he => h e (List.mem_cons_of_mem _ he)
    refine ⟨(a, b) :: bs, rfl, fun q hq => ?_⟩
    rcases List.mem_cons.mp hq with rfl | hq
    · exact ⟨h1, h2⟩
    · exact hb q hq
def S_buckets : Prm where
  I := Addr × (Int × Int) × Nat × Nat
  args i := [.x i.1, .d (.int (i.2.2.1 : Int)), .d (.int (i.2.2.2 : Int))]
  pre i m := m i.1 = some (fdO i.2.1) ∧ FOk i.2.1 ∧ 0 < i.2.2.1 ∧ i.2.2.1 < 1000 ∧ i.2.2.2 < 1000
  post i m r m' := ∃ (p : Addr) (ds : List PyData) (c : Int × Int), m p = none ∧ FOk c ∧ ds.length = i.2.2.2 ∧ (∀ d ∈ ds, Stv i.2.2.1 d) ∧ r = .x p ∧ m' = (m.put i.1 (fdO c)).put p (.lst (List.map .d ds))
theorem use_l_buckets {m : Mem} {K : KE} {f : Addr} {c : Int × Int} {k n : Nat} (hm : m f = some (fdO c)) (hc : FOk c) (h0 : 0 < k) (h1 : k < 1000) (h2 : n < 1000) (h : ∀ p ds c', m p = none → FOk c' → ds.length = n → (∀ d ∈ ds, Stv k d) → K (.x p) ((m.put f (fdO c')).put p (.lst (List.map .d ds)))) :
    ∃ i, [.x f, .d (.int (k : Int)), .d (.int (n : Int))] = S_buckets.args i ∧ S_buckets.pre i m ∧ ∀ r m', S_buckets.post i m r m' → K r m' :=
  ⟨(f, c, k, n), rfl, ⟨hm, hc, h0, h1, h2⟩, fun r m' ⟨p, ds, c', hp, hc', h3, h4, e1, e2⟩ => by subst e1 e2; exact h p ds c' hp hc' h3 h4⟩
theorem Dat.exs {m : Mem} {p : Addr} {es : List Ent} {ds : List PyData} (h : m p = some (.lst es)) (e : es = List.map .d ds) : Dat m (.x p) (.list ds) := .ex (e ▸ h)
theorem nil_ne {ds : List PyData} : PyData.eqv (.list ds) (.list []) = decide (ds = []) := by
  cases ds with
  | nil => rfl
  | cons d ds => simp [PyData.eqv, PyData.eqvAll]
theorem sub_of2 {m m' : Mem} {f p : Addr} {a b : XO} (hf : m' f = some a) (hp : m' p = some b) (h : Kp (but2 p f) m m') : Mem.Sub ((m.put f a).put p b) m' := fun x o e => by
  by_cases h1 : x = p
  · subst h1; rw [Mem.put_same] at e; cases e; exact hp
  · rw [Mem.put_ne h1] at e
    by_cases h2 : x = f
    · subst h2; rw [Mem.put_same] at e; cases e; exact hf
    · rw [Mem.put_ne h2] at e
      exact h x o ⟨h1, h2⟩ e
theorem stv_shaped {n : Nat} {ds : List PyData} (h : ∀ d ∈ ds, Stv n d) : SeqAt.shaped (.list ds) = true ∧ nodict (.list ds) = true := by
  obtain ⟨bs, rfl, hb⟩ := stv_list h
  clear h hb
  constructor
  · refine Bool.and_eq_true_iff.mpr ⟨?_, ?_⟩
    · show PyData.canLayAll0 (bs.map stD) = true
      induction bs with
      | nil => rfl
      | cons q bs ih => simpa [PyData.canLayAll0, PyData.canLay0, stD] using ih
    · have : PyData.depthAll (bs.map stD) ≤ 1 := dep_all fun d hd => by
        obtain ⟨q, _, rfl⟩ := List.mem_map.mp hd
        exact Nat.le_refl _
      have e : (PyData.list (bs.map stD)).depth = PyData.depthAll (bs.map stD) + 1 := by simp only [PyData.depth]
      rw [e]
      exact decide_eq_true (by omega)
  · show nodictAll (bs.map stD) = true
    induction bs with
    | nil => rfl
    | cons q bs ih => simpa [nodictAll, nodict, stD] using ih
local macro_rules | `(tactic| walk_at "zkp") => `(tactic| first | assumption | (refine Kp.put ?_ (by first | assumption | (intro h; exact absurd rfl h.1) | (intro h; exact absurd rfl h.2)); walk_at "zkp"))
local macro_rules | `(tactic| walk_at "zme2") => `(tactic| walk_at "zmem")

/-! counters -/
def prs : List Int → List (Int × Int)
  | a :: b :: t => (a, b) :: prs (b :: t)
  | _ => []
abbrev prD (q : Int × Int) : PyData := .tuple [.int q.1, .int q.2]
abbrev smD (ss : List Int) : PyData := .list (ss.map .int)
def stp (q : Int × Int) : Int := if q.2 ≥ q.1 then q.2 - q.1 else q.2
def leastI (ss : List Int) : Int := ((prs ss).map stp).sum
def fallI (ss : List Int) : Bool := (prs ss).any fun q => decide (q.2 < q.1)
def lowI (ss : List Int) : Option Int := match (prs ss).map (·.1) with
  | [] => none
  | a :: t => some (t.foldl min a)
theorem prs_length : ∀ ss : List Int, (prs ss).length = ss.length - 1
  | [] => rfl
  | [_] => rfl
  | a :: b :: t => by
    have := prs_length (b :: t)
    simp only [prs, List.length_cons] at *
    omega
theorem prs_get : ∀ (ss : List Int) (i : Nat), i + 1 < ss.length → ∃ a b, ss[i]? = some a ∧ ss[i + 1]? = some b ∧ (prs ss)[i]? = some (a, b)
  | [], i, h => absurd h (by simp)
  | [_], i, h => absurd h (by simp)
  | a :: b :: t, 0, h => ⟨a, b, rfl, rfl, rfl⟩
  | a :: b :: t, i + 1, h => by
    obtain ⟨x, y, h1, h2, h3⟩ := prs_get (b :: t) i (by simpa using h)
    exact ⟨x, y, by simpa using h1, by simpa using h2, by simpa [prs] using h3⟩
/-- a digest: first, last, least increase, a fall, the least sample but the last -/
structure Dg where
  first : Int
  last : Int
  least : Int
  fall : Bool
  low : Option Int
def loD : Option Int → PyData
  | none => .none
  | some i => .int i
def dgD : Option Dg → PyData
  | none => .none
  | some d => .tuple [.int d.first, .int d.last, .int d.least, .bool d.fall, loD d.low]
def dig : List Int → Option Dg
  | [] => none
  | a :: t => some ⟨a, (a :: t).getLast (by simp), leastI (a :: t), fallI (a :: t), lowI (a :: t)⟩
def incBy (k : Option Dg) (i : Int) : Bool := match k with
  | none => decide (i = 0)
  | some d => match d.low with
    | none => decide (i = 0)
    | some l => decide (i = d.least) || decide (i ≥ if d.fall then d.least else d.least + l)
def S_pairs : Prm where
  I := List Int
  args ss := [.d (smD ss)]
  pre ss _ := ss.length < 1000000
  post ss m r m' := r = .d (.list ((prs ss).map prD)) ∧ m' = m
theorem use_pairs_of {m : Mem} {K : KE} {ss : List Int} (h : ss.length < 1000000) (k : K (.d (.list ((prs ss).map prD))) m) : ∃ i, [.d (smD ss)] = S_pairs.args i ∧ S_pairs.pre i m ∧ ∀ r m', S_pairs.post i m r m' → K r m' :=
  ⟨ss, rfl, h, fun r m' ⟨e1, e2⟩ => by subst e1 e2; exact k⟩
def S_digest : Prm where
  I := List Int
  args ss := [.d (smD ss)]
  pre ss _ := ss.length < 1000000
  post ss m r m' := r = .d (dgD (dig ss)) ∧ m' = m
theorem use_digest {m : Mem} {K : KE} {ss : List Int} (h : ss.length < 1000000) (k : K (.d (dgD (dig ss))) m) : ∃ i, [.d (smD ss)] = S_digest.args i ∧ S_digest.pre i m ∧ ∀ r m', S_digest.post i m r m' → K r m' :=
  ⟨ss, rfl, h, fun r m' ⟨e1, e2⟩ => by subst e1 e2; exact k⟩
def S_incBy : Prm where
  I := Option Dg × Int
  args i := [.d (dgD i.1), .d (.int i.2)]
  pre _ _ := True
  post i m r m' := r = .d (.bool (incBy i.1 i.2)) ∧ m' = m
theorem use_is_increase_by {m : Mem} {K : KE} {d : Option Dg} {i : Int} (k : K (.d (.bool (incBy d i))) m) : ∃ i', [.d (dgD d), .d (.int i)] = S_incBy.args i' ∧ S_incBy.pre i' m ∧ ∀ r m', S_incBy.post i' m r m' → K r m' :=
  ⟨(d, i), rfl, trivial, fun r m' ⟨e1, e2⟩ => by subst e1 e2; exact k⟩
def S_least : Prm where
  I := List Int
  args ss := [.d (smD ss)]
  pre ss _ := ss.length < 1000000
  post ss m r m' := r = .d (.int (leastI ss)) ∧ m' = m
theorem use_least_increase {m : Mem} {K : KE} {ss : List Int} (h : ss.length < 1000000) (k : K (.d (.int (leastI ss))) m) : ∃ i, [.d (smD ss)] = S_least.args i ∧ S_least.pre i m ∧ ∀ r m', S_least.post i m r m' → K r m' :=
  ⟨ss, rfl, h, fun r m' ⟨e1, e2⟩ => by subst e1 e2; exact k⟩
def S_inc : Prm where
  I := List Int × Int
  args i := [.d (smD i.1), .d (.int i.2)]
  pre i _ := i.1.length < 1000000
  post i m r m' := r = .d (.bool (incBy (dig i.1) i.2)) ∧ m' = m
theorem use_is_increase {m : Mem} {K : KE} {ss : List Int} {i : Int} (h : ss.length < 1000000) (k : K (.d (.bool (incBy (dig ss) i))) m) : ∃ i', [.d (smD ss), .d (.int i)] = S_inc.args i' ∧ S_inc.pre i' m ∧ ∀ r m', S_inc.post i' m r m' → K r m' :=
  ⟨(ss, i), rfl, h, fun r m' ⟨e1, e2⟩ => by subst e1 e2; exact k⟩
theorem prD_get {qs : List (Int × Int)} {i : Nat} {d : PyData} (h : (qs.map prD)[i]? = some d) : ∃ q, qs[i]? = some q ∧ d = prD q := by
  rw [List.getElem?_map] at h
  cases e : qs[i]? with
  | none => rw [e] at h; cases h
  | some q => rw [e] at h; cases h; exact ⟨q, rfl, rfl⟩
theorem prs_small (ss : List Int) (h : ss.length < 1000000) : (prs ss).length < 1000000 := by rw [prs_length]; omega
theorem prs_nil {ss : List Int} : PyData.eqv (.list ((prs ss).map prD)) (.list []) = decide (prs ss = []) := by
  cases prs ss with
  | nil => rfl
  | cons d ds => simp [PyData.eqv, PyData.eqvAll]
theorem prs_shaped (qs : List (Int × Int)) : SeqAt.shaped (.list (qs.map prD)) = true ∧ nodict (.list (qs.map prD)) = true := by
  constructor
  · refine Bool.and_eq_true_iff.mpr ⟨?_, ?_⟩
    · show PyData.canLayAll0 (qs.map prD) = true
      induction qs with
      | nil => rfl
      | cons q bs ih => simpa [PyData.canLayAll0, PyData.canLay0, prD] using ih
    · have : PyData.depthAll (qs.map prD) ≤ 1 := dep_all fun d hd => by
        obtain ⟨q, _, rfl⟩ := List.mem_map.mp hd
        exact Nat.le_refl _
      have e : (PyData.list (qs.map prD)).depth = PyData.depthAll (qs.map prD) + 1 := by simp only [PyData.depth]
      rw [e]
      exact decide_eq_true (by omega)
  · show nodictAll (qs.map prD) = true
    induction qs with
    | nil => rfl
    | cons q bs ih => simpa [nodictAll, nodict, prD] using ih
theorem lastI_get (i : Int) (t : List Int) : atI ((i :: t).map PyData.int) (-1) = some (.int ((i :: t).getLast (by simp))) := by
  obtain ⟨l, hl⟩ : ∃ l, i :: t = l ++ [(i :: t).getLast (by simp)] := ⟨_, (List.dropLast_concat_getLast (by simp)).symm⟩
  have e : (i :: t).map PyData.int = l.map PyData.int ++ [.int ((i :: t).getLast (by simp))] := by
    have := congrArg (List.map PyData.int) hl
    rw [List.map_append] at this
    exact this
  rw [e]
  exact atI_last _ _

def plainI (q : Int × Int) : List Int := if q.2 ≥ q.1 then [q.2 - q.1] else [0, q.2]
def S_plain : Prm where
  I := Int × Int
  args q := [.d (.int q.1), .d (.int q.2)]
  pre _ _ := True
  post q m r m' := ∃ p, m p = none ∧ r = .x p ∧ m' = m.put p (.lst (List.map .d ((plainI q).map .int)))
theorem use_plain_path {m : Mem} {K : KE} {b a : Int} (k : ∀ p, m p = none → K (.x p) (m.put p (.lst (List.map .d ((plainI (b, a)).map .int))))) : ∃ i, [.d (.int b), .d (.int a)] = S_plain.args i ∧ S_plain.pre i m ∧ ∀ r m', S_plain.post i m r m' → K r m' :=
  ⟨(b, a), rfl, trivial, fun r m' ⟨p, hp, e1, e2⟩ => by subst e1 e2; exact k p hp⟩
def isInt : PyData → Bool
  | .int _ => true
  | _ => false
def subI : PyData → Bool
  | .int _ => true
  | .bool _ => true
  | _ => false
def subB : PyData → Bool
  | .bool _ => true
  | _ => false
def subL : PyData → Bool
  | .list _ => true
  | _ => false
theorem kitI {K : PySem.W.Frag} (d : PyData) : PySem.W.kitOne K (.type (tyD d)) (.type "int") = some (subI d) := by cases d <;> rfl
theorem kitB {K : PySem.W.Frag} (d : PyData) : PySem.W.kitOne K (.type (tyD d)) (.type "bool") = some (subB d) := by cases d <;> rfl
theorem kitL {K : PySem.W.Frag} (d : PyData) : PySem.W.kitOne K (.type (tyD d)) (.type "list") = some (subL d) := by cases d <;> rfl
def S_isint : Prm where
  I := PyData
  args d := [.d d]
  pre d _ := nodict d = true
  post d m r m' := r = .d (.bool (isInt d)) ∧ m' = m
theorem use_is_integer {m : Mem} {K : KE} {d : PyData} (h : nodict d = true) (k : K (.d (.bool (isInt d))) m) : ∃ i, [.d d] = S_isint.args i ∧ S_isint.pre i m ∧ ∀ r m', S_isint.post i m r m' → K r m' :=
  ⟨d, rfl, h, fun r m' ⟨e1, e2⟩ => by subst e1 e2; exact k⟩
abbrev pthD (p : List Int) : PyData := .list (p.map .int)
def totI (ps : List (List Int)) : Int := (ps.map List.sum).sum
def S_incof : Prm where
  I := List (List Int)
  args ps := [.d (.list (ps.map pthD))]
  pre ps _ := ps.length < 1000000
  post ps m r m' := r = .d (.int (totI ps)) ∧ m' = m
theorem use_increase_of {m : Mem} {K : KE} {ps : List (List Int)} (h : ps.length < 1000000) (k : K (.d (.int (totI ps))) m) : ∃ i, [.d (.list (ps.map pthD))] = S_incof.args i ∧ S_incof.pre i m ∧ ∀ r m', S_incof.post i m r m' → K r m' :=
  ⟨ps, rfl, h, fun r m' ⟨e1, e2⟩ => by subst e1 e2; exact k⟩
theorem pth_get {ps : List (List Int)} {i : Nat} {d : PyData} (h : (ps.map pthD)[i]? = some d) : ∃ q, ps[i]? = some q ∧ d = pthD q := by
  rw [List.getElem?_map] at h
  cases e : ps[i]? with
  | none => rw [e] at h; cases h
  | some q => rw [e] at h; cases h; exact ⟨q, rfl, rfl⟩

def gOk : PyData → Bool
  | .int i => decide (i ≥ 0)
  | _ => false
def intsOf : List PyData → Option (List Int)
  | [] => some []
  | .int i :: xs => (intsOf xs).map (i :: ·)
  | _ :: _ => none
def pthI (b a : Int) : List Int → Bool
  | [] => false
  | [g] => decide (b + g = a)
  | g :: h :: t => decide ((g :: h :: t).getLast (by simp) = a)
def pathB (b a : Int) : PyData → Bool
  | .list xs => xs.all gOk && match intsOf xs with
    | some gs => pthI b a gs
    | none => false
  | _ => false
theorem intsOf_map : ∀ gs : List Int, intsOf (gs.map .int) = some gs
  | [] => rfl
  | g :: gs => by show (intsOf (gs.map .int)).map (g :: ·) = _; rw [intsOf_map gs]; rfl
theorem ints_all : ∀ {xs : List PyData}, xs.all gOk = true → ∃ gs : List Int, xs = gs.map .int ∧ ∀ g ∈ gs, 0 ≤ g
  | [], _ => ⟨[], rfl, fun _ h => by simp at h⟩
  | x :: xs, h => by
    rw [List.all_cons, Bool.and_eq_true] at h
    obtain ⟨gs, rfl, hg⟩ := ints_all h.2
    cases x with
    | int i =>
      refine ⟨i :: gs, rfl, fun g hm => ?_⟩
      rcases List.mem_cons.mp hm with rfl | hm
      · exact of_decide_eq_true h.1
      · exact hg g hm
    | none => exact Bool.noConfusion h.1
    | bool _ => exact Bool.noConfusion h.1
    | str _ => exact Bool.noConfusion h.1
    | list _ => exact Bool.noConfusion h.1
    | tuple _ => exact Bool.noConfusion h.1
    | dict _ => exact Bool.noConfusion h.1
theorem nodict_mem : ∀ {xs : List PyData} {x : PyData}, nodictAll xs = true → x ∈ xs → nodict x = true
  | y :: xs, x, h, hm => by
    simp only [nodictAll, Bool.and_eq_true] at h
    rcases List.mem_cons.mp hm with rfl | hm
    · exact h.1
    · exact nodict_mem h.2 hm
theorem all_id {xs : List PyData} : (xs.map gOk).all id = xs.all gOk := by rw [List.all_map]; rfl
def shortL : PyData → Prop
  | .list xs => xs.length < 1000000
  | _ => True
def S_ispath : Prm where
  I := Int × Int × PyData
  args i := [.d (.int i.1), .d (.int i.2.1), .d i.2.2]
  pre i _ := nodict i.2.2 = true ∧ shortL i.2.2
  post i m r m' := r = .d (.bool (pathB i.1 i.2.1 i.2.2)) ∧ m' = m
theorem use_is_path {m : Mem} {K : KE} {b a : Int} {d : PyData} (h : nodict d = true) (h2 : shortL d) (k : K (.d (.bool (pathB b a d))) m) : ∃ i, [.d (.int b), .d (.int a), .d d] = S_ispath.args i ∧ S_ispath.pre i m ∧ ∀ r m', S_ispath.post i m r m' → K r m' :=
  ⟨(b, a, d), rfl, ⟨h, h2⟩, fun r m' ⟨e1, e2⟩ => by subst e1 e2; exact k⟩
def courseB (ss : List Int) : PyData → Bool
  | .list vs => decide (vs.length = (prs ss).length) && (List.zip (prs ss) vs).all fun p => pathB p.1.1 p.1.2 p.2
  | _ => false
def S_iscourse : Prm where
  I := List Int × PyData
  args i := [.d (smD i.1), .d i.2]
  pre i _ := i.1.length < 1000000 ∧ nodict i.2 = true ∧ shortL i.2 ∧ ∀ vs, i.2 = .list vs → ∀ v ∈ vs, shortL v
  post i m r m' := r = .d (.bool (courseB i.1 i.2)) ∧ m' = m
theorem use_is_course {m : Mem} {K : KE} {ss : List Int} {d : PyData} (h : ss.length < 1000000) (h1 : nodict d = true) (h2 : shortL d) (h3 : ∀ vs, d = .list vs → ∀ v ∈ vs, shortL v) (k : K (.d (.bool (courseB ss d))) m) : ∃ i, [.d (smD ss), .d d] = S_iscourse.args i ∧ S_iscourse.pre i m ∧ ∀ r m', S_iscourse.post i m r m' → K r m' :=
  ⟨(ss, d), rfl, ⟨h, h1, h2, h3⟩, fun r m' ⟨e1, e2⟩ => by subst e1 e2; exact k⟩
theorem zipP_get {qs : List (Int × Int)} {vs : List PyData} {i : Nat} {d : PyData} (h : (zipD (qs.map prD) vs)[i]? = some d) : ∃ q v, (List.zip qs vs)[i]? = some (q, v) ∧ vs[i]? = some v ∧ d = .tuple [prD q, v] := by
  obtain ⟨a, b, h1, h2, rfl⟩ := zipD_get h
  obtain ⟨q, hq, rfl⟩ := prD_get h1
  exact ⟨q, b, by rw [List.getElem?_zip_eq_some]; exact ⟨hq, h2⟩, h2, rfl⟩

/-! a course -/
def PthOk (q : Int × Int) (p : List Int) : Prop := (∀ g ∈ p, 0 ≤ g) ∧ pthI q.1 q.2 p = true
abbrev CrsP (ss : List Int) (ps : List (List Int)) : Prop := Paired PthOk (prs ss) ps
/-- a new list p of new lists -/
structure CrsM (m m' : Mem) (p : Addr) (qs : List (Addr × List Int)) : Prop where
  np : m p = none
  hp : m' p = some (.lst (qs.map fun q => .x q.1))
  hq : ∀ q ∈ qs, m q.1 = none ∧ m' q.1 = some (.lst (List.map .d (q.2.map .int)))
  nd : (qs.map (·.1)).Nodup
  ne : p ∉ qs.map (·.1)
  kp : ∀ a o, m a = some o → m' a = some o
theorem prs_mem : ∀ {ss : List Int} {q : Int × Int}, q ∈ prs ss → q.1 ∈ ss ∧ q.2 ∈ ss
  | [], _, h => by simp [prs] at h
  | [_], _, h => by simp [prs] at h
  | a :: b :: t, q, h => by
    rw [prs, List.mem_cons] at h
    rcases h with rfl | h
    · exact ⟨by simp, by simp⟩
    · have := prs_mem h
      exact ⟨List.mem_cons_of_mem _ this.1, List.mem_cons_of_mem _ this.2⟩
theorem plain_ok {q : Int × Int} (h : 0 ≤ q.2) : PthOk q (plainI q) ∧ (plainI q).sum = stp q := by
  unfold plainI stp
  by_cases hq : q.2 ≥ q.1
  · rw [if_pos hq, if_pos hq]
    refine ⟨⟨fun g hg => ?_, ?_⟩, by simp⟩
    · simp at hg; omega
    · show decide (q.1 + (q.2 - q.1) = q.2) = true
      exact decide_eq_true (by omega)
  · rw [if_neg hq, if_neg hq]
    refine ⟨⟨fun g hg => ?_, ?_⟩, by simp⟩
    · simp at hg; omega
    · show decide (([0, q.2] : List Int).getLast _ = q.2) = true
      exact decide_eq_true (by simp)
theorem plain_all : ∀ {l : List (Int × Int)}, (∀ q ∈ l, 0 ≤ q.2) → Paired PthOk l (l.map plainI) ∧ totI (l.map plainI) = (l.map stp).sum
  | [], _ => ⟨.nil, rfl⟩
  | q :: l, h => by
    obtain ⟨h1, h2⟩ := plain_all (l := l) fun u hu => h u (List.mem_cons_of_mem _ hu)
    obtain ⟨h3, h4⟩ := plain_ok (h q (by simp))
    refine ⟨.cons h3 h1, ?_⟩
    unfold totI at h2 ⊢
    simp only [List.map_cons, List.sum_cons, h2, h4]
theorem paired_set {α β : Type} {R : α → β → Prop} : ∀ {l : List α} {k : List β} {j : Nat} {a : α} {b : β}, Paired R l k → l[j]? = some a → R a b → Paired R l (k.set j b)
  | _, _, _, _, _, .nil, h, _ => by simp at h
  | _, _, 0, _, _, .cons _ t, h, r => by simp at h; subst h; exact .cons r t
  | _, _, j + 1, _, _, .cons q t, h, r => .cons q (paired_set t (by simpa using h) r)
theorem tot_set : ∀ {ps : List (List Int)} {j : Nat} {p p' : List Int}, ps[j]? = some p → totI (ps.set j p') = totI ps - p.sum + p'.sum
  | [], _, _, _, h => by simp at h
  | q :: ps, 0, p, p', h => by
    simp at h; subst h
    unfold totI
    simp only [List.set_cons_zero, List.map_cons, List.sum_cons]
    omega
  | q :: ps, j + 1, p, p', h => by
    have := tot_set (ps := ps) (p' := p') (j := j) (p := p) (by simpa using h)
    unfold totI at this ⊢
    simp only [List.set_cons_succ, List.map_cons, List.sum_cons] at this ⊢
    omega
def S_course (C : Addr) : Prm where
  I := List Int × Int
  args i := [.d (smD i.1), .d (.int i.2)]
  pre i _ := i.1.length < 1000000 ∧ ∀ s ∈ i.1, 0 ≤ s
  post i m r m' := incBy (dig i.1) i.2 = true ∧ ∃ p qs, r = .x p ∧ CrsM m m' p qs ∧ CrsP i.1 (qs.map (·.2)) ∧ totI (qs.map (·.2)) = i.2 ∧ ∀ p ∈ qs.map (·.2), p.length ≤ 2
  exc i m c d m' := incBy (dig i.1) i.2 = false ∧ c = .ref C ∧ ∃ p, d = some p ∧ m p = none ∧ m' = m.put p (.exc [("increase", .d (.int i.2))])
def S_courseD : Prm where
  I := List Int × Int
  args i := [.d (smD i.1), .d (.int i.2)]
  pre i _ := i.1.length < 1000000 ∧ (∀ s ∈ i.1, 0 ≤ s) ∧ incBy (dig i.1) i.2 = true
  post i m r m' := ∃ ps, r = .d (.list (ps.map pthD)) ∧ CrsP i.1 ps ∧ totI ps = i.2 ∧ (∀ p ∈ ps, p.length ≤ 2) ∧ m' = m
theorem use_courseD {m : Mem} {K : KE} {ss : List Int} {i : Int} (h0 : ss.length < 1000000) (h1 : ∀ s ∈ ss, 0 ≤ s) (h2 : incBy (dig ss) i = true) (k : ∀ ps, CrsP ss ps → totI ps = i → (∀ p ∈ ps, p.length ≤ 2) → K (.d (.list (ps.map pthD))) m) : ∃ i', ([.d (smD ss), .d (.int i)] : List Ent) = S_courseD.args i' ∧ S_courseD.pre i' m ∧ ∀ r m', S_courseD.post i' m r m' → K r m' :=
  ⟨(ss, i), rfl, ⟨h0, h1, h2⟩, fun r m' ⟨ps, e1, a, b, c, e2⟩ => by subst e1 e2; exact k ps a b c⟩
theorem CrsM.rf {K : PySem.W.Frag} {m m' : Mem} {p : Addr} {qs : List (Addr × List Int)} (h : CrsM m m' p qs) : RfE K (.x p) m' (.d (.list ((qs.map (·.2)).map pthD))) m := by
  have a := rf_deep (K := K) (n := [some (.x p)]) (m := m') (p := p) (qs := qs.map fun q => (q.1, q.2.map PyData.int)) (by rw [h.hp, List.map_map]; rfl) (fun q hq => by
    obtain ⟨u, hu, rfl⟩ := List.mem_map.mp hq
    exact (h.hq u hu).2) (by rw [List.map_map]; exact h.nd) (by rw [List.map_map]; exact h.ne)
  have e : ([some (.x p)] : Nm).map (fzE p (.list ((qs.map fun q => (q.1, q.2.map PyData.int)).map fun q => .list q.2))) = [some (.d (.list ((qs.map (·.2)).map pthD)))] := by
    simp [fzE, List.map_map, Function.comp_def]
  rw [e] at a
  refine RfE.of (a.trans (rf_sub fun x o hx => ?_))
  have hm := h.kp x o hx
  have x1 : x ≠ p := fun z => by rw [z, h.np] at hx; cases hx
  have x2 : x ∉ (qs.map fun q => (q.1, q.2.map PyData.int)).map (·.1) := fun z => by
    rw [List.map_map] at z
    obtain ⟨q, hq, rfl⟩ := List.mem_map.mp z
    have hx2 : m q.1 = some o := hx
    rw [(h.hq q hq).1] at hx2
    cases hx2
  unfold Mem.drop Mem.dropL
  rw [if_neg x1, if_neg x2]
  exact hm
theorem nodup_set {α : Type} : ∀ {l : List α} {j : Nat} {a : α}, l.Nodup → a ∉ l → (l.set j a).Nodup
  | [], _, _, h, _ => h
  | x :: l, 0, a, h, ha => by
    rw [List.nodup_cons] at h
    rw [List.set_cons_zero, List.nodup_cons]
    exact ⟨fun z => ha (List.mem_cons_of_mem _ z), h.2⟩
  | x :: l, j + 1, a, h, ha => by
    rw [List.nodup_cons] at h
    rw [List.set_cons_succ, List.nodup_cons]
    refine ⟨fun z => ?_, nodup_set h.2 fun z => ha (List.mem_cons_of_mem _ z)⟩
    rcases List.mem_or_eq_of_mem_set z with z | z
    · exact h.1 z
    · exact ha (by rw [← z]; simp)
theorem CrsM.setn {m M : Mem} {p q : Addr} {qs : List (Addr × List Int)} {j : Nat} (h : CrsM m M p qs) (nq : M q = none) (w : List Int) :
    CrsM m ((M.put q (.lst (List.map .d (w.map .int)))).put p (.lst ((qs.map fun u => Ent.x u.1).set j (.x q)))) p (qs.set j (q, w)) := by
  have qp : q ≠ p := fun z => by rw [z, h.hp] at nq; cases nq
  have qn : q ∉ qs.map (·.1) := fun z => by
    obtain ⟨u, hu, e⟩ := List.mem_map.mp z
    rw [← e, (h.hq u hu).2] at nq
    cases nq
  have em : (qs.set j (q, w)).map (·.1) = (qs.map (·.1)).set j q := by rw [List.map_set]
  refine ⟨h.np, by rw [Mem.put_same, List.map_set], fun u hu => ?_, by rw [em]; exact nodup_set h.nd qn, ?_, fun a o e => ?_⟩
  · rcases List.mem_or_eq_of_mem_set hu with hu | rfl
    · refine ⟨(h.hq u hu).1, ?_⟩
      rw [Mem.put_ne (fun z => h.ne (by rw [← z]; exact List.mem_map_of_mem hu)), Mem.put_ne (fun z => qn (by rw [← z]; exact List.mem_map_of_mem hu))]
      exact (h.hq u hu).2
    · refine ⟨?_, by rw [Mem.put_ne qp, Mem.put_same]⟩
      cases e : m q with
      | none => rfl
      | some o => rw [h.kp q o e] at nq; cases nq
  · rw [em]
    intro z
    rcases List.mem_or_eq_of_mem_set z with z | z
    · exact h.ne z
    · exact qp z.symm
  · rw [Mem.put_ne (fun z => by rw [z, h.np] at e; cases e), Mem.put_ne (fun z => by rw [← z, h.kp a o e] at nq; cases nq)]
    exact h.kp a o e
theorem CrsM.setv {m M : Mem} {p a : Addr} {v : List Int} {qs : List (Addr × List Int)} {j : Nat} (h : CrsM m M p qs) (hj : qs[j]? = some (a, v)) (w : List Int) :
    CrsM m (M.put a (.lst (List.map .d (w.map .int)))) p (qs.set j (a, w)) := by
  have ha := List.mem_of_getElem? hj
  have ap : a ≠ p := fun z => h.ne (by rw [← z]; exact List.mem_map_of_mem ha)
  have em : (qs.set j (a, w)).map (·.1) = qs.map (·.1) := by
    rw [List.map_set]
    apply List.ext_getElem?
    intro i
    by_cases hi : j = i
    · subst hi
      rw [List.getElem?_set_self (by rw [List.length_map]; exact (List.getElem?_eq_some_iff.mp hj).1), List.getElem?_map, hj]
      rfl
    · rw [List.getElem?_set_ne hi]
  have ex : (qs.set j (a, w)).map (fun u => Ent.x u.1) = qs.map fun u => Ent.x u.1 := by
    have := congrArg (List.map Ent.x) em
    rw [List.map_map, List.map_map] at this
    exact this
  refine ⟨h.np, by rw [Mem.put_ne (Ne.symm ap), ex]; exact h.hp, fun u hu => ?_, by rw [em]; exact h.nd, by rw [em]; exact h.ne, fun b o e => ?_⟩
  · by_cases hua : u.1 = a
    · have hu2 : u = (a, w) := by
        obtain ⟨i, hi⟩ := List.mem_iff_getElem?.mp hu
        by_cases hij : j = i
        · subst hij
          rw [List.getElem?_set_self (List.getElem?_eq_some_iff.mp hj).1] at hi
          exact (Option.some.inj hi).symm
        · rw [List.getElem?_set_ne hij] at hi
          have h1 : (qs.map (·.1))[i]? = some a := by rw [List.getElem?_map, hi]; exact congrArg some hua
          have h2 : (qs.map (·.1))[j]? = some a := by rw [List.getElem?_map, hj]; rfl
          exact absurd ((List.getElem?_inj (List.getElem?_eq_some_iff.mp h2).1 h.nd).mp (h2.trans h1.symm)) hij
      subst hu2
      exact ⟨(h.hq _ ha).1, Mem.put_same⟩
    · rcases List.mem_or_eq_of_mem_set hu with hu | rfl
      · rw [Mem.put_ne hua]
        exact h.hq u hu
      · exact absurd rfl hua
  · rw [Mem.put_ne (fun z => by rw [z, (h.hq _ ha).1] at e; cases e)]
    exact h.kp b o e
theorem ints_shaped (ns : List Int) : SeqAt.shaped (.list (ns.map .int)) = true ∧ nodict (.list (ns.map .int)) = true := by
  constructor
  · refine Bool.and_eq_true_iff.mpr ⟨?_, ?_⟩
    · show PyData.canLayAll0 (ns.map .int) = true
      induction ns with
      | nil => rfl
      | cons q bs ih => simpa [PyData.canLayAll0, PyData.canLay0] using ih
    · have : PyData.depthAll (ns.map .int) ≤ 0 := dep_all fun d hd => by
        obtain ⟨q, _, rfl⟩ := List.mem_map.mp hd
        exact Nat.le_refl _
      have e : (PyData.list (ns.map .int)).depth = PyData.depthAll (ns.map .int) + 1 := by simp only [PyData.depth]
      rw [e]
      exact decide_eq_true (by omega)
  · show nodictAll (ns.map .int) = true
    induction ns with
    | nil => rfl
    | cons q bs ih => simpa [nodictAll, nodict] using ih
theorem nil_eqv {ds : List PyData} : PyData.eqv (.list ds) (.list []) = decide (ds = []) := by
  cases ds with
  | nil => rfl
  | cons d ds => simp [PyData.eqv, PyData.eqvAll]
def plc (ss : List Int) : List ((Int × Int) × Nat) := (prs ss).zipIdx.filter fun p => decide (p.1.2 < p.1.1)
theorem plc_nil {ss : List Int} (h : plc ss = []) : ∀ q ∈ prs ss, q.1 ≤ q.2 := fun q hq => by
  obtain ⟨i, hi, e⟩ := List.getElem_of_mem hq
  unfold plc at h
  rw [List.filter_eq_nil_iff] at h
  have := h (q, i) (by rw [List.mem_zipIdx_iff_getElem?]; simp [List.getElem?_eq_getElem hi, e])
  simp at this
  omega
theorem plc_get {ss : List Int} {q : Int × Int} {j : Nat} (h : (q, j) ∈ plc ss) : (prs ss)[j]? = some q ∧ q.2 < q.1 := by
  unfold plc at h
  rw [List.mem_filter] at h
  exact ⟨by have := h.1; rwa [List.mem_zipIdx_iff_getElem?] at this, by simpa using h.2⟩
theorem fall_of {ss : List Int} (h : ∀ q ∈ prs ss, q.1 ≤ q.2) : fallI ss = false := by
  unfold fallI
  rw [List.any_eq_false]
  intro q hq
  have := h q hq
  simp
  omega
theorem foldl_min_mem : ∀ (l : List Int) (a : Int), l.foldl min a ∈ a :: l
  | [], a => by simp
  | b :: l, a => by
    have := foldl_min_mem l (min a b)
    rw [List.foldl_cons]
    rcases List.mem_cons.mp this with h | h
    · rw [h]
      rcases Int.le_total a b with z | z
      · rw [Int.min_eq_left z]; simp
      · rw [Int.min_eq_right z]; simp
    · simp [h]
theorem first_ix : ∀ (l : List Int) (y : Int), y ∈ l → ∃ j : Nat, l[j]? = some y ∧ ∀ k z, k < j → l[k]? = some z → z ≠ y
  | [], _, h => by simp at h
  | a :: l, y, h => by
    by_cases ha : a = y
    · exact ⟨0, by simp [ha], fun k z hk => absurd hk (Nat.not_lt_zero k)⟩
    · obtain ⟨j, h1, h2⟩ := first_ix l y (by rcases List.mem_cons.mp h with e | e; exact absurd e.symm ha; exact e)
      refine ⟨j + 1, by simpa using h1, fun k z hk hz => ?_⟩
      match k, hz with
      | 0, hz => simp at hz; subst hz; exact ha
      | k + 1, hz => exact h2 k z (by omega) (by simpa using hz)
theorem low_of {ss : List Int} {p0 : Int × Int} {pt : List (Int × Int)} (h : prs ss = p0 :: pt) : lowI ss = some ((pt.map (·.1)).foldl min p0.1) := by
  unfold lowI
  rw [h]
  rfl
theorem dig_of {ss : List Int} (h : ss ≠ []) : ∃ a b, dig ss = some ⟨a, b, leastI ss, fallI ss, lowI ss⟩ := by
  cases ss with
  | nil => exact absurd rfl h
  | cons a t => exact ⟨_, _, rfl⟩
theorem inc_more {ss : List Int} {i : Int} (h0 : ∀ s ∈ ss, 0 ≤ s) (h : incBy (dig ss) i = true) (hm : i - leastI ss ≠ 0) : ∃ p0 pt, prs ss = p0 :: pt ∧ ((∀ q ∈ prs ss, q.1 ≤ q.2) → i ≥ leastI ss + (pt.map (·.1)).foldl min p0.1) ∧ i ≥ leastI ss := by
  cases hs : prs ss with
  | nil =>
    exfalso
    have e0 : leastI ss = 0 := by unfold leastI; rw [hs]; rfl
    have el : lowI ss = none := by unfold lowI; rw [hs]; rfl
    by_cases hne : ss = []
    · rw [hne] at h
      have : i = 0 := by simpa [dig, incBy] using h
      omega
    · obtain ⟨x, y, e⟩ := dig_of hne
      rw [e] at h
      have : i = 0 := by simpa [incBy, el] using h
      omega
  | cons p0 pt =>
    have el := low_of hs
    have hne : ss ≠ [] := fun z => by rw [z] at hs; simp [prs] at hs
    obtain ⟨x, y, e⟩ := dig_of hne
    rw [e] at h
    simp only [incBy, el, Bool.or_eq_true, decide_eq_true_eq] at h
    have hlow : 0 ≤ (pt.map (·.1)).foldl min p0.1 := by
      have := foldl_min_mem (pt.map (·.1)) p0.1
      have e2 : p0.1 :: pt.map (·.1) = (prs ss).map (·.1) := by rw [hs]; rfl
      rw [e2] at this
      obtain ⟨q, hq, e3⟩ := List.mem_map.mp this
      rw [← e3]
      exact h0 _ (prs_mem hq).1
    refine ⟨p0, pt, rfl, fun hn => ?_, ?_⟩
    · have ef := fall_of (ss := ss) (by rw [hs]; exact hn)
      rw [ef] at h
      simp at h
      omega
    · rcases h with h | h
      · omega
      · split at h <;> omega

/-! courses -/
theorem prs_snoc : ∀ (ss : List Int) (a x : Int), prs ((ss ++ [a]) ++ [x]) = prs (ss ++ [a]) ++ [(a, x)]
  | [], a, x => rfl
  | [b], a, x => rfl
  | b :: c :: t, a, x => by
    have := prs_snoc (c :: t) a x
    simp only [List.cons_append, prs] at this ⊢
    rw [this]
theorem paired_snoc2 {α β : Type} {R : α → β → Prop} : ∀ {l : List α} {k : List β} {a : α} {b : β}, Paired R l k → R a b → Paired R (l ++ [a]) (k ++ [b])
  | _, _, _, _, .nil, r => .cons r .nil
  | _, _, _, _, .cons q t, r => .cons q (paired_snoc2 t r)
theorem sum_ge : ∀ {l : List Int}, (∀ g ∈ l, 0 ≤ g) → 0 ≤ l.sum
  | [], _ => Int.le_refl 0
  | a :: l, h => by
    have h1 := sum_ge (l := l) fun g hg => h g (List.mem_cons_of_mem _ hg)
    have h2 := h a (by simp)
    rw [List.sum_cons]
    omega
theorem sum_last : ∀ {l : List Int} (hne : l ≠ []), (∀ g ∈ l, 0 ≤ g) → l.getLast hne ≤ l.sum
  | [], h, _ => absurd rfl h
  | [a], _, _ => by simp
  | a :: b :: l, _, h => by
    have h1 := sum_last (l := b :: l) (by simp) fun g hg => h g (List.mem_cons_of_mem _ hg)
    have h2 := h a (by simp)
    rw [List.getLast_cons (by simp), List.sum_cons]
    omega
/-- a path's sum: the least one, or by a fall -/
theorem pth_sum {q : Int × Int} {p : List Int} (h1 : 0 ≤ q.1) (h2 : 0 ≤ q.2) (h : PthOk q p) : stp q ≤ p.sum ∧ (p.length ≤ 1 → p.sum = stp q ∧ q.1 ≤ q.2) ∧ (p.sum ≠ stp q → q.1 ≤ q.2 → stp q + q.1 ≤ p.sum) := by
  obtain ⟨hg, hp⟩ := h
  unfold stp
  match p, hg, hp with
  | [], _, hp => exact Bool.noConfusion hp
  | [g], hg, hp =>
    have e : q.1 + g = q.2 := of_decide_eq_true hp
    have := hg g (by simp)
    rw [if_pos (by omega)]
    refine ⟨by simp; omega, fun _ => ⟨by simp; omega, by omega⟩, fun z => absurd ?_ z⟩
    simp; omega
  | g :: k :: t, hg, hp =>
    have e : (g :: k :: t).getLast (by simp) = q.2 := of_decide_eq_true hp
    have hs := sum_last (l := g :: k :: t) (by simp) hg
    rw [e] at hs
    refine ⟨?_, fun z => ?_, fun _ z => ?_⟩
    · split <;> omega
    · simp at z
    · rw [if_pos z]; omega
theorem tot_cons {p : List Int} {ps : List (List Int)} : totI (p :: ps) = p.sum + totI ps := by unfold totI; simp
theorem crs_sum : ∀ {l : List (Int × Int)} {ps : List (List Int)}, Paired PthOk l ps → (∀ q ∈ l, 0 ≤ q.1 ∧ 0 ≤ q.2) → (l.map stp).sum ≤ totI ps ∧ ((∀ p ∈ ps, p.length ≤ 1) → totI ps = (l.map stp).sum) ∧
    ((∀ q ∈ l, q.1 ≤ q.2) → totI ps = (l.map stp).sum ∨ ∃ q ∈ l, (l.map stp).sum + q.1 ≤ totI ps)
  | _, _, .nil, _ => ⟨Int.le_refl _, fun _ => rfl, fun _ => .inl rfl⟩
  | q :: l, p :: ps, .cons r t, h => by
    obtain ⟨h1, h2, h3⟩ := crs_sum t fun u hu => h u (List.mem_cons_of_mem _ hu)
    obtain ⟨g1, g2, g3⟩ := pth_sum (h _ (by simp)).1 (h _ (by simp)).2 r
    rw [tot_cons, List.map_cons, List.sum_cons]
    refine ⟨by omega, fun z => ?_, fun z => ?_⟩
    · have a1 := (g2 (z _ (by simp))).1
      have a2 := h2 fun u hu => z u (List.mem_cons_of_mem _ hu)
      omega
    · have zq := z _ (List.mem_cons_self)
      rcases h3 (fun u hu => z u (List.mem_cons_of_mem _ hu)) with e | ⟨u, hu, e⟩
      · by_cases e2 : p.sum = stp q
        · exact .inl (by omega)
        · exact .inr ⟨q, by simp, by have := g3 e2 zq; omega⟩
      · exact .inr ⟨u, List.mem_cons_of_mem _ hu, by omega⟩
theorem foldl_min_le : ∀ (l : List Int) (a : Int), l.foldl min a ≤ a ∧ ∀ x ∈ l, l.foldl min a ≤ x
  | [], a => ⟨Int.le_refl a, fun _ h => by simp at h⟩
  | b :: l, a => by
    obtain ⟨h1, h2⟩ := foldl_min_le l (min a b)
    rw [List.foldl_cons]
    refine ⟨by omega, fun x hx => ?_⟩
    rcases List.mem_cons.mp hx with rfl | hx
    · omega
    · exact h2 x hx
theorem low_le {ss : List Int} {q : Int × Int} {l : Int} (hq : q ∈ prs ss) (hl : lowI ss = some l) : l ≤ q.1 := by
  cases hs : prs ss with
  | nil => rw [hs] at hq; simp at hq
  | cons p0 pt =>
    rw [low_of hs] at hl
    cases hl
    rw [hs] at hq
    obtain ⟨h1, h2⟩ := foldl_min_le (pt.map (·.1)) p0.1
    rcases List.mem_cons.mp hq with rfl | hq
    · exact h1
    · exact h2 _ (List.mem_map_of_mem hq)
theorem falls_of {ss : List Int} (h : fallI ss = false) : ∀ q ∈ prs ss, q.1 ≤ q.2 := fun q hq => by
  unfold fallI at h
  rw [List.any_eq_false] at h
  have := h q hq
  simp at this
  omega
theorem prs_pos {ss : List Int} (h : ∀ s ∈ ss, 0 ≤ s) : ∀ q ∈ prs ss, 0 ≤ q.1 ∧ 0 ≤ q.2 := fun q hq => ⟨h _ (prs_mem hq).1, h _ (prs_mem hq).2⟩
/-- a course's sum is possible -/
theorem crs_inc {ss : List Int} {ps : List (List Int)} (h0 : ∀ s ∈ ss, 0 ≤ s) (h : CrsP ss ps) : incBy (dig ss) (totI ps) = true ∧ leastI ss ≤ totI ps := by
  obtain ⟨h1, h2, h3⟩ := crs_sum h (prs_pos h0)
  refine ⟨?_, h1⟩
  by_cases hne : ss = []
  · subst hne
    cases h
    rfl
  · obtain ⟨x, y, e⟩ := dig_of hne
    rw [e]
    cases hl : lowI ss with
    | none =>
      have hp : prs ss = [] := by
        cases hs : prs ss with
        | nil => rfl
        | cons p0 pt => rw [low_of hs] at hl; cases hl
      have e1 : totI ps = 0 := by
        have h' := h
        unfold CrsP at h'
        rw [hp] at h'
        cases h'
        rfl
      rw [e1]
      rfl
    | some l =>
      have hle : leastI ss ≤ totI ps := h1
      simp only [incBy, Bool.or_eq_true, decide_eq_true_eq]
      cases hf : fallI ss with
      | true => exact .inr (by rw [if_pos rfl]; omega)
      | false =>
        rw [if_neg (by simp)]
        rcases h3 (falls_of hf) with z | ⟨q, hq, z⟩
        · exact .inl z
        · have := low_le hq hl
          have e2 : (List.map stp (prs ss)).sum = leastI ss := rfl
          exact .inr (by omega)
theorem crs_single {ss : List Int} {ps : List (List Int)} (h0 : ∀ s ∈ ss, 0 ≤ s) (h : CrsP ss ps) (hp : ∀ p ∈ ps, p.length ≤ 1) : totI ps = leastI ss := (crs_sum h (prs_pos h0)).2.1 hp
theorem plain_crs {ss : List Int} (h0 : ∀ s ∈ ss, 0 ≤ s) : CrsP ss ((prs ss).map plainI) ∧ totI ((prs ss).map plainI) = leastI ss := plain_all fun q hq => (prs_pos h0 q hq).2
theorem gOk_all {p : List Int} (h : ∀ g ∈ p, 0 ≤ g) : (p.map PyData.int).all gOk = true := List.all_eq_true.mpr fun d hd => by
  obtain ⟨g, hg, rfl⟩ := List.mem_map.mp hd
  exact decide_eq_true (h g hg)
theorem pthB_ok {q : Int × Int} {p : List Int} (h : PthOk q p) : pathB q.1 q.2 (pthD p) = true := by
  show ((p.map PyData.int).all gOk && match intsOf (p.map .int) with | some gs => pthI q.1 q.2 gs | none => false) = true
  rw [gOk_all h.1, intsOf_map]
  exact h.2
theorem courseB_ok {ss : List Int} {ps : List (List Int)} (h : CrsP ss ps) : courseB ss (.list (ps.map pthD)) = true := by
  have hl : ps.length = (prs ss).length := (Paired.length h).symm
  show (decide ((ps.map pthD).length = (prs ss).length) && (List.zip (prs ss) (ps.map pthD)).all fun p => pathB p.1.1 p.1.2 p.2) = true
  rw [List.length_map, decide_eq_true hl, Bool.true_and]
  clear hl
  unfold CrsP at h
  generalize prs ss = l at h
  induction h with
  | nil => rfl
  | cons r t ih => rw [List.map_cons, List.zip_cons_cons, List.all_cons, pthB_ok r, ih]; rfl
/-- two paths make one -/
theorem pth_join {a b c : Int} {p q : List Int} (hp : PthOk (a, b) p) (hq : PthOk (b, c) q) : ∃ r, PthOk (a, c) r ∧ r.sum = p.sum + q.sum := by
  obtain ⟨hp0, hp⟩ := hp
  obtain ⟨hq0, hq⟩ := hq
  have key : ∀ (p q : List Int), (∀ g ∈ p, 0 ≤ g) → (∀ g ∈ q, 0 ≤ g) → ∀ (u : Int) (v : Int) (t : List Int), q = v :: t → 0 ≤ u → (∀ g ∈ p ++ (u + v) :: t, 0 ≤ g) := fun p q h1 h2 u v t e hu g hg => by
    subst e
    have hv := h2 v (by simp)
    simp only [List.mem_append, List.mem_cons] at hg
    rcases hg with hg | rfl | hg
    · exact h1 g hg
    · omega
    · exact h2 g (by simp [hg])
  match p, q, hp0, hq0, hp, hq with
  | [], _, _, _, hp, _ => exact Bool.noConfusion hp
  | _ :: _, [], _, _, _, hq => exact Bool.noConfusion hq
  | [g], v :: t, hp0, hq0, hp, hq =>
    have e : a + g = b := of_decide_eq_true hp
    refine ⟨(g + v) :: t, ⟨key [] (v :: t) (by simp) hq0 g v t rfl (hp0 g (by simp)), ?_⟩, by simp; omega⟩
    match t, hq with
    | [], hq =>
      have e2 : b + v = c := of_decide_eq_true hq
      exact decide_eq_true (show a + (g + v) = c by omega)
    | k :: t, hq =>
      have e2 : (v :: k :: t).getLast (by simp) = c := of_decide_eq_true hq
      refine decide_eq_true ?_
      rw [List.getLast_cons (List.cons_ne_nil _ _)] at e2 ⊢
      exact e2
  | g :: k :: s, v :: t, hp0, hq0, hp, hq =>
    have e : (g :: k :: s).getLast (by simp) = b := of_decide_eq_true hp
    have ei : g :: k :: s = (g :: k :: s).dropLast ++ [b] := by rw [← e]; exact (List.dropLast_concat_getLast (by simp)).symm
    have hb : 0 ≤ b := by rw [← e]; exact hp0 _ (List.getLast_mem _)
    refine ⟨(g :: k :: s).dropLast ++ (b + v) :: t, ⟨key _ (v :: t) (fun x hx => hp0 x (List.dropLast_subset _ hx)) hq0 b v t rfl hb, ?_⟩, ?_⟩
    · have e3 : (g :: k :: s).dropLast = g :: (k :: s).dropLast := rfl
      rw [e3]
      have e4 : ∃ y z, (k :: s).dropLast ++ (b + v) :: t = y :: z := by
        cases h : (k :: s).dropLast with
        | nil => exact ⟨_, _, rfl⟩
        | cons y z => exact ⟨_, _, rfl⟩
      obtain ⟨y, z, e4⟩ := e4
      have e5 : g :: (k :: s).dropLast ++ (b + v) :: t = g :: y :: z := by rw [List.cons_append, e4]
      rw [e5]
      refine decide_eq_true ?_
      have e6 : (g :: y :: z).getLast (by simp) = ((b + v) :: t).getLast (by simp) := by
        have : g :: y :: z = (g :: (k :: s).dropLast) ++ ((b + v) :: t) := e5.symm
        simp only [this]
        rw [List.getLast_append_of_ne_nil (by simp)]
      rw [e6]
      match t, hq with
      | [], hq =>
        have e2 : b + v = c := of_decide_eq_true hq
        exact e2
      | x :: t, hq =>
        have e2 : (v :: x :: t).getLast (by simp) = c := of_decide_eq_true hq
        rw [List.getLast_cons (by simp)] at e2 ⊢
        exact e2
    · have e7 := congrArg List.sum ei
      rw [List.sum_append] at e7
      simp only [List.sum_cons, List.sum_nil] at e7 ⊢
      rw [List.sum_append]
      simp only [List.sum_cons]
      omega
/-- samples may be left out -/
theorem crs_left : ∀ {mid left : List Int}, left.Sublist mid → ∀ {a z : Int} {ps : List (List Int)}, CrsP (a :: mid ++ [z]) ps → ∃ ps', CrsP (a :: left ++ [z]) ps' ∧ totI ps' = totI ps
  | _, _, .slnil, _, _, ps, h => ⟨ps, h, rfl⟩
  | _, _, .cons (l₁ := left) (l₂ := mid) b s, a, z, ps, h => by
    unfold CrsP at h
    simp only [List.cons_append, prs] at h
    cases h with
    | @cons _ p _ ps2 r t =>
      obtain ⟨w, u, e⟩ : ∃ w u, mid ++ [z] = w :: u := by
        cases mid with
        | nil => exact ⟨_, _, rfl⟩
        | cons w u => exact ⟨_, _, rfl⟩
      rw [e, prs] at t
      cases t with
      | @cons _ q _ ps3 r2 t2 =>
        obtain ⟨pq, ok, hs⟩ := pth_join r r2
        have h2 : CrsP (a :: mid ++ [z]) (pq :: ps3) := by
          unfold CrsP
          rw [List.cons_append, e, prs]
          exact .cons ok t2
        obtain ⟨ps', h3, h4⟩ := crs_left s h2
        refine ⟨ps', h3, ?_⟩
        rw [h4, tot_cons, tot_cons, tot_cons, hs]
        omega
  | _, _, .cons₂ (l₁ := left) (l₂ := mid) b s, a, z, ps, h => by
    unfold CrsP at h
    simp only [List.cons_append, prs] at h
    cases h with
    | @cons _ p _ ps2 r t =>
      obtain ⟨ps', h3, h4⟩ := crs_left s (a := b) (z := z) (ps := ps2) (by unfold CrsP; rw [List.cons_append]; exact t)
      refine ⟨p :: ps', ?_, by rw [tot_cons, tot_cons, h4]⟩
      unfold CrsP at h3 ⊢
      rw [List.cons_append, List.cons_append, prs]
      exact .cons r (by rw [List.cons_append] at h3; exact h3)
theorem cutD_map {α β : Type} (f : α → β) (xs : List α) (lo hi : Option Int) : cutD (xs.map f) lo hi = (cutD xs lo hi).map f := by
  unfold cutD
  rw [List.length_map, List.map_take, List.map_drop]
theorem six1 {n d : Nat} : HT.sIx n d (some 1) = min 1 n := by
  unfold HT.sIx
  simp only
  rw [if_neg (by omega)]
  rfl
theorem sixm {n d : Nat} : HT.sIx n d (some (-1)) = n - 1 := by
  unfold HT.sIx
  simp only
  rw [if_pos (by omega)]
  omega
theorem sixn {n d : Nat} : HT.sIx n d none = d := rfl
theorem cut_init {α : Type} (xs : List α) : cutD xs none (some (-1)) = xs.dropLast := by
  unfold cutD
  rw [sixm, sixn, List.dropLast_eq_take]
  rfl
theorem cut_mid1 {α : Type} (a : α) : cutD [a] (some 1) (some (-1)) = [] ∧ cutD [a] none (some 1) = [a] ∧ cutD (cutD [a] (some 1) none) (some (-1)) none = [] := by
  unfold cutD
  simp only [six1, sixm, sixn]
  exact ⟨rfl, rfl, rfl⟩
theorem cut_mid2 {α : Type} (a z : α) (mid : List α) : cutD (a :: mid ++ [z]) (some 1) (some (-1)) = mid ∧ cutD (a :: mid ++ [z]) none (some 1) = [a] ∧ cutD (cutD (a :: mid ++ [z]) (some 1) none) (some (-1)) none = [z] := by
  unfold cutD
  simp only [six1, sixm, sixn]
  refine ⟨?_, ?_, ?_⟩
  · simp [List.length_append]
  · simp
  · simp
    rw [List.take_of_length_le (l := mid ++ [z]) (by simp), List.drop_left]
    rfl
theorem low_init {ss : List Int} {i : Int} {t : List Int} (h : ss.dropLast = i :: t) : lowI ss = some (t.foldl min i) := by
  have e : (prs ss).map (·.1) = ss.dropLast := by
    clear h
    induction ss with
    | nil => rfl
    | cons a u ih =>
      cases u with
      | nil => rfl
      | cons b u => rw [prs, List.map_cons, ih]; rfl
  unfold lowI
  rw [e, h]
theorem pw_prs : ∀ {ss : List Int}, ss.Pairwise (· ≤ ·) → ∀ q ∈ prs ss, q.1 ≤ q.2
  | [], _, _, h => by simp [prs] at h
  | [_], _, _, h => by simp [prs] at h
  | a :: b :: t, hp, q, h => by
    rw [prs, List.mem_cons] at h
    rcases h with rfl | h
    · exact (List.pairwise_cons.mp hp).1 b (by simp)
    · exact pw_prs (List.pairwise_cons.mp hp).2 q h
theorem next_inc {ss : List Int} {l n : Int} (hf : fallI ss = false) (hl : lowI ss = some l) : incBy (dig ss) n = (decide (n = leastI ss) || decide (n ≥ leastI ss + l)) := by
  have hne : ss ≠ [] := fun z => by rw [z] at hl; simp [lowI, prs] at hl
  obtain ⟨x, y, e⟩ := dig_of hne
  rw [e]
  simp only [incBy, hl, hf]
  simp
def DC (ss : List Int) (ps : List (List Int)) : Prop := (∃ a t, ss = a :: t) ∧ ss.length ≤ 60 ∧ (∀ s ∈ ss, 0 ≤ s ∧ s ≤ 400) ∧ CrsP ss ps ∧ ps.length = ss.length - 1 ∧ ∀ p ∈ ps, p.length ≤ 3

def S_drawn : Prm where
  I := Addr × (Int × Int) × Int
  args i := [.x i.1, .d (.int 60), .d (.int i.2.2)]
  pre i m := m i.1 = some (fdO i.2.1) ∧ FOk i.2.1 ∧ 0 ≤ i.2.2 ∧ i.2.2 ≤ 40
  post i m r m' := ∃ ss ps c, FOk c ∧ DC ss ps ∧ r = .d (.tuple [smD ss, .list (ps.map pthD)]) ∧ m' = m.put i.1 (fdO c)
theorem use_l_drawn_course {m : Mem} {K : KE} {f : Addr} {c : Int × Int} {k : Int} (hm : m f = some (fdO c)) (hc : FOk c) (h0 : 0 ≤ k) (h1 : k ≤ 40) (h : ∀ ss ps c', FOk c' → DC ss ps → K (.d (.tuple [smD ss, .list (ps.map pthD)])) (m.put f (fdO c'))) :
    ∃ i, ([.x f, .d (.int 60), .d (.int k)] : List Ent) = S_drawn.args i ∧ S_drawn.pre i m ∧ ∀ r m', S_drawn.post i m r m' → K r m' :=
  ⟨(f, c, k), rfl, ⟨hm, hc, h0, h1⟩, fun r m' ⟨ss, ps, c', hc', a, e1, e2⟩ => by subst e1 e2; exact h ss ps c' hc' a⟩
theorem fz_self {p : Addr} {d : PyData} : fzE p d (some (.x p)) = some (.d d) := by simp [fzE]
theorem fz_ne {p q : Addr} {d : PyData} (h : q ≠ p) : fzE p d (some (.x q)) = some (.x q) := by simp [fzE, h]
theorem fz_d {p : Addr} {d d2 : PyData} : fzE p d (some (.d d2)) = some (.d d2) := rfl
theorem sub_1 {m m' : Mem} {f : Addr} {a : XO} (hf : m' f = some a) (h : ∀ x o, x ≠ f → m x = some o → m' x = some o) : Mem.Sub (m.put f a) m' := fun x o e => by
  by_cases h1 : x = f
  · subst h1; rw [Mem.put_same] at e; cases e; exact hf
  · rw [Mem.put_ne h1] at e; exact h x o h1 e

theorem pths_shaped (ps : List (List Int)) : SeqAt.shaped (.list (ps.map pthD)) = true ∧ nodict (.list (ps.map pthD)) = true := by
  constructor
  · refine Bool.and_eq_true_iff.mpr ⟨?_, ?_⟩
    · show PyData.canLayAll0 (ps.map pthD) = true
      induction ps with
      | nil => rfl
      | cons q bs ih =>
        have h1 : PyData.canLayAll0 (q.map PyData.int) = true := by
          clear ih
          induction q with
          | nil => rfl
          | cons a q ih => simpa [PyData.canLayAll0, PyData.canLay0] using ih
        simp only [List.map_cons, PyData.canLayAll0, PyData.canLay0, h1, ih, Bool.and_self]
    · have : PyData.depthAll (ps.map pthD) ≤ 1 := dep_all fun d hd => by
        obtain ⟨q, _, rfl⟩ := List.mem_map.mp hd
        have : PyData.depthAll (q.map PyData.int) ≤ 0 := dep_all fun d hd => by
          obtain ⟨q, _, rfl⟩ := List.mem_map.mp hd
          exact Nat.le_refl _
        have e : (PyData.list (q.map PyData.int)).depth = PyData.depthAll (q.map PyData.int) + 1 := by simp only [PyData.depth]
        show (PyData.list (q.map PyData.int)).depth ≤ 1
        rw [e]
        omega
      have e : (PyData.list (ps.map pthD)).depth = PyData.depthAll (ps.map pthD) + 1 := by simp only [PyData.depth]
      rw [e]
      exact decide_eq_true (by omega)
  · show nodictAll (ps.map pthD) = true
    induction ps with
    | nil => rfl
    | cons q bs ih =>
      have h1 : nodictAll (q.map PyData.int) = true := (ints_shaped q).2
      simp only [List.map_cons, nodictAll, nodict, h1, ih, Bool.and_self]
theorem ints_eqv : ∀ (a b : List Int), PyData.eqv (.list (a.map .int)) (.list (b.map .int)) = decide (a = b) := by
  have h : ∀ (a b : List Int), PyData.eqvAll (a.map .int) (b.map .int) = decide (a = b) := by
    intro a
    induction a with
    | nil => intro b; cases b <;> simp [PyData.eqvAll]
    | cons x a ih =>
      intro b
      cases b with
      | nil => simp [PyData.eqvAll]
      | cons y b =>
        simp only [List.map_cons, PyData.eqvAll, eqv_int, ih, List.cons.injEq]
        by_cases h1 : x = y <;> by_cases h2 : a = b <;> simp [h1, h2]
  intro a b
  rw [PyData.eqv]
  exact h a b
theorem short_pth {ss : List Int} {ps : List (List Int)} (h : CrsP ss ps) (hs : ss.length ≤ 60) : ps.length < 1000000 := by
  have h1 := Paired.length h
  rw [prs_length] at h1
  omega

theorem least_le {B : Int} : ∀ {l : List (Int × Int)}, (∀ q ∈ l, 0 ≤ q.1 ∧ 0 ≤ q.2 ∧ q.2 ≤ B) → 0 ≤ (l.map stp).sum ∧ (l.map stp).sum ≤ B * l.length
  | [], _ => by simp
  | q :: l, h => by
    obtain ⟨h1, h2⟩ := least_le (l := l) fun u hu => h u (List.mem_cons_of_mem _ hu)
    obtain ⟨a, b, d⟩ := h q (by simp)
    have e : 0 ≤ stp q ∧ stp q ≤ B := by unfold stp; split <;> omega
    rw [List.map_cons, List.sum_cons, List.length_cons]
    have e2 : B * ((l.length + 1 : Nat) : Int) = B * (l.length : Int) + B := by rw [Int.natCast_add, Int.mul_add]; simp
    rw [e2]
    omega
theorem cutD_le {α : Type} {xs : List α} {lo hi : Option Int} : (cutD xs lo hi).length ≤ xs.length := by
  unfold cutD
  rw [List.length_take, List.length_drop]
  omega
theorem cutD_mem {α : Type} {xs : List α} {lo hi : Option Int} {x : α} (h : x ∈ cutD xs lo hi) : x ∈ xs := List.mem_of_mem_drop (List.mem_of_mem_take h)
theorem ss_cases {ss : List Int} {a : Int} {t : List Int} (h : ss = a :: t) : ss = [a] ∨ ∃ a mid z, ss = a :: mid ++ [z] := by
  subst h
  cases t with
  | nil => exact .inl rfl
  | cons b t => exact .inr ⟨a, (b :: t).dropLast, (b :: t).getLast (by simp), by rw [List.cons_append, List.dropLast_concat_getLast]⟩
theorem ints_shapedN {l : List Nat} (f : Nat → Int) : SeqAt.shaped (.list (l.map fun i => .int (f i))) = true ∧ nodict (.list (l.map fun i => .int (f i))) = true := by
  have := ints_shaped (l.map f)
  rw [List.map_map] at this
  exact this
section
variable {C_NoCourse : Addr} {P : Program} {w : World} {K : PySem.W.Frag} {mg : Str → Option Value} {base : Heap}
theorem ec_NoCourse (T : Txt K mg C_NoCourse) : ErrC P w K mg base "NoCourse" C_NoCourse ["increase"] := by
  obtain ⟨fI, fd, h1, h2, Fn⟩ := T.i_NoCourse
  exact ⟨T.mg_NoCourse, T.oex_NoCourse, fun f hf => by simp only [List.mem_cons, List.not_mem_nil, or_false] at hf; subst hf; exact T.na_NoCourse_increase, fI, fd, _, h1, h2, init1 Fn sc_NoCourse_init rfl, Fn.binds fun _ _ _ _ _ _ us hl => match us, hl with | [_, _], _ => rfl⟩
theorem av_l_feed (T : Txt K mg C_NoCourse) : Av P w K mg base 1 "_law_feed" p_l_feed S_feed := by
  obtain ⟨f, fd, Fn, hmg⟩ := T.f_l_feed
  refine ⟨f, fd, fn_G Fn sc_l_feed (fun _ => rfl) ?_, hmg, Fn.kp, Fn.binds fun _ _ _ _ _ _ us hl => match us, hl with | [_, _], _ => rfl⟩
  intro cdv A outer s H E Zx c
  rintro ⟨ns, k⟩ m ⟨hk, hb⟩
  simp only at hk hb
  change WB _ _ [some (.d (.list (ns.map .int))), some (.d (.int (k : Int))), none, none, none] m _
  refine wb_cons ?_
  refine ws_set 2 c.nd rfl (by walk_at "zloc") ?_
  refine WE.cut (fun r m' => ∃ z : Int, r = .d (.int z) ∧ z.natAbs.log2 ≤ 1048576 ∧ m' = m) ?_ ?_
  · refine we_if ?_
    refine wt_cmp op_lt (nomark _) ?_
    refine v 1 ?_
    refine we_callB c_len rfl T.b_len (by decide +kernel) ?_
    refine wa_cons ?_
    refine v 0 ?_
    refine wa_nil ?_
    walk_at "zlen"
    refine r2_B0 ?_
    refine ⟨_, rfl, ?_⟩
    refine ⟨fun hc1 => ?_, fun hc1 => ?_⟩
    · have hkl := of_decide_eq_true hc1
      obtain ⟨z, hz1, hz2⟩ := nat_get (xs := ns) (k := k) (by simpa using hkl)
      refine we_ix ix_seq ?_
      refine v 0 ?_
      refine v 1 ?_
      refine ix_L (d := .int z) .d (by rw [show atI (ns.map PyData.int) (k : Int) = (atI ns (k : Int)).map PyData.int from atI_map, hz1]; rfl) ⟨z, rfl, bits_log (hb z hz2), rfl⟩
      skip
    · refine we_op op_addZ ?_
      refine we_op op_mulZ ?_
      refine we_int ?_
      refine v 1 ?_
      refine r2_I (by walk_at "zsm") ?_
      refine we_int ?_
      refine add_I ⟨_, rfl, ?_, rfl⟩
      exact small_log (by omega)
      skip
  · rintro r m1 ⟨z, rfl, hz, rfl⟩
    refine wb_cons ?_
    refine ws_set 3 c.nd rfl (by walk_at "zloc") ?_
    refine we_op op_sub ?_
    refine we_callB c_abs rfl T.b_abs (by decide +kernel) ?_
    refine wa_cons ?_
    refine v 2 ?_
    refine wa_nil ?_
    walk_at "zabs"
    refine we_op op_pow ?_
    refine we_int ?_
    refine we_int ?_
    refine r2_I (by walk_at "zsm") ?_
    refine r2_I0 ?_
    refine wb_cons ?_
    refine ws_set 4 c.nd rfl (by walk_at "zloc") ?_
    refine we_op op_mod ?_
    refine we_callTy c_int1 rfl T.b_int (by decide +kernel) ?_
    refine wa_cons ?_
    refine we_op op_addZ ?_
    refine we_op op_mulZ ?_
    refine v 2 ?_
    refine we_int ?_
    refine r2_I (by exact cell_mul hz) ?_
    refine we_op op_mulZ ?_
    refine we_int ?_
    refine we_op op_addZ ?_
    refine v 1 ?_
    refine we_int ?_
    walk_at "z+"
    refine r2_I (by walk_at "zsm") ?_
    walk_at "z+"
    refine wa_nil ?_
    walk_at "zint"
    refine we_int ?_
    refine r2_I (by walk_at "zsm") ?_
    refine wb_cons ?_
    refine ws_ret ?_
    refine we_lstX ?_
    refine wa_cons ?_
    refine we_callB (c_max2 c.calm) rfl T.b_max (by decide +kernel) ?_
    refine wa_cons ?_
    refine we_int ?_
    refine wa_cons ?_
    refine v 3 ?_
    refine wa_nil ?_
    refine max_II ?_
    refine wa_cons ?_
    refine v 4 ?_
    refine wa_nil ?_
    refine ⟨by simp, fun q2 nq2 => ?_⟩
    refine ⟨_, Sub.refl, _, (_, _), (by assumption), ⟨?_, ?_, ?_⟩, rfl, rfl⟩
    · exact Int.le_max_left _ _
    · exact Int.emod_nonneg _ (by decide)
    · exact Int.emod_lt_of_pos _ (by decide)
theorem av_l_take (T : Txt K mg C_NoCourse) : Av P w K mg base 1 "_law_take" p_l_take S_take := by
  obtain ⟨f, fd, Fn, hmg⟩ := T.f_l_take
  refine ⟨f, fd, fn_G Fn sc_l_take (fun _ => rfl) ?_, hmg, Fn.kp, Fn.binds fun _ _ _ _ _ _ us hl => match us, hl with | [_, _], _ => rfl⟩
  intro cdv A outer s H E Zx c
  rintro ⟨f, ⟨dg, st⟩, k⟩ m ⟨hm, ⟨h1, h2, h3⟩, h4, h5⟩
  simp only at hm h1 h2 h3 h4 h5
  change WB _ _ [some (.x f), some (.d (.int k)), none] m _
  refine wb_cons ?_
  refine ws_if ?_
  refine wt_cmp op_gt (nomark _) ?_
  refine we_ix ix_seq ?_
  refine v 0 ?_
  refine we_int ?_
  walk_at "z[]"
  refine we_int ?_
  refine r2_B0 ?_
  refine ⟨_, rfl, ?_⟩
  refine ⟨fun hc1 => ?_, fun hc1 => ?_⟩
  · skip
    refine wb_cons ?_
    refine ws_set 2 c.nd rfl (by walk_at "zloc") ?_
    refine we_op op_mod ?_
    refine we_callTy c_int1 rfl T.b_int (by decide +kernel) ?_
    refine wa_cons ?_
    refine we_ix ix_seq ?_
    refine v 0 ?_
    refine we_int ?_
    walk_at "z[]"
    refine wa_nil ?_
    walk_at "zint"
    refine v 1 ?_
    refine r2_I (by walk_at "zsm") ?_
    refine wb_cons ?_
    refine ws_setix ?_
    refine we_op op_fdivW ?_
    refine we_ix ix_seq ?_
    refine v 0 ?_
    refine we_int ?_
    walk_at "z[]"
    refine v 1 ?_
    refine r2_I (by walk_at "zsm") ?_
    refine v 0 ?_
    refine we_int ?_
    refine ⟨_, _, _, _, rfl, rfl, by walk_at "zmem", rfl, ?_⟩
    refine wb_cons ?_
    refine ws_ret ?_
    refine v 2 ?_
    refine ⟨_, Sub.refl, _, (dg / k, st), ⟨?_, h2, h3⟩, ?_, ?_, rfl, rfl⟩
    · exact Int.ediv_nonneg h1 (by omega)
    · exact Int.emod_nonneg _ (by omega)
    · exact Int.emod_lt_of_pos _ h4
  · refine wb_nil ?_
    refine wb_cons ?_
    refine ws_setix ?_
    refine we_op op_mod ?_
    refine we_callTy c_int1 rfl T.b_int (by decide +kernel) ?_
    refine wa_cons ?_
    refine we_op op_addZ ?_
    refine we_op op_mulZ ?_
    refine we_ix ix_seq ?_
    refine v 0 ?_
    refine we_int ?_
    walk_at "z[]"
    refine we_int ?_
    refine r2_I (by walk_at "zsm") ?_
    refine we_int ?_
    walk_at "z+"
    refine wa_nil ?_
    walk_at "zint"
    refine we_int ?_
    refine r2_I (by walk_at "zsm") ?_
    refine v 0 ?_
    refine we_int ?_
    refine ⟨_, _, _, _, rfl, rfl, by walk_at "zmem", rfl, ?_⟩
    refine wb_cons ?_
    refine ws_ret ?_
    refine we_op op_mod ?_
    refine we_callTy c_int1 rfl T.b_int (by decide +kernel) ?_
    refine wa_cons ?_
    refine we_op op_fdivW ?_
    refine we_ix ix_seq ?_
    refine v 0 ?_
    refine we_int ?_
    walk_at "z[]"
    refine we_int ?_
    refine r2_I (by walk_at "zsm") ?_
    refine wa_nil ?_
    walk_at "zint"
    refine v 1 ?_
    refine r2_I (by walk_at "zsm") ?_
    refine ⟨_, Sub.refl, _, (dg, (st * 742938285 + 1013904223) % 2305843009213693951), ⟨h1, ?_, ?_⟩, ?_, ?_, rfl, rfl⟩
    · exact Int.emod_nonneg _ (by decide)
    · exact Int.emod_lt_of_pos _ (by decide)
    · exact Int.emod_nonneg _ (by omega)
    · exact Int.emod_lt_of_pos _ h4
theorem av_l_pick (T : Txt K mg C_NoCourse) : Av P w K mg base 2 "_law_pick" p_l_pick S_pick := by
  obtain ⟨f, fd, Fn, hmg⟩ := T.f_l_pick
  refine ⟨f, fd, fn_G Fn sc_l_pick (fun _ => rfl) ?_, hmg, Fn.kp, Fn.binds fun _ _ _ _ _ _ us hl => match us, hl with | [_, _], _ => rfl⟩
  intro cdv A outer s H E Zx c
  rintro ⟨f, c0, x, ds⟩ m ⟨hm, hc0, hx, hf, h0, h1⟩
  simp only at hm hc0 hx hf h0 h1
  change WB _ _ [some (.x f), some x] m _
  refine wb_cons ?_
  refine ws_ret ?_
  refine we_ix ix_seq ?_
  refine v 1 ?_
  refine we_call c (av_l_take T) (by decide) rfl ?_
  refine wa_cons ?_
  refine v 0 ?_
  refine wa_cons ?_
  refine we_callB c_len rfl T.b_len (by decide +kernel) ?_
  refine wa_cons ?_
  refine v 1 ?_
  refine wa_nil ?_
  refine len_L hx ?_
  rw [fd_of hm]
  refine wa_nil ?_
  refine use_l_take hc0 (by omega) (by omega) fun t1 c1 hc1 lo1 hi1 => ?_
  obtain ⟨d, hd1, hd2⟩ := int_get lo1 hi1
  refine ix_L (Dat.put hx hf) hd1 ?_
  exact ⟨_, Sub.refl, d, _, by assumption, hd2, rfl, Mem.put_put.symm⟩
theorem av_pairs_of (T : Txt K mg C_NoCourse) : Av P w K mg base 1 "pairs_of" p_pairs_of S_pairs := by
  obtain ⟨f, fd, Fn, hmg⟩ := T.f_pairs_of
  refine ⟨f, fd, fn_G Fn sc_pairs_of (fun _ => rfl) ?_, hmg, Fn.kp, Fn.binds fun _ _ _ _ _ _ us hl => match us, hl with | [_], _ => rfl⟩
  intro cdv A outer s H E Zx c
  intro (ss : List Int) m (hl : ss.length < 1000000)
  change WB _ _ [some (.d (smD ss)), none] m _
  refine wb_cons ?_
  refine ws_ret ?_
  refine we_lcD [("k", 1)] c.calm c.nd (blkOk_by (N := n_pairs_of) (sc := defScope s_pairs_of) (by decide +kernel)) ?_
  refine wi_rng1 rfl T.b_range ?_
  refine wa_cons ?_
  refine we_op op_sub ?_
  refine we_callB c_len rfl T.b_len (by decide +kernel) ?_
  refine wa_cons ?_
  refine v 0 ?_
  refine wa_nil ?_
  refine len_L .d ?_
  rw [List.length_map]
  refine we_int ?_
  refine r2_I0 ?_
  refine wa_nil ?_
  refine ⟨_, rfl, by omega, by omega, ?_⟩
  refine ⟨fun i acc m' => acc = List.map .d (((prs ss).take i).map prD) ∧ m = m', ?_, ?_, ?_⟩
  · exact ⟨rfl, rfl⟩
  · intro i1 d1 acc1 m1 hd1 hi1
    obtain ⟨rfl, rfl⟩ := hi1
    obtain ⟨hlt1, rfl⟩ := intsD_get hd1
    rw [Int.zero_add]
    obtain ⟨a, b, ha, hb, hq⟩ := prs_get ss i1 (by omega)
    refine ⟨by simp; omega, fun s0 H0 C cl fp => ?_⟩
    refine wg_name 1 c.nd rfl (by walk_at "zloc") ?_
    intro s0 H0 C cl fp
    refine ⟨fun _ s0 H0 C cl fp => ?_, fun hb => Bool.noConfusion hb⟩
    refine we_tup ?_
    refine wa_cons ?_
    refine we_ix ix_seq ?_
    refine v 0 ?_
    refine v 1 ?_
    refine ix_L (d := .int a) .d (atI_nat (by rw [List.getElem?_map, ha]; rfl)) ?_
    refine wa_cons ?_
    refine we_ix ix_seq ?_
    refine v 0 ?_
    refine we_op op_addZ ?_
    refine v 1 ?_
    refine we_int ?_
    walk_at "z+"
    refine ix_L (d := .int b) .d (atI_nat (j := i1 + 1) (by rw [List.getElem?_map, hb]; rfl)) ?_
    refine wa_nil ?_
    refine ⟨[_, _], rfl, by simp, ?_⟩
    exact ⟨by rw [List.take_add_one, hq]; simp, rfl⟩
  · intro acc1 m1 ⟨e11, e21⟩
    subst e11 e21
    refine ⟨(prs ss).map prD, by rw [intsD_length, List.take_of_length_le (by rw [prs_length]; omega)], ?_⟩
    exact ⟨_, Sub.refl, rfl, rfl⟩
theorem av_digest (T : Txt K mg C_NoCourse) : Av P w K mg base 2 "digest" p_digest S_digest := by
  obtain ⟨f, fd, Fn, hmg⟩ := T.f_digest
  refine ⟨f, fd, fn_G Fn sc_digest (fun _ => rfl) ?_, hmg, Fn.kp, Fn.binds fun _ _ _ _ _ _ us hl => match us, hl with | [_], _ => rfl⟩
  intro cdv A outer s H E Zx c
  intro (ss : List Int) m (hl : ss.length < 1000000)
  change WB _ _ [some (.d (smD ss)), none, none, none, none, none, none] m _
  have hpl := prs_small ss hl
  refine wb_cons ?_
  refine ws_if ?_
  refine wt_cmp (op_eqD c.room.units) (nomark _) ?_
  refine we_callB c_len rfl T.b_len (by decide +kernel) ?_
  refine wa_cons ?_
  refine v 0 ?_
  refine wa_nil ?_
  refine len_L .d ?_
  rw [List.length_map]
  refine we_int ?_
  refine eq_I ?_
  refine ⟨_, rfl, ?_⟩
  refine ⟨fun hc1 => ?_, fun hc1 => ?_⟩
  · have h0 := of_decide_eq_true hc1
    obtain rfl : ss = [] := List.eq_nil_of_length_eq_zero (by omega)
    refine wb_cons ?_
    refine ws_ret ?_
    refine we_non ?_
    exact ⟨_, Sub.refl, rfl, rfl⟩
  · have h0 := of_decide_eq_false hc1
    obtain ⟨s0, st, rfl⟩ : ∃ a t, ss = a :: t := by
      cases ss with
      | nil => exact absurd rfl h0
      | cons a t => exact ⟨a, t, rfl⟩
    generalize hss : s0 :: st = ss at *
    refine wb_nil ?_
    refine wb_cons ?_
    refine ws_set 1 c.nd rfl (by walk_at "zloc") ?_
    refine we_call c (av_pairs_of T) (by decide) rfl ?_
    refine wa_cons ?_
    refine v 0 ?_
    refine wa_nil ?_
    refine use_pairs_of (by assumption) ?_
    refine wb_cons ?_
    refine ws_set 2 c.nd rfl (by walk_at "zloc") ?_
    refine we_callB (c_sumZ c.calm) rfl T.b_sum (by decide +kernel) ?_
    refine wa_cons ?_
    refine we_lcD [("before", 5), ("after", 6)] c.calm c.nd (blkOk_by (N := n_digest) (sc := defScope s_digest) (by decide +kernel)) ?_
    refine wi_list ?_
    refine v 1 ?_
    refine ⟨_, rfl, ?_⟩
    refine ⟨fun i acc m' => acc = List.map .d (((prs ss).take i).map fun q => .int (stp q)) ∧ m = m', ?_, ?_, ?_⟩
    · exact ⟨rfl, rfl⟩
    · intro i3 d3 acc3 m3 hd3 hi3
      obtain ⟨rfl, rfl⟩ := hi3
      obtain ⟨q, hq, rfl⟩ := prD_get hd3
      have hil := (List.getElem?_eq_some_iff.mp hq).1
      refine ⟨by simp; omega, fun s0 H0 C cl fp => ?_⟩
      refine wg_tup c.calm ?_ rfl
      refine wgs_cons ?_
      refine wg_name 5 c.nd rfl (by walk_at "zloc") ?_
      refine wgs_cons ?_
      refine wg_name 6 c.nd rfl (by walk_at "zloc") ?_
      refine wgs_nil ?_
      intro s0 H0 C cl fp
      refine ⟨fun _ s0 H0 C cl fp => ?_, fun hb => Bool.noConfusion hb⟩
      refine WE.cut (fun r m' => r = .d (.int (stp q)) ∧ m' = m) ?_ ?_
      · refine we_if ?_
        refine wt_cmp op_ge (nomark _) ?_
        refine v 6 ?_
        refine v 5 ?_
        refine r2_B0 ?_
        refine ⟨_, rfl, ?_⟩
        refine ⟨fun hc4 => ?_, fun hc4 => ?_⟩
        · refine we_op op_sub ?_
          refine v 6 ?_
          refine v 5 ?_
          refine r2_I0 ?_
          first
            | exact ⟨by unfold stp; rw [if_pos (of_decide_eq_true (by assumption))], rfl⟩
            | exact ⟨by unfold stp; rw [if_neg (of_decide_eq_false (by assumption))], rfl⟩
        · refine v 6 ?_
          first
            | exact ⟨by unfold stp; rw [if_pos (of_decide_eq_true (by assumption))], rfl⟩
            | exact ⟨by unfold stp; rw [if_neg (of_decide_eq_false (by assumption))], rfl⟩
      · rintro r m1 ⟨rfl, rfl⟩
        exact ⟨by rw [List.take_add_one, hq]; simp, rfl⟩
    · intro acc3 m3 ⟨e13, e23⟩
      subst e13 e23
      rw [List.length_map, List.take_length]
      refine ⟨_, rfl, ?_⟩
      refine wa_nil ?_
      refine sum_Z (ns := (prs ss).map stp) (.inl (by rw [List.map_map]; exact .d)) ?_
      refine wb_cons ?_
      refine ws_set 3 c.nd rfl (by walk_at "zloc") ?_
      refine we_callB (cr_any c.calm) rfl T.b_any (by decide +kernel) ?_
      refine wa_cons ?_
      refine we_lcD [("before", 5), ("after", 6)] c.calm c.nd (blkOk_by (N := n_digest) (sc := defScope s_digest) (by decide +kernel)) ?_
      refine wi_list ?_
      refine v 1 ?_
      refine ⟨_, rfl, ?_⟩
      refine ⟨fun i acc m' => acc = List.map .d (((prs ss).take i).map fun q => .bool (decide (q.2 < q.1))) ∧ m = m', ?_, ?_, ?_⟩
      · exact ⟨rfl, rfl⟩
      · intro i5 d5 acc5 m5 hd5 hi5
        obtain ⟨rfl, rfl⟩ := hi5
        obtain ⟨q, hq, rfl⟩ := prD_get hd5
        have hil := (List.getElem?_eq_some_iff.mp hq).1
        refine ⟨by simp; omega, fun s0 H0 C cl fp => ?_⟩
        refine wg_tup c.calm ?_ rfl
        refine wgs_cons ?_
        refine wg_name 5 c.nd rfl (by walk_at "zloc") ?_
        refine wgs_cons ?_
        refine wg_name 6 c.nd rfl (by walk_at "zloc") ?_
        refine wgs_nil ?_
        intro s0 H0 C cl fp
        refine ⟨fun _ s0 H0 C cl fp => ?_, fun hb => Bool.noConfusion hb⟩
        refine we_cmp op_lt (nomark _) ?_
        refine v 6 ?_
        refine v 5 ?_
        refine r2_B0 ?_
        exact ⟨by rw [List.take_add_one, hq]; simp, rfl⟩
      · intro acc5 m5 ⟨e15, e25⟩
        subst e15 e25
        rw [List.length_map, List.take_length]
        refine ⟨_, rfl, ?_⟩
        refine wa_nil ?_
        refine any_Z (bs := (prs ss).map fun q => decide (q.2 < q.1)) (by rw [List.map_map]; exact .d) ?_
        rw [show ((prs ss).map fun q => decide (q.2 < q.1)).any id = fallI ss from by unfold fallI; rw [List.any_map]; rfl]
        refine wb_cons ?_
        refine ws_set 4 c.nd rfl (by walk_at "zloc") ?_
        refine WE.cut (fun r m' => r = .d (loD (lowI ss)) ∧ m' = m) ?_ ?_
        · refine we_if ?_
          refine wt_cmp (op_neD c.room.units) (nomark _) ?_
          refine v 1 ?_
          refine we_lst ?_
          refine wa_nil ?_
          refine ⟨[], rfl, by simp, ?_⟩
          refine ne_D .d .d (prs_shaped _).1 rfl (prs_shaped _).2 rfl ?_
          rw [prs_nil]
          refine ⟨_, rfl, ?_⟩
          refine ⟨fun hc6 => ?_, fun hc6 => ?_⟩
          · obtain ⟨p0, pt, hp0⟩ : ∃ a t, prs ss = a :: t := by
              cases h : prs ss with
              | nil => rw [h] at hc6; exact absurd hc6 (by decide)
              | cons a t => exact ⟨a, t, rfl⟩
            have hp1 : (prs ss).map (·.1) = p0.1 :: pt.map (·.1) := by rw [hp0]; rfl
            refine we_callB (c_minZ c) rfl T.b_min (by decide +kernel) ?_
            refine wa_cons ?_
            refine we_lcD [("before", 5), ("after", 6)] c.calm c.nd (blkOk_by (N := n_digest) (sc := defScope s_digest) (by decide +kernel)) ?_
            refine wi_list ?_
            refine v 1 ?_
            refine ⟨_, rfl, ?_⟩
            refine ⟨fun i acc m' => acc = List.map .d (((prs ss).take i).map fun q => .int q.1) ∧ m = m', ?_, ?_, ?_⟩
            · exact ⟨rfl, rfl⟩
            · intro i7 d7 acc7 m7 hd7 hi7
              obtain ⟨rfl, rfl⟩ := hi7
              obtain ⟨q, hq, rfl⟩ := prD_get hd7
              have hil := (List.getElem?_eq_some_iff.mp hq).1
              refine ⟨by simp; omega, fun s0 H0 C cl fp => ?_⟩
              refine wg_tup c.calm ?_ rfl
              refine wgs_cons ?_
              refine wg_name 5 c.nd rfl (by walk_at "zloc") ?_
              refine wgs_cons ?_
              refine wg_name 6 c.nd rfl (by walk_at "zloc") ?_
              refine wgs_nil ?_
              intro s0 H0 C cl fp
              refine ⟨fun _ s0 H0 C cl fp => ?_, fun hb => Bool.noConfusion hb⟩
              refine v 5 ?_
              exact ⟨by rw [List.take_add_one, hq]; simp, rfl⟩
            · intro acc7 m7 ⟨e17, e27⟩
              subst e17 e27
              rw [List.length_map, List.take_length]
              refine ⟨_, rfl, ?_⟩
              refine wa_nil ?_
              refine min_Z (i := p0.1) (ns := pt.map (·.1)) (.inl (by rw [hp0]; simp only [List.map_cons, List.map_map]; exact .d)) ?_
              exact ⟨by unfold lowI; simp only [hp1]; rfl, rfl⟩
          · have hp1 : (prs ss).map (·.1) = [] := by
              have h : prs ss = [] := by simpa using hc6
              rw [h]; rfl
            refine we_non ?_
            exact ⟨by unfold lowI; simp only [hp1]; rfl, rfl⟩
        · rintro r m1 ⟨rfl, rfl⟩
          refine wb_cons ?_
          refine ws_ret ?_
          refine we_tup ?_
          refine wa_cons ?_
          refine we_ix ix_seq ?_
          refine v 0 ?_
          refine we_int ?_
          subst hss
          refine ix_L (d := .int s0) .d (atI_nat (j := 0) rfl) ?_
          refine wa_cons ?_
          refine we_ix ix_seq ?_
          refine v 0 ?_
          refine we_neg (i0 := ()) ?_
          refine we_int ?_
          refine ⟨_, rfl, ?_⟩
          refine ix_L .d (lastI_get s0 st) ?_
          refine wa_cons ?_
          refine v 2 ?_
          refine wa_cons ?_
          refine v 3 ?_
          refine wa_cons ?_
          refine v 4 ?_
          refine wa_nil ?_
          refine ⟨[_, _, _, _, _], rfl, by simp, ?_⟩
          exact ⟨_, Sub.refl, rfl, rfl⟩
theorem av_is_increase_by (T : Txt K mg C_NoCourse) : Av P w K mg base 1 "is_increase_by" p_is_increase_by S_incBy := by
  obtain ⟨f, fd, Fn, hmg⟩ := T.f_is_increase_by
  refine ⟨f, fd, fn_G Fn sc_is_increase_by (fun _ => rfl) ?_, hmg, Fn.kp, Fn.binds fun _ _ _ _ _ _ us hl => match us, hl with | [_, _], _ => rfl⟩
  intro cdv A outer s H E Zx c
  rintro ⟨d, i⟩ m _
  change WB _ _ [some (.d (dgD d)), some (.d (.int i)), none, none, none, none, none] m _
  refine wb_cons ?_
  refine ws_if ?_
  refine wt_ww ?_
  refine ww_or ?_
  refine wt_cmp op_isN0 (nomark _) ?_
  refine v 0 ?_
  refine we_non ?_
  refine is_N ?_
  refine ⟨_, rfl, ?_⟩
  refine ⟨fun hc1 => ?_, fun hc1 => ?_⟩
  · obtain ⟨g, rfl⟩ : ∃ g, d = some g := by
      cases d with
      | none => cases hc1
      | some g => exact ⟨g, rfl⟩
    refine ww_or1 ?_
    refine wt_cmp op_isN0 (nomark _) ?_
    refine we_ix ix_seq ?_
    refine v 0 ?_
    refine we_int ?_
    refine ix_T (d := loD g.low) rfl ?_
    refine we_non ?_
    refine is_N ?_
    refine ⟨_, rfl, ?_⟩
    refine ⟨fun hc2 => ?_, fun hc2 => ?_⟩
    · skip
      refine wb_cons ?_
      refine ws_ret ?_
      refine we_cmp (op_eqD c.room.units) (nomark _) ?_
      refine v 1 ?_
      refine we_int ?_
      refine eq_I ?_
      first
        | exact ⟨_, Sub.refl, rfl, rfl⟩
        | (refine ⟨_, Sub.refl, ?_, rfl⟩
           obtain ⟨fi, la, le, fa, lo⟩ := g
           cases lo with
           | none => rfl
           | some l => simp_all [isNone, loD])
    · obtain ⟨l, hl⟩ : ∃ l, g.low = some l := by
        cases h : g.low with
        | none => rw [h] at hc2; cases hc2
        | some l => exact ⟨l, rfl⟩
      obtain ⟨fi, la, le, fa, lo⟩ := g
      simp only at hl
      subst hl
      refine wb_nil ?_
      refine wb_cons ?_
      refine ws_asg (vs := [2, 3, 4, 5, 6]) ?_
      refine v 0 ?_
      refine wg_tup c.calm ?_ rfl
      refine wgs_cons ?_
      refine wg_name 2 c.nd rfl (by walk_at "zloc") ?_
      refine wgs_cons ?_
      refine wg_name 3 c.nd rfl (by walk_at "zloc") ?_
      refine wgs_cons ?_
      refine wg_name 4 c.nd rfl (by walk_at "zloc") ?_
      refine wgs_cons ?_
      refine wg_name 5 c.nd rfl (by walk_at "zloc") ?_
      refine wgs_cons ?_
      refine wg_name 6 c.nd rfl (by walk_at "zloc") ?_
      refine wgs_nil ?_
      refine wb_cons ?_
      refine ws_ret ?_
      refine we_or ?_
      refine we_cmp (op_eqD c.room.units) (nomark _) ?_
      refine v 1 ?_
      refine v 4 ?_
      refine eq_I ?_
      refine ⟨_, rfl, fun hc3 => ?_, fun hc3 => ?_⟩
      · refine we_one ?_
        refine we_cmp op_ge (nomark _) ?_
        refine v 1 ?_
        refine we_if ?_
        refine wt_val ?_
        refine v 5 ?_
        refine ⟨_, rfl, ?_⟩
        refine ⟨fun hc4 => ?_, fun hc4 => ?_⟩
        · refine v 4 ?_
          refine r2_B0 ?_
          refine ⟨_, Sub.refl, ?_, rfl⟩
          simp_all [incBy]
        · refine we_op op_addZ ?_
          refine v 4 ?_
          refine v 6 ?_
          walk_at "z+"
          refine r2_B0 ?_
          refine ⟨_, Sub.refl, ?_, rfl⟩
          simp_all [incBy]
      · refine ⟨_, Sub.refl, ?_, rfl⟩
        simp_all [incBy]
  · obtain rfl : d = none := by
      cases d with
      | none => rfl
      | some g => cases hc1
    refine ⟨fun hc5 => ?_, fun hc5 => ?_⟩
    · skip
      refine wb_cons ?_
      refine ws_ret ?_
      refine we_cmp (op_eqD c.room.units) (nomark _) ?_
      refine v 1 ?_
      refine we_int ?_
      refine eq_I ?_
      first
        | exact ⟨_, Sub.refl, rfl, rfl⟩
        | (refine ⟨_, Sub.refl, ?_, rfl⟩
           obtain ⟨fi, la, le, fa, lo⟩ := g
           cases lo with
           | none => rfl
           | some l => simp_all [isNone, loD])
    · exact Bool.noConfusion hc5
theorem av_least_increase (T : Txt K mg C_NoCourse) : Av P w K mg base 3 "least_increase" p_least_increase S_least := by
  obtain ⟨f, fd, Fn, hmg⟩ := T.f_least_increase
  refine ⟨f, fd, fn_G Fn sc_least_increase (fun _ => rfl) ?_, hmg, Fn.kp, Fn.binds fun _ _ _ _ _ _ us hl => match us, hl with | [_], _ => rfl⟩
  intro cdv A outer s H E Zx c
  intro (ss : List Int) m (hl : ss.length < 1000000)
  change WB _ _ [some (.d (smD ss))] m _
  refine wb_cons ?_
  refine ws_ret ?_
  refine we_if ?_
  refine wt_cmp (op_eqD c.room.units) (nomark _) ?_
  refine we_callB c_len rfl T.b_len (by decide +kernel) ?_
  refine wa_cons ?_
  refine v 0 ?_
  refine wa_nil ?_
  refine len_L .d ?_
  rw [List.length_map]
  refine we_int ?_
  refine eq_I ?_
  refine ⟨_, rfl, ?_⟩
  refine ⟨fun hc1 => ?_, fun hc1 => ?_⟩
  · have h0 := of_decide_eq_true hc1
    obtain rfl : ss = [] := List.eq_nil_of_length_eq_zero (by omega)
    refine we_int ?_
    exact ⟨_, Sub.refl, rfl, rfl⟩
  · have h0 := of_decide_eq_false hc1
    obtain ⟨s0, st, rfl⟩ : ∃ a t, ss = a :: t := by
      cases ss with
      | nil => exact absurd rfl h0
      | cons a t => exact ⟨a, t, rfl⟩
    refine we_ix ix_seq ?_
    refine we_call c (av_digest T) (by decide) rfl ?_
    refine wa_cons ?_
    refine v 0 ?_
    refine wa_nil ?_
    refine use_digest (by assumption) ?_
    refine we_int ?_
    refine ix_T (d := .int (leastI (s0 :: st))) rfl ?_
    exact ⟨_, Sub.refl, rfl, rfl⟩
theorem av_is_increase (T : Txt K mg C_NoCourse) : Av P w K mg base 3 "is_increase" p_is_increase S_inc := by
  obtain ⟨f, fd, Fn, hmg⟩ := T.f_is_increase
  refine ⟨f, fd, fn_G Fn sc_is_increase (fun _ => rfl) ?_, hmg, Fn.kp, Fn.binds fun _ _ _ _ _ _ us hl => match us, hl with | [_, _], _ => rfl⟩
  intro cdv A outer s H E Zx c
  rintro ⟨ss, i⟩ m hl
  change ss.length < 1000000 at hl
  change WB _ _ [some (.d (smD ss)), some (.d (.int i))] m _
  refine wb_cons ?_
  refine ws_ret ?_
  refine we_call c (av_is_increase_by T) (by decide) rfl ?_
  refine wa_cons ?_
  refine we_call c (av_digest T) (by decide) rfl ?_
  refine wa_cons ?_
  refine v 0 ?_
  refine wa_nil ?_
  refine use_digest hl ?_
  refine wa_cons ?_
  refine v 1 ?_
  refine wa_nil ?_
  refine use_is_increase_by ?_
  exact ⟨_, Sub.refl, rfl, rfl⟩
theorem av_plain_path (T : Txt K mg C_NoCourse) : Av P w K mg base 1 "plain_path" p_plain_path S_plain := by
  obtain ⟨f, fd, Fn, hmg⟩ := T.f_plain_path
  refine ⟨f, fd, fn_G Fn sc_plain_path (fun _ => rfl) ?_, hmg, Fn.kp, Fn.binds fun _ _ _ _ _ _ us hl => match us, hl with | [_, _], _ => rfl⟩
  intro cdv A outer s H E Zx c
  rintro ⟨b, a⟩ m _
  change WB _ _ [some (.d (.int b)), some (.d (.int a))] m _
  refine wb_cons ?_
  refine ws_ret ?_
  refine we_if ?_
  refine wt_cmp op_ge (nomark _) ?_
  refine v 1 ?_
  refine v 0 ?_
  refine r2_B0 ?_
  refine ⟨_, rfl, ?_⟩
  refine ⟨fun hc1 => ?_, fun hc1 => ?_⟩
  · refine we_lstX ?_
    refine wa_cons ?_
    refine we_op op_sub ?_
    refine v 1 ?_
    refine v 0 ?_
    refine r2_I0 ?_
    refine wa_nil ?_
    refine ⟨by simp, fun q2 nq2 => ?_⟩
    first
      | exact ⟨_, Sub.refl, _, by assumption, rfl, by unfold plainI; rw [if_pos (of_decide_eq_true (by assumption))]; rfl⟩
      | exact ⟨_, Sub.refl, _, by assumption, rfl, by unfold plainI; rw [if_neg (of_decide_eq_false (by assumption))]; rfl⟩
  · refine we_lstX ?_
    refine wa_cons ?_
    refine we_int ?_
    refine wa_cons ?_
    refine v 1 ?_
    refine wa_nil ?_
    refine ⟨by simp, fun q3 nq3 => ?_⟩
    first
      | exact ⟨_, Sub.refl, _, by assumption, rfl, by unfold plainI; rw [if_pos (of_decide_eq_true (by assumption))]; rfl⟩
      | exact ⟨_, Sub.refl, _, by assumption, rfl, by unfold plainI; rw [if_neg (of_decide_eq_false (by assumption))]; rfl⟩
theorem av_is_integer (T : Txt K mg C_NoCourse) : Av P w K mg base 1 "is_integer" p_is_integer S_isint := by
  obtain ⟨f, fd, Fn, hmg⟩ := T.f_is_integer
  refine ⟨f, fd, fn_G Fn sc_is_integer (fun _ => rfl) ?_, hmg, Fn.kp, Fn.binds fun _ _ _ _ _ _ us hl => match us, hl with | [_], _ => rfl⟩
  intro cdv A outer s H E Zx c
  intro (d : PyData) m (hn : nodict d = true)
  change WB _ _ [some (.d d)] m _
  refine wb_cons ?_
  refine ws_ret ?_
  refine we_and ?_
  refine we_callB call_isi rfl T.b_isinstance (by decide +kernel) ?_
  refine wa_cons ?_
  refine v 0 ?_
  refine wa_cons ?_
  refine we_bltn (T := "int") rfl T.b_int (by decide +kernel) ?_
  refine wa_nil ?_
  refine isi_D (b := subI d) .d hn (kitI d) ?_
  refine ⟨_, rfl, fun hc1 => ?_, fun hc1 => ?_⟩
  · refine we_one ?_
    refine we_not ?_
    refine we_callB call_isi rfl T.b_isinstance (by decide +kernel) ?_
    refine wa_cons ?_
    refine v 0 ?_
    refine wa_cons ?_
    refine we_bltn (T := "bool") rfl T.b_bool (by decide +kernel) ?_
    refine wa_nil ?_
    refine isi_D (b := subB d) .d hn (kitB d) ?_
    refine ⟨_, rfl, ?_⟩
    refine ⟨_, Sub.refl, ?_, rfl⟩
    cases d <;> simp_all [subI, subB, isInt]
  · refine ⟨_, Sub.refl, ?_, rfl⟩
    cases d <;> simp_all [subI, subB, isInt]
theorem av_increase_of (T : Txt K mg C_NoCourse) : Av P w K mg base 1 "increase_of" p_increase_of S_incof := by
  obtain ⟨f, fd, Fn, hmg⟩ := T.f_increase_of
  refine ⟨f, fd, fn_G Fn sc_increase_of (fun _ => rfl) ?_, hmg, Fn.kp, Fn.binds fun _ _ _ _ _ _ us hl => match us, hl with | [_], _ => rfl⟩
  intro cdv A outer s H E Zx c
  intro (ps : List (List Int)) m (hl : ps.length < 1000000)
  change WB _ _ [some (.d (.list (ps.map pthD))), none] m _
  refine wb_cons ?_
  refine ws_ret ?_
  refine we_callB (c_sumZ c.calm) rfl T.b_sum (by decide +kernel) ?_
  refine wa_cons ?_
  refine we_lcD [("path", 1)] c.calm c.nd (blkOk_by (N := n_increase_of) (sc := defScope s_increase_of) (by decide +kernel)) ?_
  refine wi_list ?_
  refine v 0 ?_
  refine ⟨_, rfl, ?_⟩
  refine ⟨fun i acc m' => acc = List.map .d (((ps.take i).map fun p => .int p.sum)) ∧ m = m', ?_, ?_, ?_⟩
  · exact ⟨rfl, rfl⟩
  · intro i1 d1 acc1 m1 hd1 hi1
    obtain ⟨rfl, rfl⟩ := hi1
    obtain ⟨q, hq, rfl⟩ := pth_get hd1
    have hil := (List.getElem?_eq_some_iff.mp hq).1
    refine ⟨by simp; omega, fun s0 H0 C cl fp => ?_⟩
    refine wg_name 1 c.nd rfl (by walk_at "zloc") ?_
    intro s0 H0 C cl fp
    refine ⟨fun _ s0 H0 C cl fp => ?_, fun hb => Bool.noConfusion hb⟩
    refine we_callB (c_sumZ c.calm) rfl T.b_sum (by decide +kernel) ?_
    refine wa_cons ?_
    refine v 1 ?_
    refine wa_nil ?_
    refine sum_Z (ns := q) (.inl .d) ?_
    exact ⟨by rw [List.take_add_one, hq]; simp, rfl⟩
  · intro acc1 m1 ⟨e11, e21⟩
    subst e11 e21
    rw [List.length_map, List.take_length]
    refine ⟨_, rfl, ?_⟩
    refine wa_nil ?_
    refine sum_Z (ns := ps.map List.sum) (.inl (by rw [List.map_map]; exact .d)) ?_
    exact ⟨_, Sub.refl, rfl, rfl⟩
theorem av_is_path (T : Txt K mg C_NoCourse) : Av P w K mg base 2 "is_path" p_is_path S_ispath := by
  obtain ⟨f, fd, Fn, hmg⟩ := T.f_is_path
  refine ⟨f, fd, fn_G Fn sc_is_path (fun _ => rfl) ?_, hmg, Fn.kp, Fn.binds fun _ _ _ _ _ _ us hl => match us, hl with | [_, _, _], _ => rfl⟩
  intro cdv A outer s H E Zx c
  rintro ⟨b, a, d⟩ m ⟨hn, hs⟩
  simp only at hn hs
  change WB _ _ [some (.d (.int b)), some (.d (.int a)), some (.d d), none] m _
  refine wb_cons ?_
  refine ws_if ?_
  refine wt_ww ?_
  refine ww_or ?_
  refine wt_not ?_
  refine wt_val ?_
  refine we_callB call_isi rfl T.b_isinstance (by decide +kernel) ?_
  refine wa_cons ?_
  refine v 2 ?_
  refine wa_cons ?_
  refine we_bltn (T := "list") rfl T.b_list (by decide +kernel) ?_
  refine wa_nil ?_
  refine isi_D (b := subL d) .d hn (kitL d) ?_
  refine ⟨_, rfl, ?_⟩
  refine ⟨fun hc1 => ?_, fun hc1 => ?_⟩
  · obtain ⟨xs, rfl⟩ : ∃ xs, d = .list xs := by
      cases d with
      | list xs => exact ⟨xs, rfl⟩
      | none => simp [subL] at hc1
      | bool _ => simp [subL] at hc1
      | int _ => simp [subL] at hc1
      | str _ => simp [subL] at hc1
      | tuple _ => simp [subL] at hc1
      | dict _ => simp [subL] at hc1
    refine ww_or1 ?_
    refine wt_not ?_
    refine wt_val ?_
    refine we_callB (cr_all c.calm) rfl T.b_all (by decide +kernel) ?_
    refine wa_cons ?_
    refine we_lcD [("growth", 3)] c.calm c.nd (blkOk_by (N := n_is_path) (sc := defScope s_is_path) (by decide +kernel)) ?_
    refine wi_list ?_
    refine v 2 ?_
    refine ⟨_, rfl, ?_⟩
    refine ⟨fun i acc m' => acc = List.map .d ((xs.take i).map fun g => .bool (gOk g)) ∧ m = m', ?_, ?_, ?_⟩
    · exact ⟨rfl, rfl⟩
    · intro i2 d2 acc2 m2 hd2 hi2
      obtain ⟨rfl, rfl⟩ := hi2
      revert hd2
      generalize d2 = g
      intro hq
      have hng := nodict_mem (show nodictAll xs = true from hn) (List.mem_of_getElem? hq)
      refine ⟨by have h : xs.length < 1000000 := hs; simp; omega, fun s0 H0 C cl fp => ?_⟩
      refine wg_name 3 c.nd rfl (by walk_at "zloc") ?_
      intro s0 H0 C cl fp
      refine ⟨fun _ s0 H0 C cl fp => ?_, fun hb => Bool.noConfusion hb⟩
      refine WE.cut (fun r m' => r = .d (.bool (gOk g)) ∧ m' = m) ?_ ?_
      · refine we_and ?_
        refine we_call c.blk (av_is_integer T) (by decide) rfl ?_
        refine wa_cons ?_
        refine v 3 ?_
        refine wa_nil ?_
        refine use_is_integer hng ?_
        refine ⟨_, rfl, fun hc4 => ?_, fun hc4 => ?_⟩
        · obtain ⟨gi, rfl⟩ : ∃ i, g = .int i := by
            cases g <;> simp_all [isInt]
          refine we_one ?_
          refine we_cmp op_ge (nomark _) ?_
          refine v 3 ?_
          refine we_int ?_
          refine r2_B0 ?_
          exact ⟨by first | (cases g <;> simp_all [isInt, gOk]; done) | (simp [gOk]; done) | simp_all [gOk, isInt], rfl⟩
        · exact ⟨by first | (cases g <;> simp_all [isInt, gOk]; done) | (simp [gOk]; done) | simp_all [gOk, isInt], rfl⟩
      · rintro r m1 ⟨rfl, rfl⟩
        exact ⟨by rw [List.take_add_one, hq]; simp, rfl⟩
    · intro acc2 m2 ⟨e12, e22⟩
      subst e12 e22
      rw [List.take_length]
      refine ⟨_, rfl, ?_⟩
      refine wa_nil ?_
      refine all_Z (bs := xs.map gOk) (by rw [List.map_map]; exact .d) ?_
      rw [all_id]
      refine ⟨_, rfl, ?_⟩
      refine ⟨fun hc5 => ?_, fun hc5 => ?_⟩
      · skip
        refine wb_cons ?_
        refine ws_ret ?_
        refine we_bl ?_
        refine ⟨_, Sub.refl, ?_, rfl⟩
        first
          | (have q : (!xs.all gOk) = true := by assumption
             have h : xs.all gOk = false := by
               revert q
               cases xs.all gOk <;> decide
             show _ = Ent.d (.bool (pathB b a (.list xs)))
             simp only [pathB, h, Bool.false_and])
          | (cases d <;> simp_all [subL, pathB])
      · have hall : xs.all gOk = true := by simpa using hc5
        obtain ⟨gs, rfl, hg⟩ := ints_all hall
        refine wb_nil ?_
        refine wb_cons ?_
        refine ws_if ?_
        refine wt_cmp (op_eqD c.room.units) (nomark _) ?_
        refine we_callB c_len rfl T.b_len (by decide +kernel) ?_
        refine wa_cons ?_
        refine v 2 ?_
        refine wa_nil ?_
        refine len_L .d ?_
        rw [List.length_map]
        refine we_int ?_
        refine eq_I ?_
        refine ⟨_, rfl, ?_⟩
        refine ⟨fun hc6 => ?_, fun hc6 => ?_⟩
        · have h1 := of_decide_eq_true hc6
          obtain ⟨g0, rfl⟩ : ∃ g, gs = [g] := List.length_eq_one_iff.mp (by omega)
          refine wb_cons ?_
          refine ws_ret ?_
          refine we_cmp (op_eqD c.room.units) (nomark _) ?_
          refine we_op op_addZ ?_
          refine v 0 ?_
          refine we_ix ix_seq ?_
          refine v 2 ?_
          refine we_int ?_
          refine ix_L (d := .int g0) .d (atI_nat (j := 0) rfl) ?_
          walk_at "z+"
          refine v 1 ?_
          refine eq_I ?_
          refine ⟨_, Sub.refl, ?_, rfl⟩
          show _ = Ent.d (.bool (pathB b a (.list ([g0].map PyData.int))))
          unfold pathB
          simp only [hall, Bool.true_and, intsOf_map]
          rfl
        · have h1 := of_decide_eq_false hc6
          refine wb_nil ?_
          refine wb_cons ?_
          refine ws_ret ?_
          refine we_and ?_
          refine we_cmp op_gt (nomark _) ?_
          refine we_callB c_len rfl T.b_len (by decide +kernel) ?_
          refine wa_cons ?_
          refine v 2 ?_
          refine wa_nil ?_
          refine len_L .d ?_
          rw [List.length_map]
          refine we_int ?_
          refine r2_B0 ?_
          refine ⟨_, rfl, fun hc7 => ?_, fun hc7 => ?_⟩
          · have h2 := of_decide_eq_true hc7
            obtain ⟨g0, g1, gt, rfl⟩ : ∃ x y t, gs = x :: y :: t := by
              match gs, h2 with
              | x :: y :: t, _ => exact ⟨x, y, t, rfl⟩
              | [x], h => simp at h
              | [], h => simp at h
            refine we_one ?_
            refine we_cmp (op_eqD c.room.units) (nomark _) ?_
            refine we_ix ix_seq ?_
            refine v 2 ?_
            refine we_neg (i0 := ()) ?_
            refine we_int ?_
            refine ⟨_, rfl, ?_⟩
            refine ix_L .d (lastI_get g0 (g1 :: gt)) ?_
            refine v 1 ?_
            refine eq_I ?_
            refine ⟨_, Sub.refl, ?_, rfl⟩
            first
              | (show _ = Ent.d (.bool (pathB b a (.list (([] : List Int).map PyData.int)))); unfold pathB; simp only [hall, Bool.true_and, intsOf_map]; rfl)
              | (show _ = Ent.d (.bool (pathB b a (.list ((g0 :: g1 :: gt).map PyData.int)))); unfold pathB; simp only [hall, Bool.true_and, intsOf_map]; rfl)
          · have h2 := of_decide_eq_false hc7
            obtain rfl : gs = [] := List.eq_nil_of_length_eq_zero (by omega)
            refine ⟨_, Sub.refl, ?_, rfl⟩
            first
              | (show _ = Ent.d (.bool (pathB b a (.list (([] : List Int).map PyData.int)))); unfold pathB; simp only [hall, Bool.true_and, intsOf_map]; rfl)
              | (show _ = Ent.d (.bool (pathB b a (.list ((g0 :: g1 :: gt).map PyData.int)))); unfold pathB; simp only [hall, Bool.true_and, intsOf_map]; rfl)
  · skip
    refine ⟨fun hc8 => ?_, fun hc8 => ?_⟩
    · skip
      refine wb_cons ?_
      refine ws_ret ?_
      refine we_bl ?_
      refine ⟨_, Sub.refl, ?_, rfl⟩
      first
        | (have q : (!xs.all gOk) = true := by assumption
           have h : xs.all gOk = false := by
             revert q
             cases xs.all gOk <;> decide
           show _ = Ent.d (.bool (pathB b a (.list xs)))
           simp only [pathB, h, Bool.false_and])
        | (cases d <;> simp_all [subL, pathB])
    · exact Bool.noConfusion hc8
theorem av_is_course (T : Txt K mg C_NoCourse) : Av P w K mg base 3 "is_course" p_is_course S_iscourse := by
  obtain ⟨f, fd, Fn, hmg⟩ := T.f_is_course
  refine ⟨f, fd, fn_G Fn sc_is_course (fun _ => rfl) ?_, hmg, Fn.kp, Fn.binds fun _ _ _ _ _ _ us hl => match us, hl with | [_, _], _ => rfl⟩
  intro cdv A outer s H E Zx c
  rintro ⟨ss, d⟩ m ⟨hl, hn, hs, hv⟩
  simp only at hl hn hs hv
  change WB _ _ [some (.d (smD ss)), some (.d d), none, none, none, none] m _
  have hpl := prs_small ss hl
  refine wb_cons ?_
  refine ws_set 2 c.nd rfl (by walk_at "zloc") ?_
  refine we_call c (av_pairs_of T) (by decide) rfl ?_
  refine wa_cons ?_
  refine v 0 ?_
  refine wa_nil ?_
  refine use_pairs_of (by assumption) ?_
  refine wb_cons ?_
  refine ws_if ?_
  refine wt_ww ?_
  refine ww_or ?_
  refine wt_not ?_
  refine wt_val ?_
  refine we_callB call_isi rfl T.b_isinstance (by decide +kernel) ?_
  refine wa_cons ?_
  refine v 1 ?_
  refine wa_cons ?_
  refine we_bltn (T := "list") rfl T.b_list (by decide +kernel) ?_
  refine wa_nil ?_
  refine isi_D (b := subL d) .d hn (kitL d) ?_
  refine ⟨_, rfl, ?_⟩
  refine ⟨fun hc2 => ?_, fun hc2 => ?_⟩
  · obtain ⟨vs, rfl⟩ : ∃ vs, d = .list vs := by
      cases d with
      | list vs => exact ⟨vs, rfl⟩
      | none => simp [subL] at hc2
      | bool _ => simp [subL] at hc2
      | int _ => simp [subL] at hc2
      | str _ => simp [subL] at hc2
      | tuple _ => simp [subL] at hc2
      | dict _ => simp [subL] at hc2
    refine ww_or1 ?_
    refine wt_cmp (op_neD c.room.units) (nomark _) ?_
    refine we_callB c_len rfl T.b_len (by decide +kernel) ?_
    refine wa_cons ?_
    refine v 1 ?_
    refine wa_nil ?_
    refine len_L .d ?_
    refine we_callB c_len rfl T.b_len (by decide +kernel) ?_
    refine wa_cons ?_
    refine v 2 ?_
    refine wa_nil ?_
    refine len_L .d ?_
    rw [List.length_map]
    refine ne_I ?_
    refine ⟨_, rfl, ?_⟩
    refine ⟨fun hc3 => ?_, fun hc3 => ?_⟩
    · skip
      refine wb_cons ?_
      refine ws_ret ?_
      refine we_bl ?_
      refine ⟨_, Sub.refl, ?_, rfl⟩
      first
        | (cases d <;> simp_all [subL, courseB])
        | (simp_all [courseB]; omega)
    · have hle : vs.length = (prs ss).length := by have h := hc3; simp at h; omega
      refine wb_nil ?_
      refine wb_cons ?_
      refine ws_ret ?_
      refine we_callB (cr_all c.calm) rfl T.b_all (by decide +kernel) ?_
      refine wa_cons ?_
      refine we_lcD [("path", 3), ("before", 4), ("after", 5)] c.calm c.nd (blkOk_by (N := n_is_course) (sc := defScope s_is_course) (by decide +kernel)) ?_
      refine wi_zip rfl T.b_zip ?_
      refine wa_cons ?_
      refine v 2 ?_
      refine wa_cons ?_
      refine v 1 ?_
      refine wa_nil ?_
      refine ⟨_, _, rfl, ?_⟩
      refine ⟨fun i acc m' => acc = List.map .d (((List.zip (prs ss) vs).take i).map fun p => .bool (pathB p.1.1 p.1.2 p.2)) ∧ m = m', ?_, ?_, ?_⟩
      · exact ⟨rfl, rfl⟩
      · intro i4 d4 acc4 m4 hd4 hi4
        obtain ⟨rfl, rfl⟩ := hi4
        obtain ⟨q, vw, hq, hvv, rfl⟩ := zipP_get hd4
        have hmv := List.mem_of_getElem? hvv
        have hnv := nodict_mem (show nodictAll vs = true from hn) hmv
        have hsv := hv vs rfl vw hmv
        refine ⟨by simp; omega, fun s0 H0 C cl fp => ?_⟩
        refine wg_tup c.calm ?_ rfl
        refine wgs_cons ?_
        refine wg_tup c.calm ?_ rfl
        refine wgs_cons ?_
        refine wg_name 4 c.nd rfl (by walk_at "zloc") ?_
        refine wgs_cons ?_
        refine wg_name 5 c.nd rfl (by walk_at "zloc") ?_
        refine wgs_nil ?_
        refine wgs_cons ?_
        refine wg_name 3 c.nd rfl (by walk_at "zloc") ?_
        refine wgs_nil ?_
        intro s0 H0 C cl fp
        refine ⟨fun _ s0 H0 C cl fp => ?_, fun hb => Bool.noConfusion hb⟩
        refine we_call c.blk (av_is_path T) (by decide) rfl ?_
        refine wa_cons ?_
        refine v 4 ?_
        refine wa_cons ?_
        refine v 5 ?_
        refine wa_cons ?_
        refine v 3 ?_
        refine wa_nil ?_
        refine use_is_path hnv hsv ?_
        exact ⟨by rw [List.take_add_one, hq]; simp, rfl⟩
      · intro acc4 m4 ⟨e14, e24⟩
        subst e14 e24
        rw [zipD_length, List.length_map, List.take_of_length_le (by rw [List.length_zip]; omega)]
        refine ⟨_, rfl, ?_⟩
        refine wa_nil ?_
        refine all_Z (bs := (List.zip (prs ss) vs).map fun p => pathB p.1.1 p.1.2 p.2) (by rw [List.map_map]; exact .d) ?_
        refine ⟨_, Sub.refl, ?_, rfl⟩
        show _ = Ent.d (.bool (decide _ && _))
        rw [decide_eq_true hle, Bool.true_and, List.all_map]
        rfl
  · skip
    refine ⟨fun hc6 => ?_, fun hc6 => ?_⟩
    · skip
      refine wb_cons ?_
      refine ws_ret ?_
      refine we_bl ?_
      refine ⟨_, Sub.refl, ?_, rfl⟩
      first
        | (cases d <;> simp_all [subL, courseB])
        | (simp_all [courseB]; omega)
    · exact Bool.noConfusion hc6
theorem av_course (T : Txt K mg C_NoCourse) : Av P w K mg base 4 "course" p_course (S_course C_NoCourse) := by
  obtain ⟨f, fd, Fn, hmg⟩ := T.f_course
  refine ⟨f, fd, fn_GX Fn sc_course (fun _ => rfl) ?_, hmg, Fn.kp, Fn.binds fun _ _ _ _ _ _ us hl => match us, hl with | [_, _], _ => rfl⟩
  intro cdv A outer s H E Zx c
  rintro ⟨ss, i⟩ m ⟨hl, h0⟩ hZ
  simp only at hl h0
  change WB _ _ [some (.d (smD ss)), some (.d (.int i)), none, none, none, none, none, none, none, none, none] m _
  have hpl := prs_small ss hl
  refine wb_cons ?_
  refine ws_if ?_
  refine wt_not ?_
  refine wt_val ?_
  refine we_call c (av_is_increase T) (by decide) rfl ?_
  refine wa_cons ?_
  refine v 0 ?_
  refine wa_cons ?_
  refine v 1 ?_
  refine wa_nil ?_
  refine use_is_increase hl ?_
  refine ⟨_, rfl, ?_⟩
  refine ⟨fun hc2 => ?_, fun hc2 => ?_⟩
  · have hinc : incBy (dig ss) i = false := by simpa using hc2
    refine wb_cons ?_
    refine ws_raise c (by decide) rfl (ec_NoCourse T) ?_
    refine wa_cons ?_
    refine v 1 ?_
    refine wa_nil ?_
    refine ⟨rfl, by simp, fun d3 nd3 => ?_⟩
    exact hZ _ _ _ _ ⟨_, Sub.refl, hinc, rfl, _, rfl, by assumption, rfl⟩
  · have hinc : incBy (dig ss) i = true := by simpa using hc2
    refine wb_nil ?_
    refine wb_cons ?_
    refine ws_set 2 c.nd rfl (by walk_at "zloc") ?_
    refine we_call c (av_pairs_of T) (by decide) rfl ?_
    refine wa_cons ?_
    refine v 0 ?_
    refine wa_nil ?_
    refine use_pairs_of (by assumption) ?_
    refine wb_cons ?_
    refine ws_lcX [("before", 8), ("after", 9)] 3 c.calm c.nd rfl rfl (blkOk_by (N := n_course) (sc := defScope s_course) (by decide +kernel)) (sw_true rfl rfl rfl (by decide +kernel)) ?_
    refine wi_list ?_
    refine v 2 ?_
    refine ⟨_, rfl, ?_⟩
    refine ⟨fun i acc m' => ∃ qs : List (Addr × List Int), acc = qs.map (fun q => .x q.1) ∧ qs.map (·.2) = ((prs ss).take i).map plainI ∧ (∀ q ∈ qs, m q.1 = none ∧ m' q.1 = some (.lst (List.map .d (q.2.map .int)))) ∧ (qs.map (·.1)).Nodup ∧ ∀ a o, m a = some o → m' a = some o, ?_, ?_, ?_⟩
    · exact ⟨[], rfl, rfl, fun _ h => by simp at h, List.nodup_nil, fun _ _ h => h⟩
    · intro i5 d5 acc5 m5 hd5 hi5
      obtain ⟨qs1, rfl, hv1, hq1, nd1, kp1⟩ := hi5
      obtain ⟨q, hq, rfl⟩ := prD_get hd5
      have hqb : qs1.length = i5 := by
        have h := congrArg List.length hv1
        have hil := (List.getElem?_eq_some_iff.mp hq).1
        simpa [Nat.min_eq_left (Nat.le_of_lt hil)] using h
      have hil := (List.getElem?_eq_some_iff.mp hq).1
      refine ⟨by simp only [List.length_map]; omega, fun s0 H0 C cl fp => ?_⟩
      refine wg_tup c.calm ?_ rfl
      refine wgs_cons ?_
      refine wg_name 8 c.nd rfl (by walk_at "zloc") ?_
      refine wgs_cons ?_
      refine wg_name 9 c.nd rfl (by walk_at "zloc") ?_
      refine wgs_nil ?_
      intro s0 H0 C cl fp
      refine ⟨fun _ s0 H0 C cl fp => ?_, fun hb => Bool.noConfusion hb⟩
      refine we_call c.blk (av_plain_path T) (by decide) rfl ?_
      refine wa_cons ?_
      refine v 8 ?_
      refine wa_cons ?_
      refine v 9 ?_
      refine wa_nil ?_
      refine use_plain_path fun p np => ?_
      refine ⟨qs1 ++ [(p, plainI q)], by simp, by rw [List.map_append, hv1, List.take_add_one, hq]; simp, fun u hu => ?_, ?_, fun a o h => ?_⟩
      · rcases List.mem_append.mp hu with hu | hu
        · have h1 := hq1 u hu
          refine ⟨h1.1, ?_⟩
          rw [Mem.put_ne (fun z => by rw [z, np] at h1; cases h1.2)]
          exact h1.2
        · simp at hu
          subst hu
          refine ⟨?_, Mem.put_same⟩
          cases h : m p with
          | none => rfl
          | some o => rw [kp1 p o h] at np; cases np
      · rw [List.map_append, List.nodup_append]
        refine ⟨nd1, by simp, fun a ha b hb => ?_⟩
        simp at hb
        subst hb
        intro z
        obtain ⟨u, hu, e⟩ := List.mem_map.mp ha
        have h1 := (hq1 u hu).2
        rw [e, z, np] at h1
        cases h1
      · rw [Mem.put_ne (fun z => by rw [z] at h; rw [kp1 p o h] at np; cases np)]
        exact kp1 a o h
      skip
    · rintro acc5 m5 ⟨qs, rfl, hv, hq, nd, kp⟩ p np
      rw [List.length_map, List.take_length] at hv
      have hcr : CrsM m (m5.put p (.lst (qs.map fun q => .x q.1))) p qs := by
        have pne : p ∉ qs.map (·.1) := fun z => by
          obtain ⟨u, hu, e⟩ := List.mem_map.mp z
          rw [← e, (hq u hu).2] at np
          cases np
        refine ⟨?_, Mem.put_same, fun u hu => ⟨(hq u hu).1, ?_⟩, nd, pne, fun a o h => ?_⟩
        · cases h : m p with
          | none => rfl
          | some o => rw [kp p o h] at np; cases np
        · rw [Mem.put_ne (fun z => pne (by rw [← z]; exact List.mem_map_of_mem hu))]
          exact (hq u hu).2
        · rw [Mem.put_ne (fun z => by rw [z] at h; rw [kp p o h] at np; cases np)]
          exact kp a o h
      generalize m5.put p (.lst (qs.map fun q => .x q.1)) = M at *
      obtain ⟨pl1, pl2⟩ := plain_all (l := prs ss) fun q hq => h0 _ (prs_mem hq).2
      rw [← hv] at pl1 pl2
      have hqp := hcr.hp
      have hl2 : ∀ p ∈ qs.map (·.2), p.length ≤ 2 := fun p hp => by
        rw [hv] at hp
        obtain ⟨q, _, rfl⟩ := List.mem_map.mp hp
        unfold plainI
        split <;> simp
      have hl2s : ∀ (j : Nat) (a : Addr) (x y : Int), ∀ p ∈ (qs.set j (a, [x, y])).map (·.2), p.length ≤ 2 := fun j a x y p hp => by
        rw [List.map_set] at hp
        rcases List.mem_or_eq_of_mem_set hp with hp | hp
        · exact hl2 p hp
        · rw [hp]; simp
      refine wb_cons ?_
      refine ws_set 4 c.nd rfl (by walk_at "zloc") ?_
      refine we_op op_sub ?_
      refine v 1 ?_
      refine we_call c (av_least_increase T) (by decide) rfl ?_
      refine wa_cons ?_
      refine v 0 ?_
      refine wa_nil ?_
      refine use_least_increase hl ?_
      refine r2_I0 ?_
      refine wb_cons ?_
      refine ws_if ?_
      refine wt_cmp (op_eqD c.room.units) (nomark _) ?_
      refine v 4 ?_
      refine we_int ?_
      refine eq_I ?_
      refine ⟨_, rfl, ?_⟩
      refine ⟨fun hc8 => ?_, fun hc8 => ?_⟩
      · have hm0 := of_decide_eq_true hc8
        refine wb_cons ?_
        refine ws_ret ?_
        refine v 3 ?_
        exact ⟨_, Sub.refl, hinc, p, qs, rfl, hcr, pl1, by rw [pl2]; have : (List.map stp (prs ss)).sum = leastI ss := rfl; omega, hl2⟩
      · have hm0 := of_decide_eq_false hc8
        obtain ⟨p0, pt, hps, hlow, hge⟩ := inc_more h0 hinc hm0
        refine wb_nil ?_
        refine wb_cons ?_
        refine ws_lcD [("k", 10), ("before", 8), ("after", 9)] 5 c.calm c.nd rfl rfl (blkOk_by (N := n_course) (sc := defScope s_course) (by decide +kernel)) (sw_true rfl rfl rfl (by decide +kernel)) ?_
        refine lc_filt (fun p : (Int × Int) × Nat => PyData.tuple [.int (p.2 : Int), prD p.1]) ((prs ss).zipIdx) (fun p => decide (p.1.2 < p.1.1)) (fun p => .int (p.2 : Int)) ?_
        refine wi_enum rfl T.b_enumerate ?_
        refine v 2 ?_
        refine ⟨_, rfl, ?_⟩
        refine ⟨enumD_map prD (prs ss), by rw [List.length_zipIdx]; omega, ?_, ?_⟩
        · intro i9 x9 hx9 s0 H0 C cl fp
          refine wg_tup c.calm ?_ rfl
          refine wgs_cons ?_
          refine wg_name 10 c.nd rfl (by walk_at "zloc") ?_
          refine wgs_cons ?_
          refine wg_tup c.calm ?_ rfl
          refine wgs_cons ?_
          refine wg_name 8 c.nd rfl (by walk_at "zloc") ?_
          refine wgs_cons ?_
          refine wg_name 9 c.nd rfl (by walk_at "zloc") ?_
          refine wgs_nil ?_
          refine wgs_nil ?_
          intro s0 H0 C cl fp
          refine wt_cmp op_lt (nomark _) ?_
          refine v 9 ?_
          refine v 8 ?_
          refine r2_B0 ?_
          refine ⟨_, rfl, ?_⟩
          refine ⟨rfl, rfl, fun hb9 s0 H0 C cl fp => ?_⟩
          refine v 10 ?_
          exact ⟨rfl, rfl⟩
        · refine ⟨(plc ss).map fun p => .int (p.2 : Int), rfl, ?_⟩
          refine wb_cons ?_
          refine ws_if ?_
          refine wt_cmp (op_eqD c.room.units) (nomark _) ?_
          refine v 5 ?_
          refine we_lst ?_
          refine wa_nil ?_
          refine ⟨[], rfl, by simp, ?_⟩
          refine eq_D .d .d (by rw [show ((plc ss).map fun p => PyData.int (p.2 : Int)) = ((plc ss).map fun p => (p.2 : Int)).map .int by rw [List.map_map]; rfl]; exact (ints_shaped _).1) rfl (by rw [show ((plc ss).map fun p => PyData.int (p.2 : Int)) = ((plc ss).map fun p => (p.2 : Int)).map .int by rw [List.map_map]; rfl]; exact (ints_shaped _).2) rfl ?_
          rw [nil_eqv]
          refine ⟨_, rfl, ?_⟩
          refine ⟨fun hc10 => ?_, fun hc10 => ?_⟩
          · have hpl0 := plc_nil (ss := ss) (by simpa using hc10)
            have hlow := hlow hpl0
            obtain ⟨j, hj1, hj2⟩ := first_ix ((prs ss).map (·.1)) ((pt.map (·.1)).foldl min p0.1) (by rw [hps]; exact foldl_min_mem _ _)
            obtain ⟨q, hq, hqe⟩ : ∃ q, (prs ss)[j]? = some q ∧ q.1 = (pt.map (·.1)).foldl min p0.1 := by
              rw [List.getElem?_map] at hj1
              cases h : (prs ss)[j]? with
              | none => rw [h] at hj1; cases hj1
              | some q => rw [h] at hj1; exact ⟨q, rfl, Option.some.inj hj1⟩
            refine wb_cons ?_
            refine ws_set 6 c.nd rfl (by walk_at "zloc") ?_
            refine we_callB (c_minZ c) rfl T.b_min (by decide +kernel) ?_
            refine wa_cons ?_
            refine we_lcD [("before", 8), ("after", 9)] c.calm c.nd (blkOk_by (N := n_course) (sc := defScope s_course) (by decide +kernel)) ?_
            refine lc_map (prD) (prs ss) (fun q => .int q.1) ?_
            refine wi_list ?_
            refine v 2 ?_
            refine ⟨_, rfl, ?_⟩
            refine ⟨rfl, by omega, ?_, ?_⟩
            · intro i11 x11 hx11 s0 H0 C cl fp
              refine wg_tup c.calm ?_ rfl
              refine wgs_cons ?_
              refine wg_name 8 c.nd rfl (by walk_at "zloc") ?_
              refine wgs_cons ?_
              refine wg_name 9 c.nd rfl (by walk_at "zloc") ?_
              refine wgs_nil ?_
              intro s0 H0 C cl fp
              refine v 8 ?_
              exact ⟨rfl, rfl⟩
            · refine ⟨_, rfl, ?_⟩
              refine wa_nil ?_
              refine min_Z (i := p0.1) (ns := pt.map (·.1)) (.inl (by rw [hps]; simp only [List.map_cons, List.map_map]; exact .d)) ?_
              refine wb_cons ?_
              refine ws_set 7 c.nd rfl (by walk_at "zloc") ?_
              refine we_index ?_
              refine we_lcD [("before", 8), ("after", 9)] c.calm c.nd (blkOk_by (N := n_course) (sc := defScope s_course) (by decide +kernel)) ?_
              refine lc_map (prD) (prs ss) (fun q => .int q.1) ?_
              refine wi_list ?_
              refine v 2 ?_
              refine ⟨_, rfl, ?_⟩
              refine ⟨rfl, by omega, ?_, ?_⟩
              · intro i12 x12 hx12 s0 H0 C cl fp
                refine wg_tup c.calm ?_ rfl
                refine wgs_cons ?_
                refine wg_name 8 c.nd rfl (by walk_at "zloc") ?_
                refine wgs_cons ?_
                refine wg_name 9 c.nd rfl (by walk_at "zloc") ?_
                refine wgs_nil ?_
                intro s0 H0 C cl fp
                refine v 8 ?_
                exact ⟨rfl, rfl⟩
              · refine ⟨_, rfl, ?_⟩
                refine ⟨by walk_at "zty", ?_⟩
                refine wa_cons ?_
                refine v 6 ?_
                refine wa_nil ?_
                refine index_I (xs := (prs ss).map (·.1)) (by rw [List.map_map]; exact .d) hj1 hj2 ?_
                refine wb_cons ?_
                refine ws_setix ?_
                refine we_lstX ?_
                refine wa_cons ?_
                refine we_op op_sub ?_
                refine v 4 ?_
                refine v 6 ?_
                refine r2_I0 ?_
                refine wa_cons ?_
                refine we_ix ix_seq ?_
                refine we_ix ix_seq ?_
                refine v 2 ?_
                refine v 7 ?_
                refine ix_L (d := prD q) .d (atI_nat (by rw [List.getElem?_map, hq]; rfl)) ?_
                refine we_int ?_
                refine ix_T (d := .int q.2) rfl ?_
                refine wa_nil ?_
                refine ⟨by simp, fun q13 nq13 => ?_⟩
                have nqn := nq13
                generalize q13 = qn at *
                refine v 3 ?_
                refine v 7 ?_
                have hjl : j < qs.length := by
                  have h := congrArg List.length hv
                  have := (List.getElem?_eq_some_iff.mp hq).1
                  simp at h
                  omega
                refine ⟨_, _, _, j, rfl, rfl, (Mem.put_ne (fun z => by rw [← z, hqp] at nqn; cases nqn)).trans hqp, (by rw [List.length_map]; unfold ixN; simp [hjl]), ?_⟩
                refine wb_nil ?_
                refine wb_cons ?_
                refine ws_ret ?_
                refine v 3 ?_
                first
                  | (have hcr2 := hcr.setn (j := j) nqn [i - leastI ss - (pt.map (·.1)).foldl min p0.1, q.2]
                     have hvj : (qs.map (·.2))[j]? = some (plainI q) := by rw [hv, List.getElem?_map, hq]; rfl
                     have hq2 := hpl0 q (List.mem_of_getElem? hq)
                     have hq3 := h0 q.2 (prs_mem (List.mem_of_getElem? hq)).2
                     have epl : plainI q = [q.2 - q.1] := by unfold plainI; rw [if_pos hq2]
                     refine ⟨_, Sub.refl, hinc, p, qs.set j (qn, [i - leastI ss - (pt.map (·.1)).foldl min p0.1, q.2]), rfl, hcr2, ?_, ?_, hl2s _ _ _ _⟩
                     · rw [List.map_set]
                       refine paired_set pl1 hq ⟨fun g hg => ?_, ?_⟩
                       · simp at hg
                         rcases hg with rfl | rfl
                         · omega
                         · exact hq3
                       · show decide (([_, q.2] : List Int).getLast _ = q.2) = true
                         exact decide_eq_true (by simp)
                     · rw [List.map_set]
                       show totI ((qs.map (·.2)).set j _) = i
                       rw [tot_set hvj, pl2, epl]
                       have : (List.map stp (prs ss)).sum = leastI ss := rfl
                       simp
                       omega)
                  | (have hcr2 := hcr.setv hqj [0 + (i - leastI ss), q2]
                     have hq3 := h0 q2 (prs_mem (List.mem_of_getElem? hq)).2
                     refine ⟨_, Sub.refl, hinc, p, qs.set j (aj, [0 + (i - leastI ss), q2]), rfl, hcr2, ?_, ?_, hl2s _ _ _ _⟩
                     · rw [List.map_set]
                       refine paired_set pl1 hq ⟨fun g hg => ?_, ?_⟩
                       · simp at hg
                         rcases hg with rfl | rfl
                         · omega
                         · exact hq3
                       · show decide (([_, q2] : List Int).getLast _ = q2) = true
                         exact decide_eq_true (by simp)
                     · rw [List.map_set]
                       show totI ((qs.map (·.2)).set j _) = i
                       rw [tot_set hvj, pl2, epl]
                       have : (List.map stp (prs ss)).sum = leastI ss := rfl
                       simp
                       omega)
          · obtain ⟨⟨⟨q1, q2⟩, j⟩, pl, hpl⟩ : ∃ a t, plc ss = a :: t := by
              cases h : plc ss with
              | nil => rw [h] at hc10; simp at hc10
              | cons a t => exact ⟨a, t, rfl⟩
            obtain ⟨hq, hqf⟩ := plc_get (ss := ss) (q := (q1, q2)) (j := j) (by rw [hpl]; simp)
            simp only at hqf
            have hvj : (qs.map (·.2))[j]? = some (plainI (q1, q2)) := by rw [hv, List.getElem?_map, hq]; rfl
            obtain ⟨⟨aj, vj⟩, hqj, hvj2⟩ : ∃ u, qs[j]? = some u ∧ u.2 = plainI (q1, q2) := by
              rw [List.getElem?_map] at hvj
              cases h : qs[j]? with
              | none => rw [h] at hvj; cases hvj
              | some u => rw [h] at hvj; exact ⟨u, rfl, Option.some.inj hvj⟩
            simp only at hvj2
            subst hvj2
            have hmj := (hcr.hq _ (List.mem_of_getElem? hqj)).2
            have epl : plainI (q1, q2) = [0, q2] := by unfold plainI; rw [if_neg (by simp; omega)]
            rw [epl] at hmj hqj
            refine wb_cons ?_
            refine ws_augix ?_
            refine we_ix ix_seq ?_
            refine v 3 ?_
            refine we_ix ix_seq ?_
            refine v 5 ?_
            refine we_int ?_
            refine ix_L (d := .int (j : Int)) .d (atI_nat (j := 0) (by rw [hpl]; rfl)) ?_
            refine ix_X (r := .x aj) hqp (atI_nat (j := j) (by rw [List.getElem?_map, hqj]; rfl)) ?_
            refine we_int ?_
            refine ⟨_, _, 0, 0, rfl, rfl, hmj, rfl, ?_⟩
            refine v 4 ?_
            refine ⟨_, _, hmj, by simp, rfl, ?_⟩
            refine wb_nil ?_
            refine wb_cons ?_
            refine ws_ret ?_
            refine v 3 ?_
            first
              | (have hcr2 := hcr.setn (j := j) nqn [i - leastI ss - (pt.map (·.1)).foldl min p0.1, q.2]
                 have hvj : (qs.map (·.2))[j]? = some (plainI q) := by rw [hv, List.getElem?_map, hq]; rfl
                 have hq2 := hpl0 q (List.mem_of_getElem? hq)
                 have hq3 := h0 q.2 (prs_mem (List.mem_of_getElem? hq)).2
                 have epl : plainI q = [q.2 - q.1] := by unfold plainI; rw [if_pos hq2]
                 refine ⟨_, Sub.refl, hinc, p, qs.set j (qn, [i - leastI ss - (pt.map (·.1)).foldl min p0.1, q.2]), rfl, hcr2, ?_, ?_, hl2s _ _ _ _⟩
                 · rw [List.map_set]
                   refine paired_set pl1 hq ⟨fun g hg => ?_, ?_⟩
                   · simp at hg
                     rcases hg with rfl | rfl
                     · omega
                     · exact hq3
                   · show decide (([_, q.2] : List Int).getLast _ = q.2) = true
                     exact decide_eq_true (by simp)
                 · rw [List.map_set]
                   show totI ((qs.map (·.2)).set j _) = i
                   rw [tot_set hvj, pl2, epl]
                   have : (List.map stp (prs ss)).sum = leastI ss := rfl
                   simp
                   omega)
              | (have hcr2 := hcr.setv hqj [0 + (i - leastI ss), q2]
                 have hq3 := h0 q2 (prs_mem (List.mem_of_getElem? hq)).2
                 refine ⟨_, Sub.refl, hinc, p, qs.set j (aj, [0 + (i - leastI ss), q2]), rfl, hcr2, ?_, ?_, hl2s _ _ _ _⟩
                 · rw [List.map_set]
                   refine paired_set pl1 hq ⟨fun g hg => ?_, ?_⟩
                   · simp at hg
                     rcases hg with rfl | rfl
                     · omega
                     · exact hq3
                   · show decide (([_, q2] : List Int).getLast _ = q2) = true
                     exact decide_eq_true (by simp)
                 · rw [List.map_set]
                   show totI ((qs.map (·.2)).set j _) = i
                   rw [tot_set hvj, pl2, epl]
                   have : (List.map stp (prs ss)).sum = leastI ss := rfl
                   simp
                   omega)
theorem av_courseD (T : Txt K mg C_NoCourse) : Av P w K mg base 4 "course" p_course S_courseD := Av.weak (av_course T) fun i m h => ⟨i, rfl, ⟨h.1, h.2.1⟩, fun r m' ⟨_, p, qs, e, cr, h1, h2, h3⟩ => by
  subst e
  exact ⟨_, m, ⟨qs.map (·.2), rfl, h1, h2, h3, rfl⟩, cr.rf⟩, fun c d m' ⟨h1, _⟩ => by rw [h.2.2] at h1; exact Bool.noConfusion h1⟩
theorem av_l_drawn_course (T : Txt K mg C_NoCourse) : Av P w K mg base 3 "_law_drawn_course" p_l_drawn_course S_drawn := by
  obtain ⟨f, fd, Fn, hmg⟩ := T.f_l_drawn_course
  refine ⟨f, fd, fn_G Fn sc_l_drawn_course (fun _ => rfl) ?_, hmg, Fn.kp, Fn.binds fun _ _ _ _ _ _ us hl => match us, hl with | [_, _, _], _ => rfl⟩
  intro cdv A outer s H E Zx c
  rintro ⟨f, c0, k⟩ m ⟨hm, hc0, hk0, hk1⟩
  simp only at hm hc0 hk0 hk1
  change WB _ _ [some (.x f), some (.d (.int 60)), some (.d (.int k)), none, none, none, none, none, none] m _
  rw [fd_of hm]
  refine wb_cons ?_
  refine ws_set 3 c.nd rfl (by walk_at "zloc") ?_
  refine we_call c (av_l_take T) (by decide) rfl ?_
  refine wa_cons ?_
  refine v 0 ?_
  refine wa_cons ?_
  refine we_op op_addZ ?_
  refine v 2 ?_
  refine we_int ?_
  walk_at "z+"
  refine wa_nil ?_
  refine use_l_takeM (by walk_at "zmem") (by assumption) (by omega) (by omega) fun t1 c1 hc1 lo1 hi1 => ?_
  rw [Mem.put_put]
  generalize t1 = h0 at *
  refine wb_cons ?_
  refine ws_par 4 5 c.calm c.nd rfl rfl (by decide) rfl rfl ?_ rfl
  refine wa_cons ?_
  refine we_lstX ?_
  refine wa_cons ?_
  refine v 3 ?_
  refine wa_nil ?_
  refine ⟨by simp, fun q2 nq2 => ?_⟩
  have np := nq2
  generalize q2 = p at *
  have npf : p ≠ f := fun q => by rw [q, Mem.put_same] at np; cases np
  have nfp := npf.symm
  refine wa_cons ?_
  refine we_lstX ?_
  refine wa_nil ?_
  refine ⟨by simp, fun q3 nq3 => ?_⟩
  have nq := nq3
  generalize q3 = q at *
  have nqp : q ≠ p := fun z => by rw [z, Mem.put_same] at nq; cases nq
  have npq := nqp.symm
  have nqf : q ≠ f := fun z => by rw [z, Mem.put_ne nfp, Mem.put_same] at nq; cases nq
  have nfq := nqf.symm
  refine wa_nil ?_
  refine ⟨_, _, rfl, ?_⟩
  refine wb_cons ?_
  refine ws_for (vs := [6]) c.pass c.calm ?_
  refine wi_rng1 rfl T.b_range ?_
  refine wa_cons ?_
  refine we_call c (av_l_take T) (by decide) rfl ?_
  refine wa_cons ?_
  refine v 0 ?_
  refine wa_cons ?_
  refine v 1 ?_
  refine wa_nil ?_
  refine use_l_takeM (by walk_at "zmem") (by assumption) (by omega) (by omega) fun t4 c4 hc4 lo4 hi4 => ?_
  generalize t4 = tn at *
  refine wa_nil ?_
  refine ⟨_, rfl, by omega, by omega, ?_⟩
  refine ⟨fun i n' m' => ∃ (ss : List Int) (h : Int) (ps : List (List Int)) (c : Int × Int) (e1 e2 e3 : Option Ent), n' = [some (.x f), some (.d (.int 60)), some (.d (.int k)), some (.d (.int h)), some (.x p), some (.x q), e1, e2, e3] ∧ FOk c ∧ m' f = some (fdO c) ∧ m' p = some (.lst (List.map .d ((ss ++ [h]).map .int))) ∧ m' q = some (.lst (List.map .d (ps.map pthD))) ∧ (∀ x o, x ≠ f → m x = some o → m' x = some o) ∧ (∀ s ∈ ss ++ [h], 0 ≤ s ∧ s ≤ 40 + 4 * i) ∧ CrsP (ss ++ [h]) ps ∧ ss.length = i ∧ ps.length = i ∧ ∀ p ∈ ps, p.length ≤ 3, ?_, ?_, ?_⟩
  · refine ⟨[], h0, [], _, none, none, none, rfl, by assumption, by walk_at "zmem", by walk_at "zmem", by walk_at "zmem", fun x o hx e => ?_, fun s hs => by simp at hs; omega, .nil, rfl, rfl, fun _ h => by simp at h⟩
    have xp : x ≠ p := fun z => by rw [z, ] at e; rw [Mem.put_ne npf] at np; rw [np] at e; cases e
    have xq : x ≠ q := fun z => by rw [z] at e; rw [Mem.put_ne nqp, Mem.put_ne nqf] at nq; rw [nq] at e; cases e
    rw [Mem.put_ne hx, Mem.put_ne xq, Mem.put_ne xp, Mem.put_ne hx]
    exact e
  · intro i5 d5 n5 m5 hd5 hi5
    obtain ⟨ss, h, ps, fc, e1, e2, e3, rfl, hc, hf, hp, hq, hkp, hss, hcr, hl1, hl2, hl3⟩ := hi5
    obtain ⟨hlt, rfl⟩ := intsD_get hd5
    generalize m5 = mT at *
    generalize i5 = i at *
    refine wg_name 6 c.nd rfl (by walk_at "zloc") ?_
    refine wb_cons ?_
    refine ws_lcD [("_law_fall", 8)] 7 c.calm c.nd rfl rfl (blkOk_by (N := n_l_drawn_course) (sc := defScope s_l_drawn_course) (by decide +kernel)) (sw_true rfl rfl rfl (by decide +kernel)) ?_
    refine wi_rng1 rfl T.b_range ?_
    refine wa_cons ?_
    refine we_op op_addZ ?_
    refine we_int ?_
    refine we_call c (av_l_pick T) (by decide) rfl ?_
    refine wa_cons ?_
    refine v 0 ?_
    refine wa_cons ?_
    refine we_lst ?_
    refine wa_cons ?_
    refine we_int ?_
    refine wa_cons ?_
    refine we_int ?_
    refine wa_cons ?_
    refine we_int ?_
    refine wa_cons ?_
    refine we_int ?_
    refine wa_cons ?_
    refine we_int ?_
    refine wa_nil ?_
    refine ⟨[_, _, _, _, _], rfl, by simp, ?_⟩
    refine wa_nil ?_
    refine use_l_pickM (by walk_at "zmem") (by assumption) .d (fun e => nomatch e) (by simp) (by simp) fun d6 c6 hc6 mem6 => ?_
    obtain ⟨fl, rfl, hfl0, hfl1⟩ : ∃ z : Int, d6 = .int z ∧ 0 ≤ z ∧ z ≤ 2 := by
      simp only [List.mem_cons, List.not_mem_nil, or_false] at mem6
      rcases mem6 with rfl | rfl | rfl | rfl | rfl <;> exact ⟨_, rfl, by decide, by decide⟩
    walk_at "z+"
    refine wa_nil ?_
    refine ⟨_, rfl, by omega, by omega, ?_⟩
    refine ⟨fun i acc m' => ∃ (gs : List Int) (c : Int × Int), acc = List.map .d (gs.map .int) ∧ gs.length = i ∧ (∀ g ∈ gs, 0 ≤ g ∧ g < 4) ∧ FOk c ∧ m' = mT.put f (fdO c), ?_, ?_, ?_⟩
    · exact ⟨[], _, rfl, rfl, fun _ h => by simp at h, by assumption, rfl⟩
    · intro i7 d7 acc7 m7 hd7 hi7
      obtain ⟨gs, fc, rfl, hgl, hg, hc, rfl⟩ := hi7
      have hil := (intsD_get hd7).1
      refine ⟨by simp; omega, fun s0 H0 C cl fp => ?_⟩
      refine wg_name 8 c.nd rfl (by walk_at "zloc") ?_
      intro s0 H0 C cl fp
      refine ⟨fun _ s0 H0 C cl fp => ?_, fun hb => Bool.noConfusion hb⟩
      refine we_call c.blk (av_l_take T) (by decide) rfl ?_
      refine wa_cons ?_
      refine v 0 ?_
      refine wa_cons ?_
      refine we_int ?_
      refine wa_nil ?_
      refine use_l_take (by assumption) (by omega) (by omega) fun t8 c8 hc8 lo8 hi8 => ?_
      exact ⟨gs ++ [t8], _, by simp, by simp [hgl], fun g hg2 => by
        rcases List.mem_append.mp hg2 with z | z
        · exact hg g z
        · simp at z; omega, by assumption, rfl⟩
      skip
    · rintro acc7 m7 ⟨gs, cg, rfl, hgl, hg, hcg, rfl⟩
      rw [intsD_length] at hgl
      refine ⟨gs.map .int, rfl, ?_⟩
      have hg1 : 1 ≤ gs.length := by omega
      have hg3 : gs.length ≤ 3 := by omega
      have hf2 : (mT.put f (fdO cg)) f = some (fdO cg) := Mem.put_same
      have hp2 : (mT.put f (fdO cg)) p = _ := (Mem.put_ne npf).trans hp
      have hq2 : (mT.put f (fdO cg)) q = _ := (Mem.put_ne nqf).trans hq
      have hkp2 : ∀ x o, x ≠ f → m x = some o → (mT.put f (fdO cg)) x = some o := fun x o hx e => by rw [Mem.put_ne hx]; exact hkp x o hx e
      generalize mT.put f (fdO cg) = mU at *
      clear hf hp hq hkp
      refine wb_cons ?_
      refine ws_set 3 c.nd rfl (by walk_at "zloc") ?_
      refine WE.cut (fun r m' => ∃ h' : Int, r = .d (.int h') ∧ PthOk (h, h') gs ∧ 0 ≤ h' ∧ h' ≤ h + 4 ∧ m' = mU) ?_ ?_
      · refine we_if ?_
        refine wt_cmp (op_eqD c.room.units) (nomark _) ?_
        refine we_callB c_len rfl T.b_len (by decide +kernel) ?_
        refine wa_cons ?_
        refine v 7 ?_
        refine wa_nil ?_
        refine len_L .d ?_
        rw [List.length_map]
        refine we_int ?_
        refine eq_I ?_
        refine ⟨_, rfl, ?_⟩
        refine ⟨fun hc9 => ?_, fun hc9 => ?_⟩
        · have h1 := of_decide_eq_true hc9
          obtain ⟨g0, rfl⟩ : ∃ g, gs = [g] := List.length_eq_one_iff.mp (by omega)
          refine we_op op_addZ ?_
          refine v 3 ?_
          refine we_ix ix_seq ?_
          refine v 7 ?_
          refine we_int ?_
          refine ix_L (d := .int g0) .d (atI_nat (j := 0) rfl) ?_
          have hgg := hg g0 (by simp)
          have hh := hss h (by simp)
          refine add_I ⟨_, rfl, ⟨fun g hg2 => (hg g hg2).1, decide_eq_true rfl⟩, by omega, by omega, rfl⟩
          skip
        · have h1 := of_decide_eq_false hc9
          obtain ⟨g0, g1, gt, rfl⟩ : ∃ x y t, gs = x :: y :: t := by
            match gs, h1, hg1 with
            | x :: y :: t, _, _ => exact ⟨x, y, t, rfl⟩
            | [x], h, _ => simp at h
          refine we_ix ix_seq ?_
          refine v 7 ?_
          refine we_neg (i0 := ()) ?_
          refine we_int ?_
          refine ⟨_, rfl, ?_⟩
          refine ix_L .d (lastI_get g0 (g1 :: gt)) ?_
          have hgg := hg ((g0 :: g1 :: gt).getLast (by simp)) (List.getLast_mem _)
          have hh := hss h (by simp)
          exact ⟨_, rfl, ⟨fun g hg2 => (hg g hg2).1, decide_eq_true rfl⟩, hgg.1, by omega, rfl⟩
          skip
      · rintro r m1 ⟨h', rfl, hpo, hh0, hh1, rfl⟩
        refine wb_cons ?_
        refine ws_expr ?_
        refine we_append ?_
        refine v 4 ?_
        refine ⟨by walk_at "zty", ?_⟩
        refine wa_cons ?_
        refine v 3 ?_
        refine wa_nil ?_
        refine app_X (by walk_at "zmem") (by simp; omega) ?_
        refine wb_cons ?_
        refine ws_expr ?_
        refine we_append ?_
        refine v 5 ?_
        refine ⟨by walk_at "zty", ?_⟩
        refine wa_cons ?_
        refine v 7 ?_
        refine wa_nil ?_
        refine app_X (by walk_at "zmem") (by simp; omega) ?_
        refine wb_nil ?_
        refine ⟨ss ++ [h], h', ps ++ [gs], _, _, _, _, rfl, hcg, by walk_at "zmem", by rw [Mem.put_ne npq, Mem.put_same]; simp, by rw [Mem.put_same]; simp, fun x o hx e => ?_, fun s hs => ?_, ?_, by simp [hl1], by simp [hl2], fun u hu => ?_⟩
        · have e2 := hkp2 x o hx e
          have xp : x ≠ p := fun z => by
            subst z
            rw [Mem.put_ne npf] at np
            rw [np] at e
            cases e
          have xq : x ≠ q := fun z => by
            subst z
            rw [Mem.put_ne nqp, Mem.put_ne nqf] at nq
            rw [nq] at e
            cases e
          rw [Mem.put_ne xq, Mem.put_ne xp]
          exact e2
        · rcases List.mem_append.mp hs with z | z
          · have := hss s z
            push_cast
            omega
          · have := hss h (by simp)
            simp at z
            subst z
            push_cast
            omega
        · unfold CrsP
          rw [prs_snoc]
          exact paired_snoc2 hcr hpo
        · rcases List.mem_append.mp hu with z | z
          · exact hl3 u z
          · simp at z; subst z; exact hg3
  · intro n5 m5 hi5
    obtain ⟨ss, h, ps, fc, e1, e2, e3, rfl, hc, hf, hp, hq, hkp, hss, hcr, hl1, hl2, hl3⟩ := hi5
    generalize m5 = mT at *
    have htn : (intsD 0 tn.toNat).length = tn.toNat := intsD_length
    rw [htn] at hl1 hl2 hss
    refine WB.rf ((rf_list hp).trans (rf_list (p := q) (ds := ps.map pthD) (by unfold Mem.drop; rw [if_neg nqp]; exact hq))) ?_
    simp only [List.map_cons, List.map_nil, fz_self, fz_ne nqp, fz_d, fz_ne nfp, fz_ne nfq]
    refine wb_cons ?_
    refine ws_ret ?_
    refine we_tup ?_
    refine wa_cons ?_
    refine v 4 ?_
    refine wa_cons ?_
    refine v 5 ?_
    refine wa_nil ?_
    refine ⟨[_, _], rfl, by simp, ?_⟩
    refine ⟨_, sub_1 (m := m) (f := f) (a := fdO fc) ?_ ?_, ss ++ [h], ps, fc, hc, ⟨?_, by simp; omega, fun s hs => ?_, hcr, by simp; omega, hl3⟩, rfl, ?_⟩
    · unfold Mem.drop
      rw [if_neg nfq, if_neg nfp]
      exact hf
    · intro x o hx e
      have xp : x ≠ p := fun z => by
        subst z
        rw [Mem.put_ne npf] at np
        rw [np] at e
        cases e
      have xq : x ≠ q := fun z => by
        subst z
        rw [Mem.put_ne nqp, Mem.put_ne nqf] at nq
        rw [nq] at e
        cases e
      unfold Mem.drop
      rw [if_neg xq, if_neg xp]
      exact hkp x o hx e
    · cases ss with
      | nil => exact ⟨_, _, rfl⟩
      | cons a t => exact ⟨_, _, rfl⟩
    · have := hss s hs
      omega
    · funext b
      by_cases hb : b = f
      · subst hb; simp [Mem.put]
      · simp [Mem.put, hb]
theorem g_law {f : Addr} {fd : FuncData} (Fn : Fun K "law" "law" s_law f fd) (T : Txt K mg C_NoCourse) : FnG P w K mg base 7 f fd p_law (spW K (lawS 63)) := by
  refine fn_G Fn sc_law (fun _ => rfl) ?_
  intro cdv A outer s H E Zx c
  intro (ns : List Int) m hpre
  obtain ⟨hlen, hbits, _⟩ := hpre
  change ns.length ≤ 63 at hlen
  change WB _ _ [some (.d (.list (ns.map .int))), none, none, none, none, none, none, none, none, none, none, none, none, none] m _
  refine wb_cons ?_
  refine ws_for (vs := [1]) c.pass c.calm ?_
  refine wi_rng1 rfl T.b_range ?_
  refine wa_cons ?_
  refine we_callB (c_max2 c.calm) rfl T.b_max (by decide +kernel) ?_
  refine wa_cons ?_
  refine we_int ?_
  refine wa_cons ?_
  refine we_callB (c_min2 c.calm) rfl T.b_min (by decide +kernel) ?_
  refine wa_cons ?_
  refine we_int ?_
  refine wa_cons ?_
  refine we_callB c_len rfl T.b_len (by decide +kernel) ?_
  refine wa_cons ?_
  refine v 0 ?_
  refine wa_nil ?_
  refine len_L .d ?_
  rw [List.length_map]
  refine wa_nil ?_
  refine min_II ?_
  refine wa_nil ?_
  refine max_II ?_
  refine wa_nil ?_
  refine ⟨_, rfl, by omega, by omega, ?_⟩
  refine ⟨fun i n' m' => ∃ (a1 a2 a3 a4 a5 a6 a7 a8 a9 a10 a11 a12 a13 : Option Ent), n' = [some (.d (.list (ns.map .int))), a1, a2, a3, a4, a5, a6, a7, a8, a9, a10, a11, a12, a13], ?_, ?_, ?_⟩
  · exact ⟨_, _, _, _, _, _, _, _, _, _, _, _, _, rfl⟩
  · intro i1 d1 n1 m1 hd1 hi1
    obtain ⟨a1, a2, a3, a4, a5, a6, a7, a8, a9, a10, a11, a12, a13, rfl⟩ := hi1
    obtain ⟨hlt1, rfl⟩ := intsD_get hd1
    rw [Int.zero_add]
    have hk5 : i1 < 1000 := by omega
    generalize i1 = k at *
    generalize m1 = mT at *
    refine wg_name 1 c.nd rfl (by walk_at "zloc") ?_
    refine wb_cons ?_
    refine ws_set 2 c.nd rfl (by walk_at "zloc") ?_
    refine we_call c (av_l_feed T) (by decide) rfl ?_
    refine wa_cons ?_
    refine v 0 ?_
    refine wa_cons ?_
    refine v 1 ?_
    refine wa_nil ?_
    refine use_l_feed (by omega) hbits fun f c2 hf2 hc2 => ?_
    refine wb_cons ?_
    refine ws_asg (vs := [3, 4]) ?_
    refine we_call c (av_l_drawn_course T) (by decide) rfl ?_
    refine wa_cons ?_
    refine v 2 ?_
    refine wa_cons ?_
    refine we_int ?_
    refine wa_cons ?_
    refine we_call c (av_l_pick T) (by decide) rfl ?_
    refine wa_cons ?_
    refine v 2 ?_
    refine wa_cons ?_
    refine we_lst ?_
    refine wa_cons ?_
    refine we_int ?_
    refine wa_cons ?_
    refine we_int ?_
    refine wa_nil ?_
    refine ⟨[_, _], rfl, by simp, ?_⟩
    refine wa_nil ?_
    refine use_l_pickM (by walk_at "zmem") (by assumption) .d (fun e => nomatch e) (by simp) (by simp) fun d3 c3 hc3 mem3 => ?_
    obtain ⟨mo, rfl, hmo0, hmo1⟩ : ∃ z : Int, d3 = .int z ∧ 0 ≤ z ∧ z ≤ 40 := by
      simp only [List.mem_cons, List.not_mem_nil, or_false] at mem3
      rcases mem3 with rfl | rfl <;> exact ⟨_, rfl, by decide, by decide⟩
    refine wa_nil ?_
    refine use_l_drawn_course (by walk_at "zmem") (by assumption) (by omega) (by omega) fun ss ps c3 hc3 dc => ?_
    refine wg_tup c.calm ?_ rfl
    refine wgs_cons ?_
    refine wg_name 3 c.nd rfl (by walk_at "zloc") ?_
    refine wgs_cons ?_
    refine wg_name 4 c.nd rfl (by walk_at "zloc") ?_
    refine wgs_nil ?_
    obtain ⟨⟨sa, st, hsst⟩, hs60, hsb, hcr, hpl, hp3⟩ := dc
    have hs0 : ∀ s ∈ ss, 0 ≤ s := fun s hs => (hsb s hs).1
    have hs1 : ss.length < 1000000 := by omega
    have hps1 := short_pth hcr hs60
    obtain ⟨hinc, hle⟩ := crs_inc hs0 hcr
    have hcB := courseB_ok hcr
    rw [Mem.put_put, Mem.put_put]
    generalize hM : mT.put f (fdO c3) = M
    have hMf : M f = some (fdO c3) := by rw [← hM]; exact Mem.put_same
    obtain ⟨hincl, hlel⟩ := crs_inc hs0 (plain_crs hs0).1
    rw [(plain_crs hs0).2] at hincl
    have hlb : leastI ss ≤ 1000000 := by
      have h1 := least_le (B := 400) (l := prs ss) fun q hq => ⟨(hsb _ (prs_mem hq).1).1, (hsb _ (prs_mem hq).2).1, (hsb _ (prs_mem hq).2).2⟩
      rw [prs_length] at h1
      have e : leastI ss = ((prs ss).map stp).sum := rfl
      omega
    have hlb0 : 0 ≤ leastI ss := (least_le (B := 400) (l := prs ss) fun q hq => ⟨(hsb _ (prs_mem hq).1).1, (hsb _ (prs_mem hq).2).1, (hsb _ (prs_mem hq).2).2⟩).1
    refine wb_cons ?_
    refine ws_par 5 6 c.calm c.nd rfl rfl (by decide) rfl rfl ?_ rfl
    refine wa_cons ?_
    refine we_call c (av_increase_of T) (by decide) rfl ?_
    refine wa_cons ?_
    refine v 4 ?_
    refine wa_nil ?_
    refine use_increase_of hps1 ?_
    refine wa_cons ?_
    refine we_call c (av_least_increase T) (by decide) rfl ?_
    refine wa_cons ?_
    refine v 3 ?_
    refine wa_nil ?_
    refine use_least_increase hs1 ?_
    refine wa_nil ?_
    refine ⟨_, _, rfl, ?_⟩
    refine wb_cons ?_
    refine ws_if ?_
    refine wt_is (b := false) ?_ ?_
    · refine wt_ww ?_
      refine ww_or ?_
      refine wt_not ?_
      refine wt_val ?_
      refine we_call c (av_is_course T) (by decide) rfl ?_
      refine wa_cons ?_
      refine v 3 ?_
      refine wa_cons ?_
      refine v 4 ?_
      refine wa_nil ?_
      refine use_is_course (by assumption) (pths_shaped _).2 (show List.length _ < 1000000 by rw [List.length_map]; exact short_pth (by assumption) (by assumption)) (fun vs e v hv => by
        cases e
        obtain ⟨q, hq, rfl⟩ := List.mem_map.mp hv
        show (List.map _ _).length < 1000000
        rw [List.length_map]
        exact (by have := hp3 q hq; omega)) ?_
      refine ⟨_, rfl, ?_⟩
      refine ⟨fun hc8 => ?_, fun hc8 => ?_⟩
      · refine ww_or ?_
        refine wt_cmp op_lt (nomark _) ?_
        refine v 5 ?_
        refine v 6 ?_
        refine r2_B0 ?_
        refine ⟨_, rfl, ?_⟩
        refine ⟨fun hc9 => ?_, fun hc9 => ?_⟩
        · refine ww_or1 ?_
          refine wt_cmp op_notBl (nomark _) ?_
          refine we_call c (av_is_increase T) (by decide) rfl ?_
          refine wa_cons ?_
          refine v 3 ?_
          refine wa_cons ?_
          refine v 5 ?_
          refine wa_nil ?_
          refine use_is_increase hs1 ?_
          refine we_bl ?_
          refine not_B ?_
          refine ⟨_, rfl, ?_⟩
          rw [hinc]; exact ⟨rfl, rfl⟩
        · have := of_decide_eq_true hc9; omega
      · rw [hcB] at hc8; exact Bool.noConfusion hc8
    · refine ⟨fun hc11 => ?_, fun hc11 => ?_⟩
      · exact Bool.noConfusion hc11
      · refine wb_nil ?_
        refine wb_cons ?_
        refine ws_set 7 c.nd rfl (by walk_at "zloc") ?_
        refine we_call c (av_courseD T) (by decide) rfl ?_
        refine wa_cons ?_
        refine v 3 ?_
        refine wa_cons ?_
        refine v 5 ?_
        refine wa_nil ?_
        refine use_courseD hs1 hs0 hinc fun pz hcz htz hz3 => ?_
        have hpz1 := short_pth hcz hs60
        have hzB := courseB_ok hcz
        refine wb_cons ?_
        refine ws_if ?_
        refine wt_is (b := false) ?_ ?_
        · refine wt_ww ?_
          refine ww_or ?_
          refine wt_not ?_
          refine wt_val ?_
          refine we_call c (av_is_course T) (by decide) rfl ?_
          refine wa_cons ?_
          refine v 3 ?_
          refine wa_cons ?_
          refine v 7 ?_
          refine wa_nil ?_
          refine use_is_course (by assumption) (pths_shaped _).2 (show List.length _ < 1000000 by rw [List.length_map]; exact short_pth (by assumption) (by assumption)) (fun vs e v hv => by
            cases e
            obtain ⟨q, hq, rfl⟩ := List.mem_map.mp hv
            show (List.map _ _).length < 1000000
            rw [List.length_map]
            exact (by have := hz3 q hq; omega)) ?_
          refine ⟨_, rfl, ?_⟩
          refine ⟨fun hc14 => ?_, fun hc14 => ?_⟩
          · refine ww_or1 ?_
            refine wt_cmp (op_neD c.room.units) (nomark _) ?_
            refine we_call c (av_increase_of T) (by decide) rfl ?_
            refine wa_cons ?_
            refine v 7 ?_
            refine wa_nil ?_
            refine use_increase_of hpz1 ?_
            refine v 5 ?_
            refine ne_I ?_
            refine ⟨_, rfl, ?_⟩
            rw [htz]; exact ⟨by simp, rfl⟩
          · rw [hzB] at hc14; exact Bool.noConfusion hc14
        · refine ⟨fun hc16 => ?_, fun hc16 => ?_⟩
          · exact Bool.noConfusion hc16
          · refine wb_nil ?_
            refine wb_cons ?_
            refine ws_if ?_
            refine wt_is (b := false) ?_ ?_
            · refine wt_ww ?_
              refine ww_or ?_
              refine wt_cmp op_notBl (nomark _) ?_
              refine we_call c (av_is_increase T) (by decide) rfl ?_
              refine wa_cons ?_
              refine v 3 ?_
              refine wa_cons ?_
              refine v 6 ?_
              refine wa_nil ?_
              refine use_is_increase hs1 ?_
              refine we_bl ?_
              refine not_B ?_
              refine ⟨_, rfl, ?_⟩
              refine ⟨fun hc18 => ?_, fun hc18 => ?_⟩
              · refine ww_or1 ?_
                refine wt_cmp (op_neD c.room.units) (nomark _) ?_
                refine we_call c (av_increase_of T) (by decide) rfl ?_
                refine wa_cons ?_
                refine we_call c (av_courseD T) (by decide) rfl ?_
                refine wa_cons ?_
                refine v 3 ?_
                refine wa_cons ?_
                refine v 6 ?_
                refine wa_nil ?_
                refine use_courseD hs1 hs0 hincl fun py hcy hty hy3 => ?_
                refine wa_nil ?_
                refine use_increase_of (short_pth hcy hs60) ?_
                refine v 6 ?_
                refine ne_I ?_
                refine ⟨_, rfl, ?_⟩
                rw [hty]; exact ⟨by simp, rfl⟩
              · rw [hincl] at hc18; exact Bool.noConfusion hc18
            · refine ⟨fun hc21 => ?_, fun hc21 => ?_⟩
              · exact Bool.noConfusion hc21
              · refine wb_nil ?_
                refine wb_cons ?_
                refine ws_if ?_
                refine wt_is (b := false) ?_ ?_
                · refine wt_ww ?_
                  refine ww_and ?_
                  refine wt_cmp (op_eqD c.room.units) (nomark _) ?_
                  refine we_lcD [("_law_path_here", 12)] c.calm c.nd (blkOk_by (N := n_law) (sc := defScope s_law) (by decide +kernel)) ?_
                  refine lc_filt (pthD) (ps) (fun p => decide ((p.length : Int) > 1)) (pthD) ?_
                  refine wi_list ?_
                  refine v 4 ?_
                  refine ⟨_, rfl, ?_⟩
                  refine ⟨rfl, by omega, ?_, ?_⟩
                  · intro i22 x22 hx22 s0 H0 C cl fp
                    refine wg_name 12 c.nd rfl (by walk_at "zloc") ?_
                    intro s0 H0 C cl fp
                    refine wt_cmp op_gt (nomark _) ?_
                    refine we_callB c_len rfl T.b_len (by decide +kernel) ?_
                    refine wa_cons ?_
                    refine v 12 ?_
                    refine wa_nil ?_
                    refine len_L .d ?_
                    rw [List.length_map]
                    refine we_int ?_
                    refine r2_B0 ?_
                    refine ⟨_, rfl, ?_⟩
                    refine ⟨rfl, rfl, fun hb22 s0 H0 C cl fp => ?_⟩
                    refine v 12 ?_
                    exact ⟨rfl, rfl⟩
                  · refine ⟨_, rfl, ?_⟩
                    refine we_lst ?_
                    refine wa_nil ?_
                    refine ⟨[], rfl, by simp, ?_⟩
                    refine eq_D .d .d (pths_shaped _).1 rfl (pths_shaped _).2 rfl ?_
                    rw [nil_eqv]
                    refine ⟨_, rfl, ?_⟩
                    refine ⟨fun hc23 => ?_, fun hc23 => ?_⟩
                    · have hone : ∀ p ∈ ps, p.length ≤ 1 := fun p hp => by
                        have h := of_decide_eq_true hc23
                        rw [List.map_eq_nil_iff, List.filter_eq_nil_iff] at h
                        have := h p hp
                        simp at this
                        omega
                      have htl := crs_single hs0 hcr hone
                      refine ww_and1 ?_
                      refine wt_cmp (op_neD c.room.units) (nomark _) ?_
                      refine v 5 ?_
                      refine v 6 ?_
                      refine ne_I ?_
                      refine ⟨_, rfl, ?_⟩
                      first
                        | exact ⟨rfl, rfl⟩
                        | (rw [htl]; exact ⟨by simp, rfl⟩)
                    · first
                        | exact ⟨rfl, rfl⟩
                        | (rw [htl]; exact ⟨by simp, rfl⟩)
                · refine ⟨fun hc24 => ?_, fun hc24 => ?_⟩
                  · exact Bool.noConfusion hc24
                  · refine wb_nil ?_
                    refine wb_cons ?_
                    refine WS.cut (fun o => ∃ a b : Option Ent, o = .nx [some (.d (.list (ns.map .int))), some (.d (.int (k : Int))), some (.x f), some (.d (smD ss)), some (.d (.list (ps.map pthD))), some (.d (.int (totI ps))), some (.d (.int (leastI ss))), some (.d (.list (pz.map pthD))), a, a9, a10, a11, a12, b] M) ?_ ?_
                    · refine ws_if ?_
                      refine wt_ww ?_
                      refine ww_and ?_
                      refine wt_cmp (op_eqD c.room.units) (nomark _) ?_
                      refine v 3 ?_
                      refine we_callB cr_sortedI rfl T.b_sorted (by decide +kernel) ?_
                      refine wa_cons ?_
                      refine v 3 ?_
                      refine wa_nil ?_
                      refine sorted_I (by walk_at "zdat") ?_
                      refine eq_D .d .d (ints_shaped _).1 (ints_shaped _).1 (ints_shaped _).2 (ints_shaped _).2 ?_
                      rw [ints_eqv]
                      refine ⟨_, rfl, ?_⟩
                      refine ⟨fun hc25 => ?_, fun hc25 => ?_⟩
                      · have hpw : ss.Pairwise (· ≤ ·) := by rw [of_decide_eq_true hc25]; exact sortI_pw ss
                        have hnf := pw_prs hpw
                        have hff := fall_of hnf
                        refine ww_and1 ?_
                        refine wt_cmp op_gt (nomark _) ?_
                        refine we_callB c_len rfl T.b_len (by decide +kernel) ?_
                        refine wa_cons ?_
                        refine v 3 ?_
                        refine wa_nil ?_
                        refine len_L .d ?_
                        rw [List.length_map]
                        refine we_int ?_
                        refine r2_B0 ?_
                        refine ⟨_, rfl, ?_⟩
                        refine ⟨fun hc26 => ?_, fun hc26 => ?_⟩
                        · have hl1 := of_decide_eq_true hc26
                          refine wb_cons ?_
                          refine ws_set 8 c.nd rfl (by walk_at "zloc") ?_
                          refine we_op op_addZ ?_
                          refine v 6 ?_
                          refine we_callB (c_minZ c) rfl T.b_min (by decide +kernel) ?_
                          refine wa_cons ?_
                          refine we_slice sl_Z ?_
                          refine v 3 ?_
                          refine wo_none ?_
                          refine wo_some ?_
                          refine we_neg (i0 := ()) ?_
                          refine we_int ?_
                          refine ⟨_, rfl, ?_⟩
                          refine ⟨_, rfl, ?_⟩
                          refine sl_L .d ?_
                          rw [cutD_map, cut_init]
                          obtain ⟨i0, it, hit⟩ : ∃ a t, ss.dropLast = a :: t := by
                            cases h : ss.dropLast with
                            | nil =>
                              exfalso
                              have h1 := congrArg List.length h
                              rw [List.length_dropLast] at h1
                              simp at h1
                              omega
                            | cons a t => exact ⟨a, t, rfl⟩
                          have hlow := low_init hit
                          have hnx := fun n => next_inc (n := n) hff hlow
                          have hlow0 : 0 ≤ it.foldl min i0 ∧ it.foldl min i0 ≤ 400 := by
                            have h1 := foldl_min_mem it i0
                            rw [← hit] at h1
                            exact hsb _ (List.dropLast_subset _ h1)
                          refine wa_nil ?_
                          refine min_Z (i := i0) (ns := it) (.inl (by rw [hit]; exact .d)) ?_
                          walk_at "z+"
                          refine wb_cons ?_
                          refine ws_if ?_
                          refine wt_is (b := false) ?_ ?_
                          · refine wt_cmp (op_neD c.room.units) (nomark _) ?_
                            refine we_lcD [("_law_n", 13)] c.calm c.nd (blkOk_by (N := n_law) (sc := defScope s_law) (by decide +kernel)) ?_
                            refine lc_filt (fun i : Nat => PyData.int (leastI ss + 1 + (i : Int))) (List.range (leastI ss + it.foldl min i0 - (leastI ss + 1)).toNat) (fun _ => false) (fun i : Nat => .int (leastI ss + 1 + (i : Int))) ?_
                            refine wi_rng2 rfl T.b_range ?_
                            refine wa_cons ?_
                            refine we_op op_addZ ?_
                            refine v 6 ?_
                            refine we_int ?_
                            walk_at "z+"
                            refine wa_cons ?_
                            refine v 8 ?_
                            refine wa_nil ?_
                            refine ⟨_, _, rfl, by omega, ?_⟩
                            refine ⟨rfl, by rw [List.length_range]; omega, ?_, ?_⟩
                            · intro i27 x27 hx27 s0 H0 C cl fp
                              refine wg_name 13 c.nd rfl (by walk_at "zloc") ?_
                              intro s0 H0 C cl fp
                              refine wt_val ?_
                              refine we_call c.blk (av_is_increase T) (by decide) rfl ?_
                              refine wa_cons ?_
                              refine v 3 ?_
                              refine wa_cons ?_
                              refine v 13 ?_
                              refine wa_nil ?_
                              refine use_is_increase hs1 ?_
                              refine ⟨_, rfl, ?_⟩
                              refine ⟨(by rw [hnx]; have := List.getElem?_eq_some_iff.mp hx27; obtain ⟨hx1, hx2⟩ := this; simp at hx1 hx2; simp; omega), rfl, fun hb27 s0 H0 C cl fp => ?_⟩
                              have hxx := hb27
                              refine v 13 ?_
                              exact ⟨rfl, rfl⟩
                            · refine ⟨_, rfl, ?_⟩
                              refine we_lst ?_
                              refine wa_nil ?_
                              refine ⟨[], rfl, by simp, ?_⟩
                              refine ne_D .d .d (ints_shapedN _).1 rfl (ints_shapedN _).2 rfl ?_
                              rw [nil_eqv]
                              refine ⟨_, rfl, ?_⟩
                              exact ⟨by rw [List.filter_eq_nil_iff.mpr fun a _ => Bool.false_ne_true]; rfl, rfl⟩
                          · refine ⟨fun hc29 => ?_, fun hc29 => ?_⟩
                            · exact Bool.noConfusion hc29
                            · refine wb_nil ?_
                              refine wb_cons ?_
                              refine ws_if ?_
                              refine wt_is (b := false) ?_ ?_
                              · refine wt_cmp op_notBl (nomark _) ?_
                                refine we_call c (av_is_increase T) (by decide) rfl ?_
                                refine wa_cons ?_
                                refine v 3 ?_
                                refine wa_cons ?_
                                refine v 8 ?_
                                refine wa_nil ?_
                                refine use_is_increase hs1 ?_
                                refine we_bl ?_
                                refine not_B ?_
                                refine ⟨_, rfl, ?_⟩
                                rw [hnx]; exact ⟨by simp, rfl⟩
                              · refine ⟨fun hc31 => ?_, fun hc31 => ?_⟩
                                · exact Bool.noConfusion hc31
                                · refine wb_nil ?_
                                  refine wb_nil ?_
                                  exact ⟨_, _, rfl⟩
                        · refine wb_nil ?_
                          exact ⟨_, _, rfl⟩
                      · refine ⟨fun hc32 => ?_, fun hc32 => ?_⟩
                        · exact Bool.noConfusion hc32
                        · refine wb_nil ?_
                          exact ⟨_, _, rfl⟩
                    · rintro o ⟨b8, b13, rfl⟩
                      show WB _ _ _ _ _
                      refine wb_cons ?_
                      refine ws_lcD [("_law_sample", 11)] 9 c.calm c.nd rfl rfl (blkOk_by (N := n_law) (sc := defScope s_law) (by decide +kernel)) (sw_true rfl rfl rfl (by decide +kernel)) ?_
                      refine wi_list ?_
                      refine we_slice sl_Z ?_
                      refine v 3 ?_
                      refine wo_some ?_
                      refine we_int ?_
                      refine ⟨_, rfl, ?_⟩
                      refine wo_some ?_
                      refine we_neg (i0 := ()) ?_
                      refine we_int ?_
                      refine ⟨_, rfl, ?_⟩
                      refine ⟨_, rfl, ?_⟩
                      refine sl_L .d ?_
                      rw [cutD_map]
                      refine ⟨_, rfl, ?_⟩
                      refine ⟨fun i acc m' => ∃ (left : List Int) (c : Int × Int), acc = List.map .d (left.map .int) ∧ left.Sublist ((cutD ss (some 1) (some (-1))).take i) ∧ FOk c ∧ m' = M.put f (fdO c), ?_, ?_, ?_⟩
                      · refine ⟨[], c3, rfl, List.nil_sublist _, hc3, by rw [fd_of hMf, Mem.put_put]⟩
                      · intro i33 d33 acc33 m33 hd33 hi33
                        obtain ⟨left, fc, rfl, hsu, hfc, rfl⟩ := hi33
                        obtain ⟨sv, hsv, rfl⟩ := map_get hd33
                        refine ⟨by
                          have h1 := hsu.length_le
                          have h2 := cutD_le (xs := ss) (lo := some 1) (hi := some (-1))
                          simp at h1 ⊢
                          omega, fun s0 H0 C cl fp => ?_⟩
                        refine wg_name 11 c.nd rfl (by walk_at "zloc") ?_
                        intro s0 H0 C cl fp
                        refine wt_cmp op_gt (nomark _) ?_
                        refine we_call c.blk (av_l_take T) (by decide) rfl ?_
                        refine wa_cons ?_
                        refine v 2 ?_
                        refine wa_cons ?_
                        refine we_int ?_
                        refine wa_nil ?_
                        refine use_l_take (by assumption) (by omega) (by omega) fun t34 c34 hc34 lo34 hi34 => ?_
                        refine we_int ?_
                        refine r2_B0 ?_
                        refine ⟨_, rfl, ?_⟩
                        refine ⟨fun hb35 s0 H0 C cl fp => ?_, fun hb35 => ?_⟩
                        · refine v 11 ?_
                          exact ⟨left ++ [sv], _, by simp, by rw [List.take_add_one, hsv]; exact hsu.append (List.Sublist.refl _), by assumption, rfl⟩
                        · exact ⟨left, _, rfl, by rw [List.take_add_one]; exact hsu.trans (List.sublist_append_left _ _), by assumption, rfl⟩
                      · rintro acc33 m33 ⟨left, cl, rfl, hsu, hcl, rfl⟩
                        rw [List.length_map, List.take_length] at hsu
                        refine ⟨left.map .int, rfl, ?_⟩
                        have hll : left.length ≤ 60 := by
                          have h1 := hsu.length_le
                          have h2 := cutD_le (xs := ss) (lo := some 1) (hi := some (-1))
                          omega
                        generalize M.put f (fdO cl) = M2
                        refine wb_cons ?_
                        refine ws_set 10 c.nd rfl (by walk_at "zloc") ?_
                        refine we_op op_addZ ?_
                        refine we_op op_addZ ?_
                        refine we_slice sl_Z ?_
                        refine v 3 ?_
                        refine wo_none ?_
                        refine wo_some ?_
                        refine we_int ?_
                        refine ⟨_, rfl, ?_⟩
                        refine sl_L .d ?_
                        rw [cutD_map]
                        refine v 9 ?_
                        refine add_L .d .d (by have h2 := cutD_le (xs := ss) (lo := none) (hi := some 1); simp; omega) ?_
                        rw [← List.map_append]
                        refine we_slice sl_Z ?_
                        refine we_slice sl_Z ?_
                        refine v 3 ?_
                        refine wo_some ?_
                        refine we_int ?_
                        refine ⟨_, rfl, ?_⟩
                        refine wo_none ?_
                        refine sl_L .d ?_
                        rw [cutD_map]
                        refine wo_some ?_
                        refine we_neg (i0 := ()) ?_
                        refine we_int ?_
                        refine ⟨_, rfl, ?_⟩
                        refine ⟨_, rfl, ?_⟩
                        refine wo_none ?_
                        refine sl_L .d ?_
                        rw [cutD_map]
                        refine add_L .d .d (by have h2 := cutD_le (xs := ss) (lo := none) (hi := some 1); have h3 := cutD_le (xs := ss) (lo := some 1) (hi := none); have h4 := cutD_le (xs := cutD ss (some 1) none) (lo := some (-1)) (hi := none); simp; omega) ?_
                        rw [← List.map_append]
                        obtain ⟨few, hfe⟩ : ∃ few, few = cutD ss none (some 1) ++ left ++ cutD (cutD ss (some 1) none) (some (-1)) none := ⟨_, rfl⟩
                        rw [← hfe]
                        have hfew : few.length < 1000000 ∧ incBy (dig few) (totI ps) = true ∧ leastI few ≤ leastI ss := by
                          have key : ∀ {ps : List (List Int)}, CrsP ss ps → ∃ ps', CrsP few ps' ∧ totI ps' = totI ps := fun {ps} h => by
                            rcases ss_cases hsst with rfl | ⟨a, mid, z, rfl⟩
                            · rw [(cut_mid1 sa).1] at hsu
                              rw [(cut_mid1 sa).2.1, (cut_mid1 sa).2.2, List.sublist_nil.mp hsu] at hfe
                              subst hfe
                              exact ⟨ps, h, rfl⟩
                            · rw [(cut_mid2 a z mid).1] at hsu
                              rw [(cut_mid2 a z mid).2.1, (cut_mid2 a z mid).2.2] at hfe
                              subst hfe
                              exact crs_left hsu h
                          have hf0 : ∀ s ∈ few, 0 ≤ s := fun s hs => by
                            rw [hfe] at hs
                            simp only [List.mem_append] at hs
                            rcases hs with (hs | hs) | hs
                            · exact hs0 s (cutD_mem hs)
                            · exact hs0 s (cutD_mem (hsu.subset hs))
                            · exact hs0 s (cutD_mem (cutD_mem hs))
                          refine ⟨?_, ?_, ?_⟩
                          · rw [hfe]
                            have h2 := cutD_le (xs := ss) (lo := none) (hi := some 1); have h3 := cutD_le (xs := ss) (lo := some 1) (hi := none); have h4 := cutD_le (xs := cutD ss (some 1) none) (lo := some (-1)) (hi := none); simp; omega
                          · obtain ⟨ps', h1, h2⟩ := key hcr
                            rw [← h2]
                            exact (crs_inc hf0 h1).1
                          · obtain ⟨ps', h1, h2⟩ := key (plain_crs hs0).1
                            rw [(plain_crs hs0).2] at h2
                            rw [← h2]
                            exact (crs_inc hf0 h1).2
                        refine wb_cons ?_
                        refine ws_if ?_
                        refine wt_is (b := false) ?_ ?_
                        · refine wt_ww ?_
                          refine ww_or ?_
                          refine wt_cmp op_notBl (nomark _) ?_
                          refine we_call c (av_is_increase T) (by decide) rfl ?_
                          refine wa_cons ?_
                          refine v 10 ?_
                          refine wa_cons ?_
                          refine v 5 ?_
                          refine wa_nil ?_
                          refine use_is_increase hfew.1 ?_
                          refine we_bl ?_
                          refine not_B ?_
                          refine ⟨_, rfl, ?_⟩
                          refine ⟨fun hc37 => ?_, fun hc37 => ?_⟩
                          · refine ww_or1 ?_
                            refine wt_cmp op_gt (nomark _) ?_
                            refine we_call c (av_least_increase T) (by decide) rfl ?_
                            refine wa_cons ?_
                            refine v 10 ?_
                            refine wa_nil ?_
                            refine use_least_increase hfew.1 ?_
                            refine v 6 ?_
                            refine r2_B0 ?_
                            refine ⟨_, rfl, ?_⟩
                            exact ⟨decide_eq_false (by have := hfew.2.2; omega), rfl⟩
                          · rw [hfew.2.1] at hc37; exact Bool.noConfusion hc37
                        · refine ⟨fun hc39 => ?_, fun hc39 => ?_⟩
                          · exact Bool.noConfusion hc39
                          · refine wb_nil ?_
                            refine wb_nil ?_
                            exact ⟨_, _, _, _, _, _, _, _, _, _, _, _, _, rfl⟩
  · intro n1 m1 hi1
    obtain ⟨a1, a2, a3, a4, a5, a6, a7, a8, a9, a10, a11, a12, a13, rfl⟩ := hi1
    refine wb_cons ?_
    refine ws_ret ?_
    refine we_bl ?_
    exact ⟨_, Sub.refl, rfl⟩
end
theorem all_mk {l : PySem.W.OpenLaw} {w : World} {K : PySem.W.Frag} {h : Heap} {mg : Str → Option Value} {fa C_NoCourse C_DataError : Addr} (X : K.In h) (G : h.Ns mainGlobals mg) (hfa : mg "law" = some (.ref fa))
    {nme_NoCourse qe_NoCourse : Str} {Ne_NoCourse : Addr} {bse_NoCourse : List Value} {sne_NoCourse : List Str} {sube_NoCourse : List Value} {abe_NoCourse : Bool} {cole_NoCourse : Option Bool} {dde_NoCourse : Option Addr} {m0e_NoCourse m1e_NoCourse m2e_NoCourse m3e_NoCourse m5e_NoCourse : Option Value}
    (ae_NoCourse : PySem.W.nsIn K mainGlobals "NoCourse" = some (some (.ref C_NoCourse)))
    (xe_NoCourse : K.lookup C_NoCourse = some (PySem.excClassObj nme_NoCourse qe_NoCourse C_NoCourse Ne_NoCourse bse_NoCourse [.ref C_DataError, .type "ValueError", .type "Exception", .type "BaseException", .type "object"] true sne_NoCourse sube_NoCourse abe_NoCourse cole_NoCourse dde_NoCourse m0e_NoCourse m1e_NoCourse m2e_NoCourse m3e_NoCourse m5e_NoCourse "ValueError.__new__"))
    (sae_NoCourse : PySem.W.findIn K (.ref C_NoCourse) "__setattr__" = some (some (.builtin "object.__setattr__")))
    (gae_NoCourse : PySem.W.findIn K (.ref C_NoCourse) "__getattribute__" = some (some (.builtin "BaseException.__getattribute__")))
    (gge_NoCourse : PySem.W.findIn K (.ref C_NoCourse) "__getattr__" = some none)
    (ece_NoCourse : PySem.W.subIn K (.ref C_NoCourse) (.type "BaseException") = some true)
    (tce_NoCourse : PySem.W.typeIn K (.ref C_NoCourse) = some (.type "type"))
    (kce_NoCourse : PySem.W.keepIn K (.ref C_NoCourse) = true)
    (hde_NoCourse : PySem.W.hasDictIn K C_NoCourse = true)
    (nae_NoCourse_increase : PySem.W.findIn K (.ref C_NoCourse) "increase" = some none)
    {fe_NoCourse : Addr} {ode_NoCourse ane_NoCourse : Option Addr} {sle_NoCourse : Array (Option Value)} {oce_NoCourse kVe_NoCourse dce_NoCourse pme_NoCourse cde_NoCourse cte_NoCourse : Value}
    (iie_NoCourse : PySem.W.findIn K (.ref C_NoCourse) "__init__" = some (some (.ref fe_NoCourse)))
    (tie_NoCourse : PySem.W.typeIn K (.ref fe_NoCourse) = some (.type "function"))
    (le_NoCourse : K.lookup fe_NoCourse = some ⟨oce_NoCourse, ode_NoCourse, .func (PySem.W.fnOf "__init__" "NoCourse.__init__" (defArgs s_NoCourse_init) (defBody s_NoCourse_init) (defScope s_NoCourse_init) .none kVe_NoCourse dce_NoCourse pme_NoCourse ane_NoCourse cde_NoCourse cte_NoCourse), sle_NoCourse⟩)
    (ce_NoCourse : PySem.W.codeIn K cde_NoCourse "NoCourse.__init__" = true)
    (ke_NoCourse : PySem.W.keepIn K (.ref fe_NoCourse) = true)
    {f0 : Addr} {od0 an0 : Option Addr} {sl0 : Array (Option Value)} {oc0 kV0 dc0 pm0 cd0 ct0 : Value}
    (a0 : PySem.W.nsIn K mainGlobals "is_integer" = some (some (.ref f0)))
    (l0 : K.lookup f0 = some ⟨oc0, od0, .func (PySem.W.fnOf "is_integer" "is_integer" (defArgs s_is_integer) (defBody s_is_integer) (defScope s_is_integer) .none kV0 dc0 pm0 an0 cd0 ct0), sl0⟩)
    (c0 : PySem.W.codeIn K cd0 "is_integer" = true)
    (k0 : PySem.W.keepIn K (.ref f0) = true)
    {f1 : Addr} {od1 an1 : Option Addr} {sl1 : Array (Option Value)} {oc1 kV1 dc1 pm1 cd1 ct1 : Value}
    (a1 : PySem.W.nsIn K mainGlobals "pairs_of" = some (some (.ref f1)))
    (l1 : K.lookup f1 = some ⟨oc1, od1, .func (PySem.W.fnOf "pairs_of" "pairs_of" (defArgs s_pairs_of) (defBody s_pairs_of) (defScope s_pairs_of) .none kV1 dc1 pm1 an1 cd1 ct1), sl1⟩)
    (c1 : PySem.W.codeIn K cd1 "pairs_of" = true)
    (k1 : PySem.W.keepIn K (.ref f1) = true)
    {f2 : Addr} {od2 an2 : Option Addr} {sl2 : Array (Option Value)} {oc2 kV2 dc2 pm2 cd2 ct2 : Value}
    (a2 : PySem.W.nsIn K mainGlobals "digest" = some (some (.ref f2)))
    (l2 : K.lookup f2 = some ⟨oc2, od2, .func (PySem.W.fnOf "digest" "digest" (defArgs s_digest) (defBody s_digest) (defScope s_digest) .none kV2 dc2 pm2 an2 cd2 ct2), sl2⟩)
    (c2 : PySem.W.codeIn K cd2 "digest" = true)
    (k2 : PySem.W.keepIn K (.ref f2) = true)
    {f3 : Addr} {od3 an3 : Option Addr} {sl3 : Array (Option Value)} {oc3 kV3 dc3 pm3 cd3 ct3 : Value}
    (a3 : PySem.W.nsIn K mainGlobals "is_increase_by" = some (some (.ref f3)))
    (l3 : K.lookup f3 = some ⟨oc3, od3, .func (PySem.W.fnOf "is_increase_by" "is_increase_by" (defArgs s_is_increase_by) (defBody s_is_increase_by) (defScope s_is_increase_by) .none kV3 dc3 pm3 an3 cd3 ct3), sl3⟩)
    (c3 : PySem.W.codeIn K cd3 "is_increase_by" = true)
    (k3 : PySem.W.keepIn K (.ref f3) = true)
    {f4 : Addr} {od4 an4 : Option Addr} {sl4 : Array (Option Value)} {oc4 kV4 dc4 pm4 cd4 ct4 : Value}
    (a4 : PySem.W.nsIn K mainGlobals "least_increase" = some (some (.ref f4)))
    (l4 : K.lookup f4 = some ⟨oc4, od4, .func (PySem.W.fnOf "least_increase" "least_increase" (defArgs s_least_increase) (defBody s_least_increase) (defScope s_least_increase) .none kV4 dc4 pm4 an4 cd4 ct4), sl4⟩)
    (c4 : PySem.W.codeIn K cd4 "least_increase" = true)
    (k4 : PySem.W.keepIn K (.ref f4) = true)
    {f5 : Addr} {od5 an5 : Option Addr} {sl5 : Array (Option Value)} {oc5 kV5 dc5 pm5 cd5 ct5 : Value}
    (a5 : PySem.W.nsIn K mainGlobals "is_increase" = some (some (.ref f5)))
    (l5 : K.lookup f5 = some ⟨oc5, od5, .func (PySem.W.fnOf "is_increase" "is_increase" (defArgs s_is_increase) (defBody s_is_increase) (defScope s_is_increase) .none kV5 dc5 pm5 an5 cd5 ct5), sl5⟩)
    (c5 : PySem.W.codeIn K cd5 "is_increase" = true)
    (k5 : PySem.W.keepIn K (.ref f5) = true)
    {f6 : Addr} {od6 an6 : Option Addr} {sl6 : Array (Option Value)} {oc6 kV6 dc6 pm6 cd6 ct6 : Value}
    (a6 : PySem.W.nsIn K mainGlobals "plain_path" = some (some (.ref f6)))
    (l6 : K.lookup f6 = some ⟨oc6, od6, .func (PySem.W.fnOf "plain_path" "plain_path" (defArgs s_plain_path) (defBody s_plain_path) (defScope s_plain_path) .none kV6 dc6 pm6 an6 cd6 ct6), sl6⟩)
    (c6 : PySem.W.codeIn K cd6 "plain_path" = true)
    (k6 : PySem.W.keepIn K (.ref f6) = true)
    {f7 : Addr} {od7 an7 : Option Addr} {sl7 : Array (Option Value)} {oc7 kV7 dc7 pm7 cd7 ct7 : Value}
    (a7 : PySem.W.nsIn K mainGlobals "course" = some (some (.ref f7)))
    (l7 : K.lookup f7 = some ⟨oc7, od7, .func (PySem.W.fnOf "course" "course" (defArgs s_course) (defBody s_course) (defScope s_course) .none kV7 dc7 pm7 an7 cd7 ct7), sl7⟩)
    (c7 : PySem.W.codeIn K cd7 "course" = true)
    (k7 : PySem.W.keepIn K (.ref f7) = true)
    {f8 : Addr} {od8 an8 : Option Addr} {sl8 : Array (Option Value)} {oc8 kV8 dc8 pm8 cd8 ct8 : Value}
    (a8 : PySem.W.nsIn K mainGlobals "is_path" = some (some (.ref f8)))
    (l8 : K.lookup f8 = some ⟨oc8, od8, .func (PySem.W.fnOf "is_path" "is_path" (defArgs s_is_path) (defBody s_is_path) (defScope s_is_path) .none kV8 dc8 pm8 an8 cd8 ct8), sl8⟩)
    (c8 : PySem.W.codeIn K cd8 "is_path" = true)
    (k8 : PySem.W.keepIn K (.ref f8) = true)
    {f9 : Addr} {od9 an9 : Option Addr} {sl9 : Array (Option Value)} {oc9 kV9 dc9 pm9 cd9 ct9 : Value}
    (a9 : PySem.W.nsIn K mainGlobals "is_course" = some (some (.ref f9)))
    (l9 : K.lookup f9 = some ⟨oc9, od9, .func (PySem.W.fnOf "is_course" "is_course" (defArgs s_is_course) (defBody s_is_course) (defScope s_is_course) .none kV9 dc9 pm9 an9 cd9 ct9), sl9⟩)
    (c9 : PySem.W.codeIn K cd9 "is_course" = true)
    (k9 : PySem.W.keepIn K (.ref f9) = true)
    {f10 : Addr} {od10 an10 : Option Addr} {sl10 : Array (Option Value)} {oc10 kV10 dc10 pm10 cd10 ct10 : Value}
    (a10 : PySem.W.nsIn K mainGlobals "increase_of" = some (some (.ref f10)))
    (l10 : K.lookup f10 = some ⟨oc10, od10, .func (PySem.W.fnOf "increase_of" "increase_of" (defArgs s_increase_of) (defBody s_increase_of) (defScope s_increase_of) .none kV10 dc10 pm10 an10 cd10 ct10), sl10⟩)
    (c10 : PySem.W.codeIn K cd10 "increase_of" = true)
    (k10 : PySem.W.keepIn K (.ref f10) = true)
    {f11 : Addr} {od11 an11 : Option Addr} {sl11 : Array (Option Value)} {oc11 kV11 dc11 pm11 cd11 ct11 : Value}
    (a11 : PySem.W.nsIn K mainGlobals "_law_feed" = some (some (.ref f11)))
    (l11 : K.lookup f11 = some ⟨oc11, od11, .func (PySem.W.fnOf "_law_feed" "_law_feed" (defArgs s_l_feed) (defBody s_l_feed) (defScope s_l_feed) .none kV11 dc11 pm11 an11 cd11 ct11), sl11⟩)
    (c11 : PySem.W.codeIn K cd11 "_law_feed" = true)
    (k11 : PySem.W.keepIn K (.ref f11) = true)
    {f12 : Addr} {od12 an12 : Option Addr} {sl12 : Array (Option Value)} {oc12 kV12 dc12 pm12 cd12 ct12 : Value}
    (a12 : PySem.W.nsIn K mainGlobals "_law_take" = some (some (.ref f12)))
    (l12 : K.lookup f12 = some ⟨oc12, od12, .func (PySem.W.fnOf "_law_take" "_law_take" (defArgs s_l_take) (defBody s_l_take) (defScope s_l_take) .none kV12 dc12 pm12 an12 cd12 ct12), sl12⟩)
    (c12 : PySem.W.codeIn K cd12 "_law_take" = true)
    (k12 : PySem.W.keepIn K (.ref f12) = true)
    {f13 : Addr} {od13 an13 : Option Addr} {sl13 : Array (Option Value)} {oc13 kV13 dc13 pm13 cd13 ct13 : Value}
    (a13 : PySem.W.nsIn K mainGlobals "_law_pick" = some (some (.ref f13)))
    (l13 : K.lookup f13 = some ⟨oc13, od13, .func (PySem.W.fnOf "_law_pick" "_law_pick" (defArgs s_l_pick) (defBody s_l_pick) (defScope s_l_pick) .none kV13 dc13 pm13 an13 cd13 ct13), sl13⟩)
    (c13 : PySem.W.codeIn K cd13 "_law_pick" = true)
    (k13 : PySem.W.keepIn K (.ref f13) = true)
    {f14 : Addr} {od14 an14 : Option Addr} {sl14 : Array (Option Value)} {oc14 kV14 dc14 pm14 cd14 ct14 : Value}
    (a14 : PySem.W.nsIn K mainGlobals "_law_drawn_course" = some (some (.ref f14)))
    (l14 : K.lookup f14 = some ⟨oc14, od14, .func (PySem.W.fnOf "_law_drawn_course" "_law_drawn_course" (defArgs s_l_drawn_course) (defBody s_l_drawn_course) (defScope s_l_drawn_course) .none kV14 dc14 pm14 an14 cd14 ct14), sl14⟩)
    (c14 : PySem.W.codeIn K cd14 "_law_drawn_course" = true)
    (k14 : PySem.W.keepIn K (.ref f14) = true)
    {f15 : Addr} {od15 an15 : Option Addr} {sl15 : Array (Option Value)} {oc15 kV15 dc15 pm15 cd15 ct15 : Value}
    (a15 : PySem.W.nsIn K mainGlobals "law" = some (some (.ref f15)))
    (l15 : K.lookup f15 = some ⟨oc15, od15, .func (PySem.W.fnOf "law" "law" (defArgs s_law) (defBody s_law) (defScope s_law) .none kV15 dc15 pm15 an15 cd15 ct15), sl15⟩)
    (c15 : PySem.W.codeIn K cd15 "law" = true)
    (k15 : PySem.W.keepIn K (.ref f15) = true)
    (z_ValueError : PySem.W.nsIn K mainGlobals "ValueError" = some none)
    (z_abs : PySem.W.nsIn K mainGlobals "abs" = some none)
    (z_all : PySem.W.nsIn K mainGlobals "all" = some none)
    (z_any : PySem.W.nsIn K mainGlobals "any" = some none)
    (z_bool : PySem.W.nsIn K mainGlobals "bool" = some none)
    (z_enumerate : PySem.W.nsIn K mainGlobals "enumerate" = some none)
    (z_int : PySem.W.nsIn K mainGlobals "int" = some none)
    (z_isinstance : PySem.W.nsIn K mainGlobals "isinstance" = some none)
    (z_len : PySem.W.nsIn K mainGlobals "len" = some none)
    (z_list : PySem.W.nsIn K mainGlobals "list" = some none)
    (z_max : PySem.W.nsIn K mainGlobals "max" = some none)
    (z_min : PySem.W.nsIn K mainGlobals "min" = some none)
    (z_range : PySem.W.nsIn K mainGlobals "range" = some none)
    (z_sorted : PySem.W.nsIn K mainGlobals "sorted" = some none)
    (z_sum : PySem.W.nsIn K mainGlobals "sum" = some none)
    (z_zip : PySem.W.nsIn K mainGlobals "zip" = some none)
    : ∃ fd : FuncData, (∀ (s : Shared) (v : Value), BindsTo s fd ⟨[v], []⟩ [("_law_script", v)]) ∧ ∀ base : Heap, K.In base → base.Ns mainGlobals mg → FnG l.prog w K mg base 7 fa fd ["_law_script"] (spW K (lawS 63)) := by
  have e := hfa.symm.trans (PySem.W.mg_of X G a15)
  cases e
  have T : Txt K mg C_NoCourse := ⟨PySem.W.mg_none_of X G z_ValueError,
    PySem.W.mg_none_of X G z_abs,
    PySem.W.mg_none_of X G z_all,
    PySem.W.mg_none_of X G z_any,
    PySem.W.mg_none_of X G z_bool,
    PySem.W.mg_none_of X G z_enumerate,
    PySem.W.mg_none_of X G z_int,
    PySem.W.mg_none_of X G z_isinstance,
    PySem.W.mg_none_of X G z_len,
    PySem.W.mg_none_of X G z_list,
    PySem.W.mg_none_of X G z_max,
    PySem.W.mg_none_of X G z_min,
    PySem.W.mg_none_of X G z_range,
    PySem.W.mg_none_of X G z_sorted,
    PySem.W.mg_none_of X G z_sum,
    PySem.W.mg_none_of X G z_zip,
    PySem.W.mg_of X G ae_NoCourse,
    ⟨⟨_, _, _, _, _, _, _, _, _, _, _, _, _, _, _, xe_NoCourse, rfl⟩, sae_NoCourse, ece_NoCourse, tce_NoCourse, kce_NoCourse⟩,
    ⟨gae_NoCourse, gge_NoCourse, ece_NoCourse, hde_NoCourse⟩,
    nae_NoCourse_increase,
    ⟨_, _, iie_NoCourse, tie_NoCourse, fun_mk (st := s_NoCourse_init) le_NoCourse ce_NoCourse ke_NoCourse⟩,
    ⟨_, _, fun_mk (st := s_is_integer) l0 c0 k0, PySem.W.mg_of X G a0⟩,
    ⟨_, _, fun_mk (st := s_pairs_of) l1 c1 k1, PySem.W.mg_of X G a1⟩,
    ⟨_, _, fun_mk (st := s_digest) l2 c2 k2, PySem.W.mg_of X G a2⟩,
    ⟨_, _, fun_mk (st := s_is_increase_by) l3 c3 k3, PySem.W.mg_of X G a3⟩,
    ⟨_, _, fun_mk (st := s_least_increase) l4 c4 k4, PySem.W.mg_of X G a4⟩,
    ⟨_, _, fun_mk (st := s_is_increase) l5 c5 k5, PySem.W.mg_of X G a5⟩,
    ⟨_, _, fun_mk (st := s_plain_path) l6 c6 k6, PySem.W.mg_of X G a6⟩,
    ⟨_, _, fun_mk (st := s_course) l7 c7 k7, PySem.W.mg_of X G a7⟩,
    ⟨_, _, fun_mk (st := s_is_path) l8 c8 k8, PySem.W.mg_of X G a8⟩,
    ⟨_, _, fun_mk (st := s_is_course) l9 c9 k9, PySem.W.mg_of X G a9⟩,
    ⟨_, _, fun_mk (st := s_increase_of) l10 c10 k10, PySem.W.mg_of X G a10⟩,
    ⟨_, _, fun_mk (st := s_l_feed) l11 c11 k11, PySem.W.mg_of X G a11⟩,
    ⟨_, _, fun_mk (st := s_l_take) l12 c12 k12, PySem.W.mg_of X G a12⟩,
    ⟨_, _, fun_mk (st := s_l_pick) l13 c13 k13, PySem.W.mg_of X G a13⟩,
    ⟨_, _, fun_mk (st := s_l_drawn_course) l14 c14 k14, PySem.W.mg_of X G a14⟩⟩
  exact ⟨_, fun s v => .of_eq rfl, fun base _ _ => g_law (fun_mk (st := s_law) l15 c15 k15) T⟩
end T
open PySem PySem.W PyProof.Rows in
set_option maxRecDepth 100000 in
set_option maxHeartbeats 0 in
theorem PySem.Challenge.cw_spanvault_k09_whole_counters_that_were_r_holds : PySem.Challenge.rw_spanvault_k09_whole_counters_that_were_r.Holds := by
  w_on; o_law; k_head; (case hw => w_witness2)
  k_fill
  refine Z.walk_G (l := PySem.Challenge.rw_spanvault_k09_whole_counters_that_were_r) (n := 63) (k := 7) (x := "_law_script") rfl (by decide) rfl ⟨rfl, by decide, by decide⟩ (fun w h Y => PySem.W.kIn_of Y) ?F
  case F =>
    intro w mg fa h KX G hmg
    refine' T.all_mk KX G hmg ?ae_NoCourse ?xe_NoCourse ?sae_NoCourse ?gae_NoCourse ?gge_NoCourse ?ece_NoCourse ?tce_NoCourse ?kce_NoCourse ?hde_NoCourse ?nae_NoCourse_increase ?iie_NoCourse ?tie_NoCourse ?le_NoCourse ?ce_NoCourse ?ke_NoCourse ?a0 ?l0 ?c0 ?k0 ?a1 ?l1 ?c1 ?k1 ?a2 ?l2 ?c2 ?k2 ?a3 ?l3 ?c3 ?k3 ?a4 ?l4 ?c4 ?k4 ?a5 ?l5 ?c5 ?k5 ?a6 ?l6 ?c6 ?k6 ?a7 ?l7 ?c7 ?k7 ?a8 ?l8 ?c8 ?k8 ?a9 ?l9 ?c9 ?k9 ?a10 ?l10 ?c10 ?k10 ?a11 ?l11 ?c11 ?k11 ?a12 ?l12 ?c12 ?k12 ?a13 ?l13 ?c13 ?k13 ?a14 ?l14 ?c14 ?k14 ?a15 ?l15 ?c15 ?k15 ?z_ValueError ?z_abs ?z_all ?z_any ?z_bool ?z_enumerate ?z_int ?z_isinstance ?z_len ?z_list ?z_max ?z_min ?z_range ?z_sorted ?z_sum ?z_zip
    (case ae_NoCourse => k_is)
    (case xe_NoCourse => k_is)
    (case sae_NoCourse => k_is)
    (case gae_NoCourse => k_is)
    (case gge_NoCourse => k_is)
    (case ece_NoCourse => k_is)
    (case tce_NoCourse => k_is)
    (case kce_NoCourse => k_is)
    (case hde_NoCourse => k_is)
    (case nae_NoCourse_increase => k_is)
    (case iie_NoCourse => k_is)
    (case tie_NoCourse => k_is)
    (case le_NoCourse => k_is)
    (case ce_NoCourse => k_is)
    (case ke_NoCourse => k_is)
    (case a0 => k_is)
    (case l0 => k_is)
    (case c0 => k_is)
    (case k0 => k_is)
    (case a1 => k_is)
    (case l1 => k_is)
    (case c1 => k_is)
    (case k1 => k_is)
    (case a2 => k_is)
    (case l2 => k_is)
    (case c2 => k_is)
    (case k2 => k_is)
    (case a3 => k_is)
    (case l3 => k_is)
    (case c3 => k_is)
    (case k3 => k_is)
    (case a4 => k_is)
    (case l4 => k_is)
    (case c4 => k_is)
    (case k4 => k_is)
    (case a5 => k_is)
    (case l5 => k_is)
    (case c5 => k_is)
    (case k5 => k_is)
    (case a6 => k_is)
    (case l6 => k_is)
    (case c6 => k_is)
    (case k6 => k_is)
    (case a7 => k_is)
    (case l7 => k_is)
    (case c7 => k_is)
    (case k7 => k_is)
    (case a8 => k_is)
    (case l8 => k_is)
    (case c8 => k_is)
    (case k8 => k_is)
    (case a9 => k_is)
    (case l9 => k_is)
    (case c9 => k_is)
    (case k9 => k_is)
    (case a10 => k_is)
    (case l10 => k_is)
    (case c10 => k_is)
    (case k10 => k_is)
    (case a11 => k_is)
    (case l11 => k_is)
    (case c11 => k_is)
    (case k11 => k_is)
    (case a12 => k_is)
    (case l12 => k_is)
    (case c12 => k_is)
    (case k12 => k_is)
    (case a13 => k_is)
    (case l13 => k_is)
    (case c13 => k_is)
    (case k13 => k_is)
    (case a14 => k_is)
    (case l14 => k_is)
    (case c14 => k_is)
    (case k14 => k_is)
    (case a15 => k_is)
    (case l15 => k_is)
    (case c15 => k_is)
    (case k15 => k_is)
    (case z_ValueError => k_is)
    (case z_abs => k_is)
    (case z_all => k_is)
    (case z_any => k_is)
    (case z_bool => k_is)
    (case z_enumerate => k_is)
    (case z_int => k_is)
    (case z_isinstance => k_is)
    (case z_len => k_is)
    (case z_list => k_is)
    (case z_max => k_is)
    (case z_min => k_is)
    (case z_range => k_is)
    (case z_sorted => k_is)
    (case z_sum => k_is)
    (case z_zip => k_is)

