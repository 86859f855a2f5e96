import PyProof.Rows.All
import Wide.All
import OpenK.AllK
import Wide.FinOn
import HandS.ForMost
import HandS.Exc
import HandS.WordsExc
import HandS.TupAny
import HandS.Wide
import HandS.EndBits
import KE.DataMinMax
import KE.KTupSum
import HandS.Defaults
import HandS.Property
import HandS.MakeKwOnly
import HandS.TupMul
import PyProof.ReprLen
import PyProof.ReprRoads
import PySem.Challenge.RW_spanvault_k01_summaries
set_option Elab.async false
set_option maxRecDepth 100000
set_option maxHeartbeats 4000000
set_option linter.all false
/-! Z1: a calculus over values. F: the region of the objects that never change (data); Mem: the objects that may change; all else in the heap is the frame. -/
namespace Z
open PySem PySem.Spec L2
set_option linter.all false

/-- what a name holds: data that never change, an object of the memory, a raw value -/
inductive Ent where
  | d (d : PyData)
  | x (a : Addr)
  | v (v : V)

/-- an object that may change -/
inductive XO where
  | lst (es : List Ent)
  | ins (C : Addr) (fs : List (Str × Ent))
  | dct (kes : List (Key × Ent))
  | set (S : Int → Bool) (n : Nat)

abbrev Mem := Addr → Option XO
abbrev Nm := List (Option Ent)
def Mem.put (m : Mem) (a : Addr) (o : XO) : Mem := fun b => if b = a then some o else m b
theorem Mem.put_same {m : Mem} {a : Addr} {o : XO} : m.put a o a = some o := if_pos rfl
theorem Mem.put_ne {m : Mem} {a b : Addr} {o : XO} (h : b ≠ a) : m.put a o b = m b := if_neg h
theorem Mem.put_put {m : Mem} {a : Addr} {o u : XO} : (m.put a o).put a u = m.put a u := by
  funext b
  by_cases h : b = a <;> simp [Mem.put, h]
/-- an object is forgotten -/
def Mem.drop (m : Mem) (a : Addr) : Mem := fun b => if b = a then none else m b
theorem Mem.drop_put {m : Mem} {a : Addr} {o : XO} (h : m a = none) : (m.put a o).drop a = m := by
  funext b
  by_cases hb : b = a
  · subst hb; simp [Mem.put, Mem.drop, h]
  · simp [Mem.put, Mem.drop, hb]

mutual
/-- a value reads as these data, all of whose objects stand in the region -/
inductive Rp (K : PySem.W.Frag) (F : Hp) : V → PyData → Prop
  | non : Rp K F .non .none
  | bl (b : Bool) : Rp K F (.bl b) (.bool b)
  | int (i : Int) : Rp K F (.int i) (.int i)
  | str (x : Str) : Rp K F (.str x) (.str x)
  | lst {a : Addr} {xs : List V} {ds : List PyData} : SqL K F a xs → RpAll K F xs ds → Rp K F (.ref a) (.list ds)
  | tup {a : Addr} {xs : List V} {ds : List PyData} : SqT K F a xs → RpAll K F xs ds → Rp K F (.ref a) (.tuple ds)
  | nodict {a : Addr} : Rd F a (.dK []) → Rp K F (.ref a) (.dict [])
inductive RpAll (K : PySem.W.Frag) (F : Hp) : List V → List PyData → Prop
  | nil : RpAll K F [] []
  | cons {v : V} {vs : List V} {d : PyData} {ds : List PyData} : Rp K F v d → RpAll K F vs ds → RpAll K F (v :: vs) (d :: ds)
end

def EntOk (K : PySem.W.Frag) (F : Hp) (v : V) : Ent → Prop
  | .d d => Rp K F v d
  | .x a => v = .ref a
  | .v u => v = u
abbrev Ents (K : PySem.W.Frag) (F : Hp) : List V → List Ent → Prop := Paired (EntOk K F)
def XOk (K : PySem.W.Frag) (F H : Hp) (a : Addr) : XO → Prop
  | .lst es => ∃ xs, H a = some (.lst xs) ∧ Ents K F xs es
  | .ins C fs => ∃ dx ys, H a = some (.ins C dx ys) ∧ Paired (fun (p : Str × V) (q : Str × Ent) => p.1 = q.1 ∧ EntOk K F p.2 q.2) ys fs
  | .dct kes => ∃ kvs, H a = some (.dK kvs) ∧ Paired (fun (p : Key × V) (q : Key × Ent) => p.1 = q.1 ∧ EntOk K F p.2 q.2) kvs kes
  | .set S n => H a = some (.set S n)
structure MOk (K : PySem.W.Frag) (F : Hp) (m : Mem) (H : Hp) : Prop where
  sub : ∀ a o, F a = some o → H a = some o
  out : ∀ a o, m a = some o → F a = none
  obj : ∀ a o, m a = some o → XOk K F H a o
structure Step (F : Hp) (m : Mem) (H F' : Hp) (m' : Mem) (H' : Hp) : Prop where
  fr : ∀ a o, F a = some o → F' a = some o
  st : ∀ a o, H a = some o → m a = none → H' a = some o
  nf : ∀ a, F a = none → F' a ≠ none → H a = none ∨ m a ≠ none
  nm : ∀ a, m a = none → m' a ≠ none → H a = none
def Slots (K : PySem.W.Frag) (F : Hp) (σ : St) (n : Nm) : Prop := n.length = σ.length ∧ ∀ (i : Nat) (e : Ent), n[i]? = some (some e) → ∃ v, σ[i]? = some (some v) ∧ EntOk K F v e
abbrev Inc (F F' : Hp) : Prop := ∀ a o, F a = some o → F' a = some o

theorem Step.refl {F : Hp} {m : Mem} {H : Hp} : Step F m H F m H := ⟨fun _ _ h => h, fun _ _ h _ => h, fun _ h k => absurd h k, fun _ h k => absurd h k⟩
theorem Step.trans {F F1 F2 : Hp} {m m1 m2 : Mem} {H H1 H2 : Hp} (x : Step F m H F1 m1 H1) (y : Step F1 m1 H1 F2 m2 H2) : Step F m H F2 m2 H2 := by
  have nm1 : ∀ a o, H a = some o → m a = none → m1 a = none := fun a o h hm => by
    cases q : m1 a with
    | none => rfl
    | some u =>
      have := x.nm a hm (by rw [q]; exact fun z => nomatch z)
      rw [h] at this
      cases this
  have back : ∀ a, H1 a = none → H a = none ∨ m a ≠ none := fun a h => by
    cases q : m a with
    | some u => exact .inr fun z => nomatch z
    | none =>
      cases r : H a with
      | none => exact .inl rfl
      | some o =>
        rw [x.st a o r q] at h
        cases h
  refine ⟨fun a o h => y.fr a o (x.fr a o h), fun a o h hm => y.st a o (x.st a o h hm) (nm1 a o h hm), fun a h k => ?_, fun a h k => ?_⟩
  · cases q : F1 a with
    | some u => exact x.nf a h (by rw [q]; exact fun z => nomatch z)
    | none =>
      rcases y.nf a q k with z | z
      · exact back a z
      · cases r : m a with
        | some u => exact .inr fun z => nomatch z
        | none => exact .inl (x.nm a r z)
  · cases q : m1 a with
    | some u => exact x.nm a h (by rw [q]; exact fun z => nomatch z)
    | none =>
      rcases back a (y.nm a q k) with z | z
      · exact z
      · exact absurd h z

section
variable {K : PySem.W.Frag} {F F' : Hp} {m m' : Mem} {H H' : Hp}
theorem rdi {a : Addr} {u : HO} (s : Inc F F') (h : Rd F a u) : Rd F' a u := by
  rcases h with h | ⟨o, h⟩
  · exact .inl (s a _ h)
  · exact .inr ⟨o, s a _ h⟩
theorem sqLi {a : Addr} {xs : List V} (s : Inc F F') (h : SqL K F a xs) : SqL K F' a xs := h.elim (fun h => .inl (rdi s h)) .inr
theorem sqTi {a : Addr} {xs : List V} (s : Inc F F') (h : SqT K F a xs) : SqT K F' a xs := h.elim (fun h => .inl (rdi s h)) .inr
mutual
theorem Rp.inc (s : Inc F F') : ∀ {v : V} {d : PyData}, Rp K F v d → Rp K F' v d
  | _, _, .non => .non
  | _, _, .bl b => .bl b
  | _, _, .int i => .int i
  | _, _, .str x => .str x
  | _, _, .lst h r => .lst (sqLi s h) (RpAll.inc s r)
  | _, _, .tup h r => .tup (sqTi s h) (RpAll.inc s r)
  | _, _, .nodict h => .nodict (rdi s h)
theorem RpAll.inc (s : Inc F F') : ∀ {vs : List V} {ds : List PyData}, RpAll K F vs ds → RpAll K F' vs ds
  | _, _, .nil => .nil
  | _, _, .cons r t => .cons (Rp.inc s r) (RpAll.inc s t)
end
theorem EntOk.inc (s : Inc F F') {v : V} {e : Ent} (h : EntOk K F v e) : EntOk K F' v e := by
  cases e with
  | d d => exact Rp.inc s h
  | x a => exact h
  | v u => exact h
theorem Paired.imp {α β : Type} {F G : α → β → Prop} (f : ∀ a b, F a b → G a b) : ∀ {l : List α} {k : List β}, Paired F l k → Paired G l k
  | _, _, .nil => .nil
  | _, _, .cons r t => .cons (f _ _ r) (Paired.imp f t)
theorem Ents.inc (s : Inc F F') {vs : List V} {es : List Ent} (h : Ents K F vs es) : Ents K F' vs es := Paired.imp (fun _ _ r => EntOk.inc s r) h
theorem Slots.inc {σ : St} {n : Nm} (s : Inc F F') (h : Slots K F σ n) : Slots K F' σ n :=
  ⟨h.1, fun i e q => let ⟨v, h1, h2⟩ := h.2 i e q; ⟨v, h1, EntOk.inc s h2⟩⟩
theorem RpAll.length : ∀ {vs : List V} {ds : List PyData}, RpAll K F vs ds → vs.length = ds.length
  | _, _, .nil => rfl
  | _, _, .cons _ t => by rw [List.length_cons, List.length_cons, RpAll.length t]
theorem RpAll.ents : ∀ {vs : List V} {ds : List PyData}, RpAll K F vs ds → Ents K F vs (ds.map .d)
  | _, _, .nil => .nil
  | _, _, .cons r t => .cons r (RpAll.ents t)
theorem RpAll.of_ents : ∀ {ds : List PyData} {vs : List V}, Ents K F vs (ds.map .d) → RpAll K F vs ds
  | [], _, .nil => .nil
  | _ :: _, _, .cons r t => .cons r (RpAll.of_ents t)
theorem RpAll.get : ∀ {vs : List V} {ds : List PyData} {i : Nat} {d : PyData}, RpAll K F vs ds → ds[i]? = some d → ∃ v, vs[i]? = some v ∧ Rp K F v d
  | _, _, _, _, .nil, e => by simp at e
  | _, _, 0, _, .cons r _, e => by simp at e; subst e; exact ⟨_, rfl, r⟩
  | _, _, i + 1, d, .cons _ t, e => by
    obtain ⟨v, h1, h2⟩ := RpAll.get (i := i) (d := d) t (by simpa using e)
    exact ⟨v, by simpa using h1, h2⟩
theorem RpAll.get' : ∀ {vs : List V} {ds : List PyData} {i : Nat} {v : V}, RpAll K F vs ds → vs[i]? = some v → ∃ d, ds[i]? = some d ∧ Rp K F v d
  | _, _, _, _, .nil, e => by simp at e
  | _, _, 0, _, .cons r _, e => by simp at e; subst e; exact ⟨_, rfl, r⟩
  | _, _, i + 1, v, .cons _ t, e => by
    obtain ⟨d, h1, h2⟩ := RpAll.get' (i := i) (v := v) t (by simpa using e)
    exact ⟨d, by simpa using h1, h2⟩
theorem Slots.set {σ : St} {n : Nm} (h : Slots K F σ n) {i : Nat} {v : V} {e : Ent} (r : EntOk K F v e) : Slots K F (σ.set i (some v)) (n.set i (some e)) := by
  refine ⟨by rw [List.length_set, List.length_set]; exact h.1, fun j q hq => ?_⟩
  by_cases hj : i = j
  · subst hj
    have hl : i < n.length := by
      by_cases hl : i < n.length
      · exact hl
      · rw [List.getElem?_eq_none (by rw [List.length_set]; omega)] at hq
        cases hq
    rw [List.getElem?_set_self hl] at hq
    cases hq
    exact ⟨v, List.getElem?_set_self (h.1 ▸ hl), r⟩
  · rw [List.getElem?_set_ne hj] at hq
    obtain ⟨u, h1, h2⟩ := h.2 j q hq
    exact ⟨u, by rw [List.getElem?_set_ne hj]; exact h1, h2⟩
theorem Rp.sqL {v : V} {ds : List PyData} (h : Rp K F v (.list ds)) : ∃ a xs, v = .ref a ∧ SqL K F a xs ∧ RpAll K F xs ds := by
  cases h with
  | lst h r => exact ⟨_, _, rfl, h, r⟩
theorem Rp.sqT {v : V} {ds : List PyData} (h : Rp K F v (.tuple ds)) : ∃ a xs, v = .ref a ∧ SqT K F a xs ∧ RpAll K F xs ds := by
  cases h with
  | tup h r => exact ⟨_, _, rfl, h, r⟩
mutual
def nodict : PyData → Bool
  | .dict _ => false
  | .list xs => nodictAll xs
  | .tuple xs => nodictAll xs
  | _ => true
def nodictAll : List PyData → Bool
  | [] => true
  | x :: xs => nodict x && nodictAll xs
end
mutual
theorem Rp.dp : ∀ {v : V} {d : PyData}, Rp K F v d → nodict d = true → Dp K F v d
  | _, _, .non, _ => .non
  | _, _, .bl b, _ => .bl b
  | _, _, .int i, _ => .int i
  | _, _, .str x, _ => .str x
  | _, _, .lst h r, hd => .lst h (RpAll.dp r (by simpa [nodict] using hd))
  | _, _, .tup h r, hd => .tup h (RpAll.dp r (by simpa [nodict] using hd))
  | _, _, .nodict _, hd => by simp [nodict] at hd
theorem RpAll.dp : ∀ {vs : List V} {ds : List PyData}, RpAll K F vs ds → nodictAll ds = true → DpAll K F vs ds
  | _, _, .nil, _ => .nil
  | _, _, .cons r t, hd => by
    simp only [nodictAll, Bool.and_eq_true] at hd
    exact .cons (Rp.dp r hd.1) (RpAll.dp t hd.2)
end
theorem MOk.there {a : Addr} {o : XO} (h : MOk K F m H) (e : m a = some o) : ∃ u, H a = some u := by
  have q := h.obj a o e
  cases o with
  | lst es => obtain ⟨_, q, _⟩ := q; exact ⟨_, q⟩
  | ins C fs => obtain ⟨_, _, q, _⟩ := q; exact ⟨_, q⟩
  | dct kes => obtain ⟨_, q, _⟩ := q; exact ⟨_, q⟩
  | set S n => exact ⟨_, q⟩
theorem MOk.fresh {a : Addr} (h : MOk K F m H) (e : H a = none) : m a = none := by
  cases q : m a with
  | none => rfl
  | some o =>
    obtain ⟨u, hu⟩ := h.there q
    rw [e] at hu
    cases hu
theorem MOk.freshF {a : Addr} (h : MOk K F m H) (e : H a = none) : F a = none := by
  cases q : F a with
  | none => rfl
  | some o =>
    rw [h.sub a o q] at e
    cases e
theorem XOk.inc {a : Addr} {o : XO} (s : Inc F F') (hk : ∀ u, H a = some u → H' a = some u) (h : XOk K F H a o) : XOk K F' H' a o := by
  cases o with
  | lst es => obtain ⟨xs, q, r⟩ := h; exact ⟨xs, hk _ q, Ents.inc s r⟩
  | ins C fs => obtain ⟨dx, ys, q, r⟩ := h; exact ⟨dx, ys, hk _ q, Paired.imp (fun _ _ z => ⟨z.1, EntOk.inc s z.2⟩) r⟩
  | dct kes => obtain ⟨kvs, q, r⟩ := h; exact ⟨kvs, hk _ q, Paired.imp (fun _ _ z => ⟨z.1, EntOk.inc s z.2⟩) r⟩
  | set S n => exact hk _ h
theorem Inc.upd {p : Addr} {o : HO} (hp : F p = none) : Inc F (upd F p o) := fun a u e => by rw [upd_ne (ne_of_none e hp)]; exact e
/-- a new object of the region -/
theorem MOk.newF {p : Addr} {o : HO} (h : MOk K F m H) (hp : H p = none) : MOk K (upd F p o) m (upd H p o) := by
  have fp := h.freshF hp
  refine ⟨fun a u e => ?_, fun a u e => ?_, fun a u e => XOk.inc (Inc.upd fp) (fun z hz => by rw [upd_ne (ne_of_none hz hp)]; exact hz) (h.obj a u e)⟩
  · by_cases ha : a = p
    · subst ha; rw [upd_same] at e ⊢; exact e
    · rw [upd_ne ha] at e ⊢; exact h.sub a u e
  · have ha : a ≠ p := fun q => by rw [q, h.fresh hp] at e; cases e
    rw [upd_ne ha]
    exact h.out a u e
theorem Step.newF {p : Addr} {o : HO} (h : MOk K F m H) (hp : H p = none) : Step F m H (upd F p o) m (upd H p o) := by
  refine ⟨Inc.upd (h.freshF hp), fun a u e _ => by rw [upd_ne (ne_of_none e hp)]; exact e, fun a e k => ?_, fun a e k => absurd e k⟩
  by_cases ha : a = p
  · subst ha; exact .inl hp
  · rw [upd_ne ha] at k; exact absurd e k
/-- a new object of the memory -/
theorem MOk.newX {p : Addr} {o : HO} {u : XO} (h : MOk K F m H) (hp : H p = none) (r : XOk K F (upd H p o) p u) : MOk K F (m.put p u) (upd H p o) := by
  refine ⟨fun a z e => by rw [upd_ne (ne_of_none (h.sub a z e) hp)]; exact h.sub a z e, fun a z e => ?_, fun a z e => ?_⟩
  · by_cases ha : a = p
    · subst ha; exact h.freshF hp
    · rw [Mem.put_ne ha] at e; exact h.out a z e
  · by_cases ha : a = p
    · subst ha
      rw [Mem.put_same] at e
      cases e
      exact r
    · rw [Mem.put_ne ha] at e
      exact XOk.inc (fun _ _ z => z) (fun w hw => by rw [upd_ne ha]; exact hw) (h.obj a z e)
theorem Step.newX {p : Addr} {o : HO} {u : XO} (hp : H p = none) : Step F m H F (m.put p u) (upd H p o) := by
  refine ⟨fun _ _ h => h, fun a z e _ => by rw [upd_ne (ne_of_none e hp)]; exact e, fun a e k => absurd e k, fun a e k => ?_⟩
  by_cases ha : a = p
  · subst ha; exact hp
  · rw [Mem.put_ne ha] at k; exact absurd e k
/-- an object of the memory changes -/
theorem MOk.mut {p : Addr} {o : HO} {u u' : XO} (h : MOk K F m H) (hp : m p = some u) (r : XOk K F (upd H p o) p u') : MOk K F (m.put p u') (upd H p o) := by
  have np : ∀ a z, F a = some z → a ≠ p := fun a z e q => by rw [q, h.out p u hp] at e; cases e
  refine ⟨fun a z e => by rw [upd_ne (np a z e)]; exact h.sub a z e, fun a z e => ?_, fun a z e => ?_⟩
  · by_cases ha : a = p
    · subst ha; exact h.out a u hp
    · rw [Mem.put_ne ha] at e; exact h.out a z e
  · by_cases ha : a = p
    · subst ha
      rw [Mem.put_same] at e
      cases e
      exact r
    · rw [Mem.put_ne ha] at e
      exact XOk.inc (fun _ _ z => z) (fun w hw => by rw [upd_ne ha]; exact hw) (h.obj a z e)
theorem Step.mut {p : Addr} {o : HO} {u u' : XO} (hp : m p = some u) : Step F m H F (m.put p u') (upd H p o) := by
  refine ⟨fun _ _ h => h, fun a z e hm => ?_, fun a e k => absurd e k, fun a e k => ?_⟩
  · have ha : a ≠ p := fun q => by rw [q, hp] at hm; cases hm
    rw [upd_ne ha]
    exact e
  · by_cases ha : a = p
    · subst ha; rw [hp] at e; cases e
    · rw [Mem.put_ne ha] at k; exact absurd e k
/-- objects of the memory are forgotten -/
def Mem.Sub (m' m : Mem) : Prop := ∀ a o, m' a = some o → m a = some o
theorem Sub.none {a : Addr} (h : Mem.Sub m' m) (e : m a = none) : m' a = none := by
  cases q : m' a with
  | none => rfl
  | some o =>
    rw [h a o q] at e
    cases e
theorem Step.sub (h : Mem.Sub m' m) : Step F m H F m' H := ⟨fun _ _ h => h, fun _ _ e _ => e, fun _ e k => absurd e k, fun a e k => absurd (Sub.none h e) k⟩
theorem MOk.less (h : Mem.Sub m' m) (ok : MOk K F m H) : MOk K F m' H := ⟨ok.sub, fun a o e => ok.out a o (h a o e), fun a o e => ok.obj a o (h a o e)⟩
theorem Sub.refl {m : Mem} : Mem.Sub m m := fun _ _ h => h
theorem Sub.put {a : Addr} {o : XO} (h : Mem.Sub m' m) : Mem.Sub (m'.put a o) (m.put a o) := fun b u e => by
  by_cases hb : b = a
  · subst hb
    rw [Mem.put_same] at e ⊢
    exact e
  · rw [Mem.put_ne hb] at e ⊢
    exact h b u e
theorem Sub.new {a : Addr} {o : XO} (h : m a = Option.none) : Mem.Sub m (m.put a o) := fun b u e => by
  rw [Mem.put_ne (fun q => by rw [q, h] at e; cases e)]
  exact e
theorem Sub.trans {m1 m2 m3 : Mem} (a : Mem.Sub m1 m2) (b : Mem.Sub m2 m3) : Mem.Sub m1 m3 := fun c o h => b c o (a c o h)
theorem Sub.drop {m : Mem} {a : Addr} : Mem.Sub (m.drop a) m := fun b u e => by
  unfold Mem.drop at e
  by_cases hb : b = a
  · rw [if_pos hb] at e; cases e
  · rw [if_neg hb] at e; exact e
/-- a list of data in the memory becomes data -/
theorem MOk.freeze {p : Addr} {ds : List PyData} (h : MOk K F m H) (hp : m p = some (.lst (ds.map .d))) :
    ∃ F', MOk K F' (m.drop p) H ∧ Step F m H F' (m.drop p) H ∧ Rp K F' (.ref p) (.list ds) := by
  obtain ⟨xs, hx, r⟩ := h.obj p _ hp
  have fp := h.out p _ hp
  have inc : Inc F (upd F p (.lst xs)) := Inc.upd fp
  refine ⟨upd F p (.lst xs), ⟨fun a o e => ?_, fun a o e => ?_, fun a o e => XOk.inc inc (fun _ z => z) (h.obj a o (Sub.drop a o e))⟩, ⟨inc, fun _ _ e _ => e, fun a e k => ?_, fun a e k => ?_⟩, .lst (.inl (.inl upd_same)) (RpAll.inc inc (RpAll.of_ents r))⟩
  · by_cases ha : a = p
    · subst ha; rw [upd_same] at e; cases e; exact hx
    · rw [upd_ne ha] at e; exact h.sub a o e
  · have ha : a ≠ p := fun q => by
      unfold Mem.drop at e
      rw [if_pos q] at e
      cases e
    rw [upd_ne ha]
    exact h.out a o (Sub.drop a o e)
  · by_cases ha : a = p
    · subst ha; exact .inr (by rw [hp]; exact fun z => nomatch z)
    · rw [upd_ne ha] at k; exact absurd e k
  · exact absurd (Sub.none (m' := m.drop p) (m := m) Sub.drop e) k
end
end Z

/-! Z2: the judgements over values. -/
namespace Z
open PySem PySem.Spec L2
set_option linter.all false

/-! ### what is wanted of a piece of syntax, as a reading -/
def wpE (X : Cx) (e : Expr) : TE := fun σ H Q => ∀ pins s, Inv X pins σ H s → wpAny (model X.prog X.w) X.A (eval e X.env) (EP X pins σ Q) X.xe s
def wpT (X : Cx) (e : Expr) : TT := fun σ H Q => ∀ pins s, Inv X pins σ H s → wpAny (model X.prog X.w) X.A (isTrue e X.env (eval e X.env)) (TP X pins σ Q) X.xe s
def wpW (X : Cx) (e : Expr) : TT := fun σ H Q => ∀ whole pins s, Inv X pins σ H s → wpAny (model X.prog X.w) X.A (isTrue e X.env whole) (TP X pins σ Q) X.xe s
def wpA (X : Cx) (es : List Expr) : TA := fun σ H Q => ∀ pos pins s, Inv X pins σ H s → wpAny (model X.prog X.w) X.A (spliced (backTo pos (starEach es X.env))) (AP X pins σ Q) X.xe s
def wpS (X : Cx) (st : Stmt) : TS := fun D σ H => ∀ pins s, Inv X pins σ H s → wpAny (model X.prog X.w) X.A (exec st X.env) (SP X pins D) X.xe s
def wpB (X : Cx) (st : List Stmt) : TS := fun D σ H => ∀ pins s, Inv X pins σ H s → wpAny (model X.prog X.w) X.A (execs st X.env) (SP X pins D) X.xe s
def wpG (X : Cx) (tg : Expr) : TG := fun v σ H Q => ∀ pins s u, Inv X pins σ H s → RelV v u → wpAny (model X.prog X.w) X.A (assign tg X.env u) (fun _ s' => ∃ σ' H', Inv X pins σ' H' s' ∧ Q σ' H') X.xe s
def wpGs (X : Cx) (ts : List Expr) : TGs := fun vs σ H Q => ∀ pins s us, Inv X pins σ H s → Vals vs us → wpAny (model X.prog X.w) X.A (assignInOrder ((assignEach ts X.env).map (·.2)) us) (fun _ s' => ∃ σ' H', Inv X pins σ' H' s' ∧ Q σ' H') X.xe s
def wpI (X : Cx) (tg iter : Expr) : TI := fun σ H R => ∀ pins s, Inv X pins σ H s → wpAny (model X.prog X.w) X.A (eval iter X.env) (fun v s1 => wpAny (model X.prog X.w) X.A (pyIter v) (PIE X pins σ tg R) X.xe s1) X.xe s
section
variable {X : Cx} {e tg iter : Expr} {es : List Expr} {st : Stmt} {sts : List Stmt} {σ : St} {H : Hp}
theorem pe_wp : PE X e (wpE X e) := ⟨fun pins s _ _ _ I h => h pins s I⟩
theorem pt_wp : PT X e (wpT X e) := ⟨fun pins s _ _ _ I h => h pins s I⟩
theorem pw_wp : PW X e (wpW X e) := ⟨fun wh pins s _ _ _ I h => h wh pins s I⟩
theorem pa_wp : PA X es (wpA X es) := ⟨fun pos pins s _ _ _ I h => h pos pins s I⟩
theorem ps_wp : PS X st (wpS X st) := ⟨fun pins s _ _ _ I h => h pins s I⟩
theorem pb_wp : PSs X sts (wpB X sts) := ⟨fun pins s _ _ _ I h => h pins s I⟩
theorem pg_wp : PG X tg (wpG X tg) := ⟨fun pins s _ _ _ u _ I r h => h pins s u I r⟩
theorem pgs_wp : PGs X es (wpGs X es) := ⟨fun pins s _ _ _ us _ I r h => h pins s us I r⟩
theorem pi_wp : PI X tg iter (wpI X tg iter) := ⟨fun pins s _ _ _ I h => h pins s I⟩
theorem wpE.of {t : TE} {Q : VK} (h : PE X e t) (q : t σ H Q) : wpE X e σ H Q := fun pins s I => h.run pins s σ H Q I q
theorem wpT.of {t : TT} {Q} (h : PT X e t) (q : t σ H Q) : wpT X e σ H Q := fun pins s I => h.run pins s σ H Q I q
theorem wpW.of {t : TT} {Q} (h : PW X e t) (q : t σ H Q) : wpW X e σ H Q := fun wh pins s I => h.run wh pins s σ H Q I q
theorem wpA.of {t : TA} {Q} (h : PA X es t) (q : t σ H Q) : wpA X es σ H Q := fun pos pins s I => h.run pos pins s σ H Q I q
theorem wpS.of {t : TS} {D : Ends} (h : PS X st t) (q : t D σ H) : wpS X st D σ H := fun pins s I => h.run pins s σ H D I q
theorem wpB.of {t : TS} {D : Ends} (h : PSs X sts t) (q : t D σ H) : wpB X sts D σ H := fun pins s I => h.run pins s σ H D I q
theorem wpG.of {t : TG} {v : V} {Q} (h : PG X tg t) (q : t v σ H Q) : wpG X tg v σ H Q := fun pins s u I r => h.run pins s σ H v u Q I r q
theorem wpGs.of {t : TGs} {vs : List V} {Q} (h : PGs X es t) (q : t vs σ H Q) : wpGs X es vs σ H Q := fun pins s us I r => h.run pins s σ H vs us Q I r q
theorem wpI.of {t : TI} {R} (h : PI X tg iter t) (q : t σ H R) : wpI X tg iter σ H R := fun pins s I => h.run pins s σ H R I q
theorem wpE.mono {Q Q' : VK} (h : wpE X e σ H Q) (k : ∀ v H', Q v H' → Q' v H') : wpE X e σ H Q' := fun pins s I => thn (h pins s I) fun _ _ ⟨v, H', I', r, q⟩ => ⟨v, H', I', r, k v H' q⟩
theorem wpT.mono {Q Q'} (h : wpT X e σ H Q) (k : ∀ v H', Q v H' → Q' v H') : wpT X e σ H Q' := fun pins s I => thn (h pins s I) fun _ _ ⟨H', I', q⟩ => ⟨H', I', k _ H' q⟩
theorem wpW.mono {Q Q'} (h : wpW X e σ H Q) (k : ∀ v H', Q v H' → Q' v H') : wpW X e σ H Q' := fun wh pins s I => thn (h wh pins s I) fun _ _ ⟨H', I', q⟩ => ⟨H', I', k _ H' q⟩
theorem wpA.mono {Q Q'} (h : wpA X es σ H Q) (k : ∀ v H', Q v H' → Q' v H') : wpA X es σ H Q' := fun pos pins s I => thn (h pos pins s I) fun _ _ ⟨v, H', I', r, q⟩ => ⟨v, H', I', r, k v H' q⟩
theorem SP.mono {pins : List (Addr × Obj)} {D D' : Ends} (h1 : ∀ σ H, D.nx σ H → D'.nx σ H) (h2 : ∀ v H, D.rt v H → D'.rt v H) (h3 : ∀ σ H, D.bk σ H → D'.bk σ H) (h4 : ∀ σ H, D.ct σ H → D'.ct σ H) {f : Flow} {s' : Shared} (h : SP X pins D f s') : SP X pins D' f s' := by
  cases f with
  | next => obtain ⟨a, b, c, q⟩ := h; exact ⟨a, b, c, h1 _ _ q⟩
  | brk => obtain ⟨a, b, c, q⟩ := h; exact ⟨a, b, c, h3 _ _ q⟩
  | cont => obtain ⟨a, b, c, q⟩ := h; exact ⟨a, b, c, h4 _ _ q⟩
  | ret u => obtain ⟨v, a, b, c, r, q⟩ := h; exact ⟨v, a, b, c, r, h2 _ _ q⟩
theorem wpS.mono {D D' : Ends} (h : wpS X st D σ H) (h1 : ∀ σ H, D.nx σ H → D'.nx σ H) (h2 : ∀ v H, D.rt v H → D'.rt v H) (h3 : ∀ σ H, D.bk σ H → D'.bk σ H) (h4 : ∀ σ H, D.ct σ H → D'.ct σ H) : wpS X st D' σ H :=
  fun pins s I => thn (h pins s I) fun _ _ q => SP.mono h1 h2 h3 h4 q
theorem wpB.mono {D D' : Ends} (h : wpB X sts D σ H) (h1 : ∀ σ H, D.nx σ H → D'.nx σ H) (h2 : ∀ v H, D.rt v H → D'.rt v H) (h3 : ∀ σ H, D.bk σ H → D'.bk σ H) (h4 : ∀ σ H, D.ct σ H → D'.ct σ H) : wpB X sts D' σ H :=
  fun pins s I => thn (h pins s I) fun _ _ q => SP.mono h1 h2 h3 h4 q
theorem wpG.mono {v : V} {Q Q' : St → Hp → Prop} (h : wpG X tg v σ H Q) (k : ∀ σ H', Q σ H' → Q' σ H') : wpG X tg v σ H Q' := fun pins s u I r => thn (h pins s u I r) fun _ _ ⟨a, b, I', q⟩ => ⟨a, b, I', k _ _ q⟩
theorem wpGs.mono {vs : List V} {Q Q' : St → Hp → Prop} (h : wpGs X es vs σ H Q) (k : ∀ σ H', Q σ H' → Q' σ H') : wpGs X es vs σ H Q' := fun pins s u I r => thn (h pins s u I r) fun _ _ ⟨a, b, I', q⟩ => ⟨a, b, I', k _ _ q⟩
theorem wpI.mono {R R' : It → Hp → Prop} (h : wpI X tg iter σ H R) (k : ∀ J H', R J H' → R' J H') : wpI X tg iter σ H R' := fun pins s I => thn (h pins s I) fun _ _ q => thn q fun _ _ ⟨it, fp, tn, J, H', a, b, c, d, f, r⟩ => ⟨it, fp, tn, J, H', a, b, c, d, f, k J H' r⟩
end

/-! ### the judgements -/
abbrev KE := Ent → Mem → Prop
def PostE (X : Cx) (F : Hp) (m : Mem) (H : Hp) (K : KE) : VK := fun v H' => ∃ F' r m', K r m' ∧ EntOk X.K F' v r ∧ MOk X.K F' m' H' ∧ Step F m H F' m' H'
def WE (X : Cx) (e : Expr) (n : Nm) (m : Mem) (K : KE) : Prop := ∀ F σ H, MOk X.K F m H → Slots X.K F σ n → wpE X e σ H (PostE X F m H K)
def PostT (X : Cx) (F : Hp) (m : Mem) (H : Hp) (K : Bool → Mem → Prop) : Bool → Hp → Prop := fun b H' => ∃ F' m', K b m' ∧ MOk X.K F' m' H' ∧ Step F m H F' m' H'
def WT (X : Cx) (e : Expr) (n : Nm) (m : Mem) (K : Bool → Mem → Prop) : Prop := ∀ F σ H, MOk X.K F m H → Slots X.K F σ n → wpT X e σ H (PostT X F m H K)
def WW (X : Cx) (e : Expr) (n : Nm) (m : Mem) (K : Bool → Mem → Prop) : Prop := ∀ F σ H, MOk X.K F m H → Slots X.K F σ n → wpW X e σ H (PostT X F m H K)
def PostA (X : Cx) (F : Hp) (m : Mem) (H : Hp) (K : List Ent → Mem → Prop) : List V → Hp → Prop := fun vs H' => ∃ F' rs m', K rs m' ∧ Ents X.K F' vs rs ∧ MOk X.K F' m' H' ∧ Step F m H F' m' H'
def WA (X : Cx) (es : List Expr) (n : Nm) (m : Mem) (K : List Ent → Mem → Prop) : Prop := ∀ F σ H, MOk X.K F m H → Slots X.K F σ n → wpA X es σ H (PostA X F m H K)
/-- how a statement ends -/
inductive Out where
  | nx (n : Nm) (m : Mem)
  | rt (r : Ent) (m : Mem)
  | bk (n : Nm) (m : Mem)
  | ct (n : Nm) (m : Mem)
abbrev KS := Out → Prop
def PostN (X : Cx) (F : Hp) (m : Mem) (H : Hp) (K : Nm → Mem → Prop) : St → Hp → Prop := fun σ' H' => ∃ F' n' m', K n' m' ∧ Slots X.K F' σ' n' ∧ MOk X.K F' m' H' ∧ Step F m H F' m' H'
def PostS (X : Cx) (F : Hp) (m : Mem) (H : Hp) (P : KS) : Ends :=
  { nx := PostN X F m H fun n m => P (.nx n m), rt := PostE X F m H fun r m => P (.rt r m), bk := PostN X F m H fun n m => P (.bk n m), ct := PostN X F m H fun n m => P (.ct n m) }
def WS (X : Cx) (st : Stmt) (n : Nm) (m : Mem) (P : KS) : Prop := ∀ F σ H, MOk X.K F m H → Slots X.K F σ n → wpS X st (PostS X F m H P) σ H
def WB (X : Cx) (sts : List Stmt) (n : Nm) (m : Mem) (P : KS) : Prop := ∀ F σ H, MOk X.K F m H → Slots X.K F σ n → wpB X sts (PostS X F m H P) σ H
/-- only these slots differ -/
def Tou (vs : List Nat) (σ σ' : St) : Prop := σ'.length = σ.length ∧ ∀ j, j ∉ vs → σ'[j]? = σ[j]?
/-- a target takes a value: names alone are stored, in the slots vs -/
def WG (X : Cx) (tg : Expr) (vs : List Nat) (r : Ent) (n : Nm) (K : Nm → Prop) : Prop := ∀ F σ H v, Inc F H → EntOk X.K F v r → Slots X.K F σ n → wpG X tg v σ H fun σ' H' => H' = H ∧ Tou vs σ σ' ∧ ∃ n', K n' ∧ Slots X.K F σ' n'
def WGs (X : Cx) (ts : List Expr) (vs : List Nat) (rs : List PyData) (n : Nm) (K : Nm → Prop) : Prop := ∀ F σ H us, Inc F H → RpAll X.K F us rs → Slots X.K F σ n → wpGs X ts us σ H fun σ' H' => H' = H ∧ Tou vs σ σ' ∧ ∃ n', K n' ∧ Slots X.K F σ' n'

section
variable {X : Cx} {e tg iter a b c : Expr} {es : List Expr} {st : Stmt} {sts : List Stmt} {n : Nm} {m : Mem} {K K' : KE}
theorem WE.go {F : Hp} {σ : St} {H : Hp} (h : WE X e n m K) (hm : MOk X.K F m H) (hs : Slots X.K F σ n) {Q : VK}
    (k : ∀ F1 v H1 r m1, K r m1 → EntOk X.K F1 v r → MOk X.K F1 m1 H1 → Step F m H F1 m1 H1 → Slots X.K F1 σ n → Q v H1) : wpE X e σ H Q :=
  (h F σ H hm hs).mono fun v H1 ⟨F1, r, m1, k1, ok, hm1, st⟩ => k F1 v H1 r m1 k1 ok hm1 st (hs.inc st.fr)
theorem WT.go {F : Hp} {σ : St} {H : Hp} {K : Bool → Mem → Prop} (h : WT X e n m K) (hm : MOk X.K F m H) (hs : Slots X.K F σ n) {Q : Bool → Hp → Prop}
    (k : ∀ F1 b H1 m1, K b m1 → MOk X.K F1 m1 H1 → Step F m H F1 m1 H1 → Slots X.K F1 σ n → Q b H1) : wpT X e σ H Q :=
  (h F σ H hm hs).mono fun b H1 ⟨F1, m1, k1, hm1, st⟩ => k F1 b H1 m1 k1 hm1 st (hs.inc st.fr)
theorem WW.go {F : Hp} {σ : St} {H : Hp} {K : Bool → Mem → Prop} (h : WW X e n m K) (hm : MOk X.K F m H) (hs : Slots X.K F σ n) {Q : Bool → Hp → Prop}
    (k : ∀ F1 b H1 m1, K b m1 → MOk X.K F1 m1 H1 → Step F m H F1 m1 H1 → Slots X.K F1 σ n → Q b H1) : wpW X e σ H Q :=
  (h F σ H hm hs).mono fun b H1 ⟨F1, m1, k1, hm1, st⟩ => k F1 b H1 m1 k1 hm1 st (hs.inc st.fr)
theorem WA.go {F : Hp} {σ : St} {H : Hp} {K : List Ent → Mem → Prop} (h : WA X es n m K) (hm : MOk X.K F m H) (hs : Slots X.K F σ n) {Q : List V → Hp → Prop}
    (k : ∀ F1 vs H1 rs m1, K rs m1 → Ents X.K F1 vs rs → MOk X.K F1 m1 H1 → Step F m H F1 m1 H1 → Slots X.K F1 σ n → Q vs H1) : wpA X es σ H Q :=
  (h F σ H hm hs).mono fun v H1 ⟨F1, r, m1, k1, ok, hm1, st⟩ => k F1 v H1 r m1 k1 ok hm1 st (hs.inc st.fr)
/-- without a step -/
theorem PostE.here {F : Hp} {H : Hp} {r : Ent} {v : V} (k : K r m) (ok : EntOk X.K F v r) (hm : MOk X.K F m H) : PostE X F m H K v H := ⟨F, r, m, k, ok, hm, .refl⟩
theorem PostE.after {F F1 : Hp} {m1 : Mem} {H H1 H2 : Hp} {v : V} (s : Step F m H F1 m1 H1) (h : PostE X F1 m1 H1 K v H2) : PostE X F m H K v H2 :=
  let ⟨F', r, m', k, ok, hm, st⟩ := h
  ⟨F', r, m', k, ok, hm, s.trans st⟩
theorem PostT.after {F F1 : Hp} {m1 : Mem} {H H1 H2 : Hp} {K : Bool → Mem → Prop} {v : Bool} (s : Step F m H F1 m1 H1) (h : PostT X F1 m1 H1 K v H2) : PostT X F m H K v H2 :=
  let ⟨F', m', k, hm, st⟩ := h
  ⟨F', m', k, hm, s.trans st⟩
theorem PostA.after {F F1 : Hp} {m1 : Mem} {H H1 H2 : Hp} {K : List Ent → Mem → Prop} {v : List V} (s : Step F m H F1 m1 H1) (h : PostA X F1 m1 H1 K v H2) : PostA X F m H K v H2 :=
  let ⟨F', r, m', k, ok, hm, st⟩ := h
  ⟨F', r, m', k, ok, hm, s.trans st⟩
theorem PostN.after {F F1 : Hp} {m1 : Mem} {H H1 H2 : Hp} {σ : St} {K : Nm → Mem → Prop} (s : Step F m H F1 m1 H1) (h : PostN X F1 m1 H1 K σ H2) : PostN X F m H K σ H2 :=
  let ⟨F', n', m', k, ok, hm, st⟩ := h
  ⟨F', n', m', k, ok, hm, s.trans st⟩
theorem wpS.after {F F1 : Hp} {m1 : Mem} {H H1 : Hp} {σ : St} {P : KS} (s : Step F m H F1 m1 H1) (h : wpS X st (PostS X F1 m1 H1 P) σ H1) : wpS X st (PostS X F m H P) σ H1 :=
  h.mono (fun _ _ => PostN.after s) (fun _ _ => PostE.after s) (fun _ _ => PostN.after s) fun _ _ => PostN.after s
theorem wpB.after {F F1 : Hp} {m1 : Mem} {H H1 : Hp} {σ : St} {P : KS} (s : Step F m H F1 m1 H1) (h : wpB X sts (PostS X F1 m1 H1 P) σ H1) : wpB X sts (PostS X F m H P) σ H1 :=
  h.mono (fun _ _ => PostN.after s) (fun _ _ => PostE.after s) (fun _ _ => PostN.after s) fun _ _ => PostN.after s
theorem WE.mono (h : WE X e n m K) (k : ∀ r m', K r m' → K' r m') : WE X e n m K' := fun F σ H hm hs => (h F σ H hm hs).mono fun _ _ ⟨F', r, m', q, z⟩ => ⟨F', r, m', k r m' q, z⟩
/-- by a middle word -/
theorem WE.cut (K : KE) (h : WE X e n m K) (k : ∀ r m', K r m' → K' r m') : WE X e n m K' := h.mono k
theorem WT.mono {K K' : Bool → Mem → Prop} (h : WT X e n m K) (k : ∀ r m', K r m' → K' r m') : WT X e n m K' := fun F σ H hm hs => (h F σ H hm hs).mono fun _ _ ⟨F', m', q, z⟩ => ⟨F', m', k _ m' q, z⟩
theorem WA.mono {K K' : List Ent → Mem → Prop} (h : WA X es n m K) (k : ∀ r m', K r m' → K' r m') : WA X es n m K' := fun F σ H hm hs => (h F σ H hm hs).mono fun _ _ ⟨F', r, m', q, z⟩ => ⟨F', r, m', k r m' q, z⟩
theorem WB.mono {P P' : KS} (h : WB X sts n m P) (k : ∀ o, P o → P' o) : WB X sts n m P' := fun F σ H hm hs =>
  (h F σ H hm hs).mono (fun _ _ ⟨F', n', m', q, z⟩ => ⟨F', n', m', k _ q, z⟩) (fun _ _ ⟨F', n', m', q, z⟩ => ⟨F', n', m', k _ q, z⟩) (fun _ _ ⟨F', n', m', q, z⟩ => ⟨F', n', m', k _ q, z⟩) fun _ _ ⟨F', n', m', q, z⟩ => ⟨F', n', m', k _ q, z⟩
theorem WS.mono {P P' : KS} (h : WS X st n m P) (k : ∀ o, P o → P' o) : WS X st n m P' := fun F σ H hm hs =>
  (h F σ H hm hs).mono (fun _ _ ⟨F', n', m', q, z⟩ => ⟨F', n', m', k _ q, z⟩) (fun _ _ ⟨F', n', m', q, z⟩ => ⟨F', n', m', k _ q, z⟩) (fun _ _ ⟨F', n', m', q, z⟩ => ⟨F', n', m', k _ q, z⟩) fun _ _ ⟨F', n', m', q, z⟩ => ⟨F', n', m', k _ q, z⟩
theorem WB.cut (P : KS) {P' : KS} (h : WB X sts n m P) (k : ∀ o, P o → P' o) : WB X sts n m P' := h.mono k
theorem WS.cut (P : KS) {P' : KS} (h : WS X st n m P) (k : ∀ o, P o → P' o) : WS X st n m P' := h.mono k
/-- forgetting objects of the memory -/
theorem WB.less {m' : Mem} {P : KS} (s : Mem.Sub m' m) (h : WB X sts n m' P) : WB X sts n m P := fun F σ H hm hs => wpB.after (Step.sub s) (h F σ H (hm.less s) hs)
theorem WE.less {m' : Mem} (s : Mem.Sub m' m) (h : WE X e n m' K) : WE X e n m K := fun F σ H hm hs => (h F σ H (hm.less s) hs).mono fun _ _ q => PostE.after (Step.sub s) q

/-! ### names, constants -/
theorem we_var (i : Nat) {x : Str} {pos : Pos} {r : Ent} (hN : X.N[i]? = some x) (hv : Vis X.env.scope x) (hn : n[i]? = some (some r)) (k : K r m)
    (hd : (x == ("__debug__" : Str)) = false := by decide) (hcd : (x == ("__classdict__" : Str)) = false := by decide) : WE X (.Name x pos) n m K := fun F σ H hm hs =>
  let ⟨v, h1, h2⟩ := hs.2 i r hn
  wpE.of (pe_var hN hv hd hcd) ⟨v, h1, PostE.here k h2 hm⟩
theorem we_int {i : Int} {j pos} (k : K (.d (.int i)) m) : WE X (.Constant (.int i) j pos) n m K := fun F σ H hm _ => wpE.of pe_int (PostE.here k (Rp.int i) hm)
theorem we_bl {i : Bool} {j pos} (k : K (.d (.bool i)) m) : WE X (.Constant (.bool i) j pos) n m K := fun F σ H hm _ => wpE.of pe_bl (PostE.here k (Rp.bl i) hm)
theorem we_non {j pos} (k : K (.d .none) m) : WE X (.Constant .none j pos) n m K := fun F σ H hm _ => wpE.of pe_non (PostE.here k Rp.non hm)
theorem we_str {i : Str} {j pos} (k : K (.d (.str i)) m) : WE X (.Constant (.str i) j pos) n m K := fun F σ H hm _ => wpE.of pe_str (PostE.here k (Rp.str i) hm)

theorem v (i : Nat) {x : Str} {pos : Pos} {r : Ent} (k : K r m) (hn : n[i]? = some (some r) := by rfl) (hN : X.N[i]? = some x := by rfl) (hv : Vis X.env.scope x := by first | exact Or.inl rfl | exact Or.inr (Or.inl rfl) | exact Or.inr (Or.inr rfl))
    (hd : (x == ("__debug__" : Str)) = false := by decide) (hcd : (x == ("__classdict__" : Str)) = false := by decide) : WE X (.Name x pos) n m K := we_var i hN hv hn k hd hcd

/-! ### operators -/
/-- what a rule upon two values is asked for -/
def R2W (X : Cx) (r : R2) (x y : Ent) (m : Mem) (K : KE) : Prop := ∀ F H v u, MOk X.K F m H → EntOk X.K F v x → EntOk X.K F u y → ∀ Q : VK, (∀ z H', PostE X F m H K z H' → Q z H') → r v u H Q
/-- what a call upon values is asked for -/
def RCW (X : Cx) (r : List V → Hp → VK → Prop) (as : List Ent) (m : Mem) (K : KE) : Prop := ∀ F H vs, MOk X.K F m H → Ents X.K F vs as → ∀ Q : VK, (∀ z H', PostE X F m H K z H' → Q z H') → r vs H Q
theorem we_op {op : Operator} {r : R2} {pos : Pos} (ho : OpR X (binaryOp op) r) (h : WE X a n m fun x m1 => WE X b n m1 fun y m2 => R2W X r x y m2 K) : WE X (.BinOp a op b pos) n m K := fun F σ H hm hs =>
  wpE.of (pe_op ho pe_wp pe_wp) (h.go hm hs fun F1 v H1 x m1 h1 ok1 hm1 st1 hs1 => h1.go hm1 hs1 fun F2 u H2 y m2 h2 ok2 hm2 st2 hs2 =>
    h2 F2 H2 v u hm2 (ok1.inc st2.fr) ok2 _ fun z H' q => PostE.after (st1.trans st2) q)
theorem we_cmp {op : CmpOp} {r : R2} {pos : Pos} (ho : OpR X (compareOp op) r) (hb : behindInMarks op b = false) (h : WE X a n m fun x m1 => WE X b n m1 fun y m2 => R2W X r x y m2 K) : WE X (.Compare a [op] [b] pos) n m K := fun F σ H hm hs =>
  wpE.of (pe_cmpR ho pe_wp pe_wp hb) (h.go hm hs fun F1 v H1 x m1 h1 ok1 hm1 st1 hs1 => h1.go hm1 hs1 fun F2 u H2 y m2 h2 ok2 hm2 st2 hs2 =>
    h2 F2 H2 v u hm2 (ok1.inc st2.fr) ok2 _ fun z H' q => PostE.after (st1.trans st2) q)
theorem EntOk.int {K : PySem.W.Frag} {F : Hp} {v : V} {i : Int} (h : EntOk K F v (.d (.int i))) : v = .int i := by cases h; rfl
theorem EntOk.bl {K : PySem.W.Frag} {F : Hp} {v : V} {i : Bool} (h : EntOk K F v (.d (.bool i))) : v = .bl i := by cases h; rfl
theorem EntOk.str {K : PySem.W.Frag} {F : Hp} {v : V} {i : Str} (h : EntOk K F v (.d (.str i))) : v = .str i := by cases h; rfl
theorem EntOk.non {K : PySem.W.Frag} {F : Hp} {v : V} (h : EntOk K F v (.d .none)) : v = .non := by cases h; rfl
/-- a test by its value -/
def KTst (K : Bool → Mem → Prop) : KE := fun z m => ∃ b, z = .d (.bool b) ∧ K b m
theorem PostT.of {F F1 : Hp} {m1 : Mem} {H H1 : Hp} {K : Bool → Mem → Prop} {v : V} (q : PostE X F1 m1 H (KTst K) v H1) : ∃ b, v = .bl b ∧ PostT X F1 m1 H K b H1 := by
  obtain ⟨F', r, m', ⟨b, rfl, k⟩, ok, hm, st⟩ := q
  exact ⟨b, ok.bl, F', m', k, hm, st⟩
theorem wt_cmp {op : CmpOp} {r : R2} {pos : Pos} {K : Bool → Mem → Prop} (ho : OpR X (compareOp op) r) (hb : behindInMarks op b = false) (h : WE X a n m fun x m1 => WE X b n m1 fun y m2 => R2W X r x y m2 (KTst K)) : WT X (.Compare a [op] [b] pos) n m K := fun F σ H hm hs =>
  wpT.of (pt_cmpR ho pe_wp pe_wp hb) (h.go hm hs fun F1 v H1 x m1 h1 ok1 hm1 st1 hs1 => h1.go hm1 hs1 fun F2 u H2 y m2 h2 ok2 hm2 st2 hs2 =>
    h2 F2 H2 v u hm2 (ok1.inc st2.fr) ok2 _ fun z H' q => by
      obtain ⟨b, e, q⟩ := PostT.of (F := F2) q
      exact ⟨b, e, PostT.after (st1.trans st2) q⟩)
theorem wt_val {K : Bool → Mem → Prop} (h : WE X e n m (KTst K)) (he : ∀ whole, isTrue e X.env whole = (do let v ← whole; standAt e.pos; holding [v] (truthy v)) := by intro _; rfl) : WT X e n m K := fun F σ H hm hs =>
  wpT.of (pt_val pe_wp he) ((h F σ H hm hs).mono fun v H' q => PostT.of (F := F) q)

/-! ### and, or, not, if -/
variable {rest : List Expr} {pos : Pos}
theorem wt_ww {K : Bool → Mem → Prop} (h : WW X e n m K) : WT X e n m K := fun F σ H hm hs => wpT.of (PW.pt pw_wp) (h F σ H hm hs)
theorem ww_and1 {K : Bool → Mem → Prop} (h : WT X a n m K) : WW X (.BoolOp .And [a] pos) n m K := fun F σ H hm hs => wpW.of (pw_and1 pt_wp) (h F σ H hm hs)
theorem ww_or1 {K : Bool → Mem → Prop} (h : WT X a n m K) : WW X (.BoolOp .Or [a] pos) n m K := fun F σ H hm hs => wpW.of (pw_or1 pt_wp) (h F σ H hm hs)
theorem ww_and {K : Bool → Mem → Prop} (h : WT X a n m fun c m1 => (c = true → WW X (.BoolOp .And (b :: rest) pos) n m1 K) ∧ (c = false → K false m1)) : WW X (.BoolOp .And (a :: b :: rest) pos) n m K := fun F σ H hm hs =>
  wpW.of (pw_and pt_wp pw_wp) (h.go hm hs fun F1 c H1 m1 h1 hm1 st1 hs1 => by
    cases c with
    | true => exact iteT ((h1.1 rfl F1 σ H1 hm1 hs1).mono fun _ _ => PostT.after st1)
    | false => exact iteF ⟨F1, m1, h1.2 rfl, hm1, st1⟩)
theorem ww_or {K : Bool → Mem → Prop} (h : WT X a n m fun c m1 => (c = false → WW X (.BoolOp .Or (b :: rest) pos) n m1 K) ∧ (c = true → K true m1)) : WW X (.BoolOp .Or (a :: b :: rest) pos) n m K := fun F σ H hm hs =>
  wpW.of (pw_or pt_wp pw_wp) (h.go hm hs fun F1 c H1 m1 h1 hm1 st1 hs1 => by
    cases c with
    | false => exact iteF ((h1.1 rfl F1 σ H1 hm1 hs1).mono fun _ _ => PostT.after st1)
    | true => exact iteT ⟨F1, m1, h1.2 rfl, hm1, st1⟩)
theorem wt_not {K : Bool → Mem → Prop} (h : WT X a n m fun c m1 => K (!c) m1) : WT X (.UnaryOp .Not a pos) n m K := fun F σ H hm hs => wpT.of (pt_not pt_wp) (h F σ H hm hs)
theorem we_one {op} (h : WE X a n m K) : WE X (.BoolOp op [a] pos) n m K := fun F σ H hm hs => wpE.of (pe_one pe_wp) (h F σ H hm hs)
theorem we_and (h : WE X a n m fun x m1 => ∃ c, x = .d (.bool c) ∧ (c = true → WE X (.BoolOp .And (b :: rest) pos) n m1 K) ∧ (c = false → K (.d (.bool false)) m1)) : WE X (.BoolOp .And (a :: b :: rest) pos) n m K := fun F σ H hm hs =>
  wpE.of (pe_and pe_wp pe_wp) (h.go hm hs fun F1 v H1 x m1 h1 ok hm1 st1 hs1 => by
    obtain ⟨c, rfl, h1, h2⟩ := h1
    refine ⟨c, ok.bl, ?_⟩
    cases c with
    | true => exact iteT ((h1 rfl F1 σ H1 hm1 hs1).mono fun _ _ => PostE.after st1)
    | false => exact iteF ⟨F1, _, m1, h2 rfl, Rp.bl false, hm1, st1⟩)
theorem we_or (h : WE X a n m fun x m1 => ∃ c, x = .d (.bool c) ∧ (c = false → WE X (.BoolOp .Or (b :: rest) pos) n m1 K) ∧ (c = true → K (.d (.bool true)) m1)) : WE X (.BoolOp .Or (a :: b :: rest) pos) n m K := fun F σ H hm hs =>
  wpE.of (pe_or pe_wp pe_wp) (h.go hm hs fun F1 v H1 x m1 h1 ok hm1 st1 hs1 => by
    obtain ⟨c, rfl, h1, h2⟩ := h1
    refine ⟨c, ok.bl, ?_⟩
    cases c with
    | false => exact iteF ((h1 rfl F1 σ H1 hm1 hs1).mono fun _ _ => PostE.after st1)
    | true => exact iteT ⟨F1, _, m1, h2 rfl, Rp.bl true, hm1, st1⟩)
theorem we_not (h : WE X a n m fun x m1 => ∃ c, x = .d (.bool c) ∧ K (.d (.bool (!c))) m1) : WE X (.UnaryOp .Not a pos) n m K := fun F σ H hm hs =>
  wpE.of (pe_not pe_wp) (h.go hm hs fun F1 v H1 x m1 h1 ok hm1 st1 hs1 => by
    obtain ⟨c, rfl, h1⟩ := h1
    exact ⟨c, ok.bl, F1, _, m1, h1, Rp.bl _, hm1, st1⟩)
theorem we_if {c : Expr} (h : WT X c n m fun t m1 => (t = true → WE X a n m1 K) ∧ (t = false → WE X b n m1 K)) : WE X (.IfExp c a b pos) n m K := fun F σ H hm hs =>
  wpE.of (pe_ifExp pt_wp pe_wp pe_wp) (h.go hm hs fun F1 t H1 m1 h1 hm1 st1 hs1 => by
    cases t with
    | true => exact iteT ((h1.1 rfl F1 σ H1 hm1 hs1).mono fun _ _ => PostE.after st1)
    | false => exact iteF ((h1.2 rfl F1 σ H1 hm1 hs1).mono fun _ _ => PostE.after st1))

/-! ### argument lists, displays -/
theorem wa_nil {K : List Ent → Mem → Prop} (k : K [] m) : WA X [] n m K := fun F σ H hm hs => wpA.of pa_nil ⟨F, [], m, k, .nil, hm, .refl⟩
theorem wa_cons {K : List Ent → Mem → Prop} (h : WE X a n m fun x m1 => WA X es n m1 fun xs m2 => K (x :: xs) m2) (hs0 : starEach (a :: es) X.env = (false, eval a X.env) :: starEach es X.env := by rfl) : WA X (a :: es) n m K := fun F σ H hm hs =>
  wpA.of (pa_cons pe_wp pa_wp hs0) (h.go hm hs fun F1 v H1 x m1 h1 ok1 hm1 st1 hs1 => h1.go hm1 hs1 fun F2 vs H2 xs m2 h2 ok2 hm2 st2 hs2 =>
    ⟨F2, x :: xs, m2, h2, .cons (ok1.inc st2.fr) ok2, hm2, st1.trans st2⟩)
/-- a new list, a new tuple of data; a new list that may change -/
theorem post_L {F : Hp} {H : Hp} {p : Addr} {xs : List V} {ds : List PyData} (hm : MOk X.K F m H) (hp : H p = none) (r : RpAll X.K F xs ds) (k : K (.d (.list ds)) m) : PostE X F m H K (.ref p) (upd H p (.lst xs)) :=
  ⟨upd F p (.lst xs), _, m, k, .lst (.inl (.inl upd_same)) (r.inc (Inc.upd (hm.freshF hp))), hm.newF hp, Step.newF hm hp⟩
theorem post_T {F : Hp} {H : Hp} {p : Addr} {xs : List V} {ds : List PyData} (hm : MOk X.K F m H) (hp : H p = none) (r : RpAll X.K F xs ds) (k : K (.d (.tuple ds)) m) : PostE X F m H K (.ref p) (upd H p (.tup xs)) :=
  ⟨upd F p (.tup xs), _, m, k, .tup (.inl (.inl upd_same)) (r.inc (Inc.upd (hm.freshF hp))), hm.newF hp, Step.newF hm hp⟩
theorem post_X {F : Hp} {H : Hp} {p : Addr} {xs : List V} {es : List Ent} (hm : MOk X.K F m H) (hp : H p = none) (r : Ents X.K F xs es) (k : ∀ p, m p = none → K (.x p) (m.put p (.lst es))) : PostE X F m H K (.ref p) (upd H p (.lst xs)) :=
  ⟨F, .x p, _, k p (hm.fresh hp), rfl, hm.newX hp ⟨xs, upd_same, r⟩, Step.newX hp⟩
theorem we_tup {x1} (h : WA X es n m fun as m1 => ∃ ds, as = ds.map .d ∧ ds.length ≤ 100000 ∧ K (.d (.tuple ds)) m1) : WE X (.Tuple es x1 pos) n m K := fun F σ H hm hs =>
  wpE.of (pe_tup pa_wp) (h.go hm hs fun F1 vs H1 as m1 h1 ok1 hm1 st1 hs1 => by
    obtain ⟨ds, rfl, hl, k⟩ := h1
    have r := RpAll.of_ents ok1
    exact ⟨Nat.le_trans (by rw [r.length]; exact hl) (by decide), fun p hp => PostE.after st1 (post_T hm1 hp r k)⟩)
theorem we_lst (h : WA X es n m fun as m1 => ∃ ds, as = ds.map .d ∧ ds.length ≤ 100000 ∧ K (.d (.list ds)) m1) : WE X (.List es pos) n m K := fun F σ H hm hs =>
  wpE.of (pe_lst pa_wp) (h.go hm hs fun F1 vs H1 as m1 h1 ok1 hm1 st1 hs1 => by
    obtain ⟨ds, rfl, hl, k⟩ := h1
    have r := RpAll.of_ents ok1
    exact ⟨Nat.le_trans (by rw [r.length]; exact hl) (by decide), fun p hp => PostE.after st1 (post_L hm1 hp r k)⟩)
/-- a list that may change -/
theorem we_lstX (h : WA X es n m fun as m1 => as.length ≤ 100000 ∧ ∀ p, m1 p = none → K (.x p) (m1.put p (.lst as))) : WE X (.List es pos) n m K := fun F σ H hm hs =>
  wpE.of (pe_lst pa_wp) (h.go hm hs fun F1 vs H1 as m1 h1 ok1 hm1 st1 hs1 =>
    ⟨Nat.le_trans (by rw [Paired.length ok1]; exact h1.1) (by decide), fun p hp => PostE.after st1 (post_X hm1 hp ok1 h1.2)⟩)

/-! ### calls of what is built in -/
variable {x : Str} {p : Pos} {id T : String} {r : List V → Hp → VK → Prop}
theorem we_callB (hc : CallR X (.builtin id) r) (hg : Gl X x) (hmg : X.mg x = none) (hv : bootBuiltins x = some (.builtin id)) (h : WA X (e :: es) n m fun as m1 => RCW X r as m1 K) (hn : x ≠ "__name__" := by decide) (hdb : (x == ("__debug__" : Str)) = false := by decide)
    (he : starEach (e :: es) X.env = (false, eval e X.env) :: starEach es X.env := by rfl) (hpl : (backTo pos (starEach es X.env)).any (·.1) = false := by rfl) : WE X (.Call (.Name x p) (e :: es) [] pos) n m K := fun F σ H hm hs =>
  wpE.of (pe_callB hc hg hmg hv pa_wp hn hdb he hpl) (h.go hm hs fun F1 vs H1 as m1 h1 ok1 hm1 st1 hs1 => h1 F1 H1 vs hm1 ok1 _ fun z H' q => PostE.after st1 q)
theorem we_callTy (hc : CallR X (.type T) r) (hg : Gl X x) (hmg : X.mg x = none) (hv : bootBuiltins x = some (.type T)) (h : WA X (e :: es) n m fun as m1 => RCW X r as m1 K) (hn : x ≠ "__name__" := by decide) (hdb : (x == ("__debug__" : Str)) = false := by decide)
    (he : starEach (e :: es) X.env = (false, eval e X.env) :: starEach es X.env := by rfl) (hpl : (backTo pos (starEach es X.env)).any (·.1) = false := by rfl) : WE X (.Call (.Name x p) (e :: es) [] pos) n m K := fun F σ H hm hs =>
  wpE.of (pe_callTy hc hg hmg hv pa_wp hn hdb he hpl) (h.go hm hs fun F1 vs H1 as m1 h1 ok1 hm1 st1 hs1 => h1 F1 H1 vs hm1 ok1 _ fun z H' q => PostE.after st1 q)

/-! ### data that are read, whether they may change or not -/
def Dat (m : Mem) (x : Ent) (d : PyData) : Prop := x = .d d ∨ ∃ p ds, x = .x p ∧ m p = some (.lst (List.map .d ds)) ∧ d = .list ds
theorem Dat.d {d : PyData} : Dat m (.d d) d := .inl rfl
theorem Dat.ex {p : Addr} {ds : List PyData} (h : m p = some (.lst (List.map .d ds))) : Dat m (.x p) (.list ds) := .inr ⟨p, ds, rfl, h, rfl⟩
theorem Dat.sqL {K : PySem.W.Frag} {F : Hp} {H : Hp} {v : V} {x : Ent} {ds : List PyData} (h : Dat m x (.list ds)) (hm : MOk K F m H) (ok : EntOk K F v x) : ∃ a xs, v = .ref a ∧ SqL K H a xs ∧ RpAll K F xs ds := by
  rcases h with rfl | ⟨p, es, rfl, hp, e⟩
  · obtain ⟨a, xs, e, s, r⟩ := Rp.sqL ok
    exact ⟨a, xs, e, sqLi hm.sub s, r⟩
  · cases e
    obtain ⟨xs, hx, r⟩ := hm.obj p _ hp
    exact ⟨p, xs, ok, .inl (.inl hx), RpAll.of_ents r⟩
theorem dat_sqT {K : PySem.W.Frag} {F : Hp} {H : Hp} {v : V} {ds : List PyData} (hm : MOk K F m H) (ok : EntOk K F v (.d (.tuple ds))) : ∃ a xs, v = .ref a ∧ SqT K H a xs ∧ RpAll K F xs ds := by
  obtain ⟨a, xs, e, s, r⟩ := Rp.sqT ok
  exact ⟨a, xs, e, sqTi hm.sub s, r⟩
theorem Dat.dp {K : PySem.W.Frag} {F : Hp} {H : Hp} {v : V} {x : Ent} {d : PyData} (h : Dat m x d) (hm : MOk K F m H) (ok : EntOk K F v x) (hn : nodict d = true) : Dp K H v d := by
  rcases h with rfl | ⟨p, es, rfl, hp, rfl⟩
  · exact Rp.dp (Rp.inc hm.sub ok) hn
  · obtain ⟨xs, hx, r⟩ := hm.obj p _ hp
    have e : v = .ref p := ok
    subst e
    exact .lst (.inl (.inl hx)) (RpAll.dp ((RpAll.of_ents r).inc hm.sub) (by simpa [nodict] using hn))
end
end Z

/-! Z3: statements, loops, comprehensions, defs. -/
namespace Z
open PySem PySem.Spec L2
set_option linter.all false

section
variable {X : Cx} {e tg iter a b c : Expr} {es : List Expr} {st : Stmt} {sts body : List Stmt} {n : Nm} {m : Mem} {P : KS} {pos : Pos}
/-! ### blocks and small statements -/
theorem wb_nil (k : P (.nx n m)) : WB X [] n m P := fun F σ H hm hs => wpB.of pss_nil (show PostN X F m H _ σ H from ⟨F, n, m, k, hs, hm, .refl⟩)
def seqP (X : Cx) (sts : List Stmt) (P : KS) : KS := fun o => match o with
  | .nx n m => WB X sts n m P
  | o => P o
theorem wb_cons (h : WS X st n m (seqP X sts P)) : WB X (st :: sts) n m P := fun F σ H hm hs =>
  wpB.of (pss_cons ps_wp pb_wp) ((h F σ H hm hs).mono (fun σ' H' ⟨F', n', m', w, hs', hm', st'⟩ => wpB.after st' (w F' σ' H' hm' hs')) (fun _ _ q => q) (fun _ _ q => q) fun _ _ q => q)
theorem ws_pass (k : P (.nx n m)) : WS X (.Pass pos) n m P := fun F σ H hm hs => wpS.of ps_pass (show PostN X F m H _ σ H from ⟨F, n, m, k, hs, hm, .refl⟩)
theorem ws_break (k : P (.bk n m)) : WS X (.Break pos) n m P := fun F σ H hm hs => wpS.of ps_break (show PostN X F m H _ σ H from ⟨F, n, m, k, hs, hm, .refl⟩)
theorem ws_continue (k : P (.ct n m)) : WS X (.Continue pos) n m P := fun F σ H hm hs => wpS.of ps_continue (show PostN X F m H _ σ H from ⟨F, n, m, k, hs, hm, .refl⟩)
theorem ws_doc {x j pos'} (k : P (.nx n m)) : WS X (.Expr (.Constant (.str x) j pos) pos') n m P := fun F σ H hm hs => wpS.of ps_doc (show PostN X F m H _ σ H from ⟨F, n, m, k, hs, hm, .refl⟩)
theorem ws_expr (h : WE X e n m fun _ m1 => P (.nx n m1)) (hsw : swapsWith e none pos.line X.env = pure false := by rfl) : WS X (.Expr e pos) n m P := fun F σ H hm hs =>
  wpS.of (ps_expr pe_wp hsw) (h.go hm hs fun F1 v H1 r m1 k ok hm1 st1 hs1 => (show PostN X F m H _ σ H1 from ⟨F1, n, m1, k, hs1, hm1, st1⟩))
theorem ws_ret (h : WE X e n m fun r m1 => P (.rt r m1)) : WS X (.Return (some e) pos) n m P := fun F σ H hm hs => wpS.of (ps_ret pe_wp) (h F σ H hm hs)
theorem ws_retN (k : P (.rt (.d .none) m)) : WS X (.Return none pos) n m P := fun F σ H hm hs => wpS.of ps_retN (show PostE X F m H _ .non H from PostE.here k Rp.non hm)
theorem ws_if (h : WT X c n m fun t m1 => (t = true → WB X sts n m1 P) ∧ (t = false → WB X body n m1 P)) : WS X (.If c sts body pos) n m P := fun F σ H hm hs =>
  wpS.of (ps_if pt_wp pb_wp pb_wp) (h.go hm hs fun F1 t H1 m1 h1 hm1 st1 hs1 => by
    cases t with
    | true => exact iteT (wpB.after st1 (h1.1 rfl F1 σ H1 hm1 hs1))
    | false => exact iteF (wpB.after st1 (h1.2 rfl F1 σ H1 hm1 hs1)))

/-! ### targets -/
theorem Tou.set {σ : St} {vs : List Nat} {i : Nat} {v : Option V} (h : i ∈ vs) : Tou vs σ (σ.set i v) := ⟨List.length_set, fun j hj => List.getElem?_set_ne fun e => hj (by rw [← e]; exact h)⟩
theorem Tou.refl {σ : St} {vs : List Nat} : Tou vs σ σ := ⟨rfl, fun _ _ => rfl⟩
theorem Tou.trans {σ σ1 σ2 : St} {vs : List Nat} (h : Tou vs σ σ1) (k : Tou vs σ1 σ2) : Tou vs σ σ2 := ⟨k.1.trans h.1, fun j hj => (k.2 j hj).trans (h.2 j hj)⟩
theorem wg_name {x : Str} {vs : List Nat} {r : Ent} {K : Nm → Prop} (i : Nat) (hN : X.N.Nodup) (hi : X.N[i]? = some x) (hx : Loc X.env.scope x) (k : K (n.set i (some r))) (hv : i ∈ vs := by simp) (hf : X.fn x = true ∨ X.env.scope.names.lookup x = some .local := by first | exact .inl rfl | exact .inr rfl | assumption) : WG X (.Name x pos) vs r n K := fun F σ H v hi0 ok hs =>
  wpG.of (pg_name hN hi hx hf) (show _ ∧ _ from ⟨rfl, Tou.set hv, _, k, hs.set ok⟩)
theorem wgs_nil {vs : List Nat} {K : Nm → Prop} (k : K n) : WGs X [] vs [] n K := fun F σ H us _ r hs => wpGs.of pgs_nil (by
  cases r
  exact ⟨rfl, rfl, Tou.refl, n, k, hs⟩)
theorem wgs_cons {vs : List Nat} {d : PyData} {ds : List PyData} {K : Nm → Prop} (h : WG X e vs (.d d) n fun n1 => WGs X es vs ds n1 K) (h0 : (assignEach (e :: es) X.env).map (·.2) = assign e X.env :: (assignEach es X.env).map (·.2) := by rfl) : WGs X (e :: es) vs (d :: ds) n K := fun F σ H us hi r hs =>
  wpGs.of (pgs_cons pg_wp pgs_wp h0) (by
    cases r with
    | cons r1 rr =>
      refine ⟨_, _, rfl, (h F σ H _ hi r1 hs).mono fun σ1 H1 ⟨e1, t1, n1, k1, hs1⟩ => ?_⟩
      subst e1
      exact (k1 F σ1 H1 _ hi rr hs1).mono fun σ2 H2 ⟨e2, t2, n2, k2, hs2⟩ => ⟨e2, t1.trans t2, n2, k2, hs2⟩)
theorem wg_tup {vs : List Nat} {ds : List PyData} {k0 : Nat} {K : Nm → Prop} (hc : X.calm = true) (h : WGs X es vs ds n K) (hl : ds.length = es.length)
    (hn : (assignEach es X.env).length = es.length := by rfl) (hst : (assignEach es X.env).findIdx? (·.1) = none := by rfl) : WG X (.Tuple es k0 pos) vs (.d (.tuple ds)) n K := fun F σ H v hi ok hs =>
  wpG.of (pg_tup hc pgs_wp hn hst) (by
    obtain ⟨a, xs, e, sq, r⟩ := Rp.sqT ok
    exact ⟨a, xs, e, sqTi hi sq, by rw [r.length, hl], h F σ H xs hi r hs⟩)
theorem ws_asg {vs : List Nat} (h : WE X e n m fun r m1 => WG X tg vs r n fun n' => P (.nx n' m1)) (h1 : swapsWithSole [tg] e pos.line X.env = pure false := by rfl) (h2 : swappedStores [tg] e X.env = pure none := by rfl)
    (h3 : (assignEach [tg] X.env).map (·.2) = [assign tg X.env] := by rfl) : WS X (.Assign [tg] e pos) n m P := fun F σ H hm hs =>
  wpS.of (ps_asg pe_wp pg_wp h1 h2 h3) (h.go hm hs fun F1 v H1 r m1 k ok hm1 st1 hs1 => (k F1 σ H1 v hm1.sub ok hs1).mono fun σ' H' ⟨e1, _, n', k', hs'⟩ => by
    subst e1
    exact (show PostN X F m H _ σ' H' from ⟨F1, n', m1, k', hs', hm1, st1⟩))
theorem ws_set {x : Str} {pos' : Pos} (i : Nat) (hN : X.N.Nodup) (hi : X.N[i]? = some x) (hx : Loc X.env.scope x) (h : WE X e n m fun r m1 => P (.nx (n.set i (some r)) m1)) (hsw : swapsWith e (some (.Name x pos')) pos.line X.env = pure false := by rfl)
    (hf : X.fn x = true ∨ X.env.scope.names.lookup x = some .local := by first | exact .inl rfl | exact .inr rfl | assumption) : WS X (.Assign [.Name x pos'] e pos) n m P := fun F σ H hm hs =>
  wpS.of (ps_set hN hi hx pe_wp hsw hf) (h.go hm hs fun F1 v H1 r m1 k ok hm1 st1 hs1 => (show PostN X F m H _ (σ.set i (some v)) H1 from ⟨F1, _, m1, k, hs1.set ok, hm1, st1⟩))
theorem ws_par {x y : Str} {px py pt : Pos} {kt k2 pt2} (i j : Nat) (hc : X.calm = true) (hN : X.N.Nodup) (hi : X.N[i]? = some x) (hj : X.N[j]? = some y) (hij : i ≠ j) (hx : X.env.scope.names.lookup x = some .local) (hy : X.env.scope.names.lookup y = some .local)
    (h : WA X [a, b] n m fun rs m1 => ∃ r u, rs = [r, u] ∧ P (.nx ((n.set i (some r)).set j (some u)) m1))
    (hw : swappedStores [.Tuple [.Name x px, .Name y py] kt pt] (.Tuple [a, b] k2 pt2) X.env = pure (some [x, y]))
    (hs1 : swapsWithSole [.Tuple [.Name x px, .Name y py] kt pt] (.Tuple [a, b] k2 pt2) pos.line X.env = pure false := by rfl) : WS X (.Assign [.Tuple [.Name x px, .Name y py] kt pt] (.Tuple [a, b] k2 pt2) pos) n m P := fun F σ H hm hs =>
  wpS.of (ps_par hc hN hi hj hij hx hy pa_wp hw hs1) (h.go hm hs fun F1 vs H1 rs m1 k ok hm1 st1 hs1 => by
    obtain ⟨r, u, rfl, k⟩ := k
    cases ok with
    | cons o1 t =>
      cases t with
      | cons o2 t =>
        cases t
        exact ⟨_, _, rfl, (show PostN X F m H _ _ H1 from ⟨F1, _, m1, k, (hs1.set o1).set o2, hm1, st1⟩)⟩)

/-! ### what is walked -/
/-- the iterator gives these data, one after another, whatever changes in the memory meanwhile -/
def Yld (X : Cx) (J : It) (ds : List PyData) (F : Hp) (m : Mem) (H : Hp) : Prop :=
  ∀ F2 m2 H2, MOk X.K F2 m2 H2 → Step F m H F2 m2 H2 → ∀ i, (∀ d, ds[i]? = some d → J.go i H2 ∧ ∀ x H3, J.yld i H2 x H3 → ∃ F3, Rp X.K F3 x d ∧ MOk X.K F3 m2 H3 ∧ Step F2 m2 H2 F3 m2 H3) ∧ (ds.length ≤ i → J.stop i H2)
def WI (X : Cx) (tg iter : Expr) (n : Nm) (m : Mem) (K : List PyData → Mem → Prop) : Prop := ∀ F σ H, MOk X.K F m H → Slots X.K F σ n → wpI X tg iter σ H fun J H1 => ∃ F1 m1 ds, K ds m1 ∧ MOk X.K F1 m1 H1 ∧ Step F m H F1 m1 H1 ∧ Yld X J ds F1 m1 H1
theorem wi_list {K : List PyData → Mem → Prop} (h : WE X iter n m fun r m1 => ∃ ds, r = .d (.list ds) ∧ K ds m1) : WI X tg iter n m K := fun F σ H hm hs =>
  wpI.of (pi_list pe_wp) (h.go hm hs fun F1 v H1 r m1 k ok hm1 st1 hs1 => by
    obtain ⟨ds, rfl, k⟩ := k
    obtain ⟨a, xs, e, sq, rr⟩ := Rp.sqL ok
    refine ⟨a, e, ⟨xs, sqLi hm1.sub sq⟩, F1, m1, ds, k, hm1, st1, fun F2 m2 H2 hm2 st2 i => ⟨fun d hd => ?_, fun hl => ⟨xs, sqLi hm2.sub (sqLi st2.fr sq), by rw [rr.length]; exact hl⟩⟩⟩
    obtain ⟨x, hx, rx⟩ := rr.get hd
    refine ⟨⟨xs, x, sqLi hm2.sub (sqLi st2.fr sq), hx⟩, fun y H3 hy => ?_⟩
    obtain ⟨rfl, hy⟩ := hy
    have := hy xs (sqLi hm2.sub (sqLi st2.fr sq))
    rw [hx] at this
    cases this
    exact ⟨F2, rx.inc st2.fr, hm2, .refl⟩)
theorem wi_tup {K : List PyData → Mem → Prop} (h : WE X iter n m fun r m1 => ∃ ds, r = .d (.tuple ds) ∧ K ds m1) : WI X tg iter n m K := fun F σ H hm hs =>
  wpI.of (pi_tup pe_wp) (h.go hm hs fun F1 v H1 r m1 k ok hm1 st1 hs1 => by
    obtain ⟨ds, rfl, k⟩ := k
    obtain ⟨a, xs, e, sq, rr⟩ := Rp.sqT ok
    refine ⟨a, e, ⟨xs, sqTi hm1.sub sq⟩, F1, m1, ds, k, hm1, st1, fun F2 m2 H2 hm2 st2 i => ⟨fun d hd => ?_, fun hl => ⟨xs, sqTi hm2.sub (sqTi st2.fr sq), by rw [rr.length]; exact hl⟩⟩⟩
    obtain ⟨x, hx, rx⟩ := rr.get hd
    refine ⟨⟨xs, x, sqTi hm2.sub (sqTi st2.fr sq), hx⟩, fun y H3 hy => ?_⟩
    obtain ⟨rfl, hy⟩ := hy
    have := hy xs (sqTi hm2.sub (sqTi st2.fr sq))
    rw [hx] at this
    cases this
    exact ⟨F2, rx.inc st2.fr, hm2, .refl⟩)
/-- lo, lo + 1, .. -/
def intsD (lo : Int) (k : Nat) : List PyData := (List.range k).map fun (i : Nat) => .int (lo + (i : Int))
theorem intsD_length {lo : Int} {k : Nat} : (intsD lo k).length = k := by unfold intsD; rw [List.length_map, List.length_range]
theorem intsD_get {lo : Int} {k i : Nat} {d : PyData} (h : (intsD lo k)[i]? = some d) : i < k ∧ d = .int (lo + (i : Int)) := by
  unfold intsD at h
  rw [List.getElem?_map] at h
  by_cases hi : i < k
  · rw [List.getElem?_range hi] at h
    cases h
    exact ⟨hi, rfl⟩
  · rw [List.getElem?_eq_none (by rw [List.length_range]; omega)] at h
    cases h
theorem yld_range {lo : Int} {k : Nat} {F : Hp} {H : Hp} : Yld X (Itr lo k) (intsD lo k) F m H := fun F2 m2 H2 hm2 st2 i => ⟨fun d hd => by
    obtain ⟨hi, rfl⟩ := intsD_get hd
    exact ⟨hi, fun x H3 ⟨e1, e2⟩ => by subst e1 e2; exact ⟨F2, .int _, hm2, .refl⟩⟩, fun hl => by rw [intsD_length] at hl; exact hl⟩
theorem wi_rng1 {p : Pos} {K : List PyData → Mem → Prop} (hg : Gl X "range") (hmg : X.mg "range" = none) (h : WA X [a] n m fun rs m1 => ∃ j : Int, rs = [.d (.int j)] ∧ j ≤ 1000000000000 ∧ -1000000000000 ≤ j ∧ K (intsD 0 j.toNat) m1)
    (hs0 : starEach [a] X.env = [(false, eval a X.env)] := by rfl) : WI X tg (.Call (.Name "range" p) [a] [] pos) n m K := fun F σ H hm hs =>
  wpI.of (pi_range1 hg hmg pa_wp hs0) (h.go hm hs fun F1 vs H1 rs m1 k ok hm1 st1 hs1 => by
    obtain ⟨j, rfl, h1, h2, k⟩ := k
    cases ok with
    | cons o t =>
      cases t
      have e := EntOk.int o
      subst e
      exact ⟨j, rfl, by omega, by omega, F1, m1, _, k, hm1, st1, yld_range⟩)
theorem wi_rng2 {p : Pos} {K : List PyData → Mem → Prop} (hg : Gl X "range") (hmg : X.mg "range" = none) (h : WA X [a, b] n m fun rs m1 => ∃ i j : Int, rs = [.d (.int i), .d (.int j)] ∧ (i ≤ 10 ^ 18 ∧ -(10 ^ 18) ≤ i ∧ j ≤ 10 ^ 18 ∧ -(10 ^ 18) ≤ j) ∧ K (intsD i (j - i).toNat) m1)
    (hs0 : starEach [a, b] X.env = [(false, eval a X.env), (false, eval b X.env)] := by rfl) (hs2 : starEach [b] X.env = [(false, eval b X.env)] := by rfl) : WI X tg (.Call (.Name "range" p) [a, b] [] pos) n m K := fun F σ H hm hs =>
  wpI.of (pi_range2 hg hmg pa_wp hs0 hs2) (h.go hm hs fun F1 vs H1 rs m1 k ok hm1 st1 hs1 => by
    obtain ⟨i, j, rfl, ⟨h1, h2, h3, h4⟩, k⟩ := k
    cases ok with
    | cons o t =>
      cases t with
      | cons o2 t =>
        cases t
        have e := EntOk.int o
        have e2 := EntOk.int o2
        subst e e2
        exact ⟨i, j, rfl, ⟨by omega, by omega, by omega, by omega⟩, F1, m1, _, k, hm1, st1, yld_range⟩)

/-! ### for -/
def loopP (I : Nat → Nm → Mem → Prop) (j : Nat) (P : KS) : KS := fun o => match o with
  | .nx n m => I j n m
  | .ct n m => I j n m
  | .bk n m => P (.nx n m)
  | .rt r m => P (.rt r m)
theorem ws_for {vs : List Nat} (hp : PassesOwn (model X.prog X.w) X.A X.env X.xe) (hc : X.calm = true)
    (h : WI X tg iter n m fun ds m1 => ∃ I : Nat → Nm → Mem → Prop, I 0 n m1 ∧ (∀ i d n' m', ds[i]? = some d → I i n' m' → WG X tg vs (.d d) n' fun n2 => WB X body n2 m' (loopP I (i + 1) P)) ∧ ∀ n' m', I ds.length n' m' → P (.nx n' m'))
    (hf : ∀ x, foldedSetIterable iter X.env x = pure x := by intro _; rfl) : WS X (.For tg iter body [] pos) n m P := fun F σ H hm hs => by
  refine wpS.of (ps_for hp hc pi_wp pg_wp pb_wp hf) ((h F σ H hm hs).mono fun J H1 ⟨F1, m1, ds, ⟨I, i0, turn, fin⟩, hm1, st1, yl⟩ => ?_)
  refine ⟨fun i mm σ' H' => mm = ds.length - i ∧ i ≤ ds.length ∧ PostN X F1 m1 H1 (I i) σ' H', ⟨_, rfl, Nat.zero_le _, F1, n, m1, i0, hs.inc st1.fr, hm1, .refl⟩, ?_⟩
  rintro i mm σ' H' ⟨rfl, hi, F', n', m', inv, hs', hm', st'⟩
  obtain ⟨y1, y2⟩ := yl F' m' H' hm' st' i
  by_cases hlt : i < ds.length
  · obtain ⟨go, y1⟩ := y1 ds[i] (List.getElem?_eq_getElem hlt)
    refine .inr ⟨go, PostN X F1 m1 H1 (I (i + 1)), fun σ2 H2 q => ⟨_, by omega, rfl, hlt, q⟩, fun x H3 hy => ?_⟩
    obtain ⟨F3, rx, hm3, st3⟩ := y1 x H3 hy
    refine (turn i ds[i] n' m' (List.getElem?_eq_getElem hlt) inv F3 σ' H3 x hm3.sub rx (hs'.inc st3.fr)).mono fun σ2 H2 ⟨e, _, n2, w, hs2⟩ => ?_
    subst e
    have s2 := st'.trans st3
    exact (w F3 σ2 H2 hm3 hs2).mono (fun _ _ q => PostN.after s2 q) (fun _ _ q => PostE.after (st1.trans s2) q) (fun _ _ q => PostN.after (st1.trans s2) q) fun _ _ q => PostN.after s2 q
  · have e : i = ds.length := by omega
    subst e
    exact .inl ⟨y2 (Nat.le_refl _), F', n', m', fin n' m' inv, hs', hm', st1.trans st'⟩
/-- while, by a measure -/
theorem ws_while (hp : PassesOwn (model X.prog X.w) X.A X.env X.xe) (I : Nat → Nm → Mem → Prop) (h0 : ∃ k, I k n m)
    (h : ∀ k n' m', I k n' m' → WT X c n' m' fun t m1 => (t = true → WB X body n' m1 fun o => match o with
      | .nx n2 m2 => ∃ k', k' < k ∧ I k' n2 m2
      | .ct n2 m2 => ∃ k', k' < k ∧ I k' n2 m2
      | .bk n2 m2 => P (.nx n2 m2)
      | .rt r m2 => P (.rt r m2)) ∧ (t = false → P (.nx n' m1))) : WS X (.While c body [] pos) n m P := fun F σ H hm hs => by
  obtain ⟨k0, i0⟩ := h0
  refine wpS.of (ps_while hp pt_wp pb_wp) ⟨fun k σ' H' => PostN X F m H (I k) σ' H', ⟨k0, F, n, m, i0, hs, hm, .refl⟩, ?_⟩
  rintro k σ' H' ⟨F', n', m', inv, hs', hm', st'⟩
  refine (h k n' m' inv).go hm' hs' fun F1 t H1 m1 h1 hm1 st1 hs1 => ?_
  have s1 := st'.trans st1
  cases t with
  | true =>
    refine iteT ⟨fun σ2 H2 => ∃ k', k' < k ∧ PostN X F m H (I k') σ2 H2, fun _ _ q => q, ?_⟩
    exact (h1.1 rfl F1 σ' H1 hm1 hs1).mono (fun _ _ ⟨F2, n2, m2, ⟨k', hk, q⟩, z1, z2, z3⟩ => ⟨k', hk, F2, n2, m2, q, z1, z2, s1.trans z3⟩) (fun _ _ q => PostE.after s1 q) (fun _ _ q => PostN.after s1 q) fun _ _ ⟨F2, n2, m2, ⟨k', hk, q⟩, z1, z2, z3⟩ => ⟨k', hk, F2, n2, m2, q, z1, z2, s1.trans z3⟩
  | false => exact iteF ⟨F1, n', m1, h1.2 rfl, hs1, hm1, s1⟩

/-! ### list comprehensions -/
def wipeN (n : Nm) : List Nat → Nm
  | [] => n
  | v :: vs => (wipeN n vs).set v none
theorem slots_none {K : PySem.W.Frag} {F : Hp} {σ : St} {n : Nm} (h : Slots K F σ n) (i : Nat) : Slots K F (σ.set i none) (n.set i none) := by
  refine ⟨by rw [List.length_set, List.length_set]; exact h.1, fun j q hq => ?_⟩
  by_cases hj : i = j
  · subst hj
    by_cases hl : i < n.length
    · rw [List.getElem?_set_self hl] at hq; cases hq
    · rw [List.getElem?_eq_none (by rw [List.length_set]; omega)] at hq; cases hq
  · rw [List.getElem?_set_ne hj] at hq
    obtain ⟨u, h1, h2⟩ := h.2 j q hq
    exact ⟨u, by rw [List.getElem?_set_ne hj]; exact h1, h2⟩
theorem slots_wipe {K : PySem.W.Frag} {F : Hp} {σ : St} {n : Nm} (h : Slots K F σ n) : ∀ vs, Slots K F (wipe σ vs) (wipeN n vs)
  | [] => h
  | v :: vs => slots_none (slots_wipe h vs) v
theorem wipe_in {σ : St} {i : Nat} : ∀ {vs : List Nat}, i ∈ vs → i < σ.length → (wipe σ vs)[i]? = some none
  | v :: vs, h, hl => by
    unfold wipe
    by_cases hv : v = i
    · subst hv
      rw [List.getElem?_set_self (by rw [wipe_length]; exact hl)]
    · rw [List.getElem?_set_ne hv]
      exact wipe_in (by simpa [Ne.symm hv] using h) hl
theorem wipe_tou {σ σ' : St} {vs : List Nat} (h : Tou vs (wipe σ vs) σ') : wipe σ' vs = wipe σ vs := by
  have hl : σ'.length = σ.length := h.1.trans (wipe_length σ vs)
  apply List.ext_getElem?
  intro j
  by_cases hj : j ∈ vs
  · by_cases hs : j < σ.length
    · rw [wipe_in hj (by rw [hl]; exact hs), wipe_in hj hs]
    · rw [List.getElem?_eq_none (by rw [wipe_length, hl]; omega), List.getElem?_eq_none (by rw [wipe_length]; omega)]
  · rw [wipe_out hj, h.2 j hj]
theorem MOk.frame {K : PySem.W.Frag} {F H : Hp} {m : Mem} {D : Addr} {o : HO} (h : MOk K F m H) (hF : F D = none) (hD : m D = none) : MOk K F m (upd H D o) :=
  ⟨fun a u e => by rw [upd_ne (ne_of_none e hF)]; exact h.sub a u e, h.out, fun a u e => XOk.inc (fun _ _ z => z) (fun w hw => by
    have ha : a ≠ D := fun q => by rw [q, hD] at e; cases e
    rw [upd_ne ha]; exact hw) (h.obj a u e)⟩
theorem Step.off {F H F' H' : Hp} {m m' : Mem} {D : Addr} (s : Step F m H F' m' H') (h1 : H D ≠ none) (h2 : F D = none) (h3 : m D = none) : F' D = none ∧ m' D = none := by
  constructor
  · cases q : F' D with
    | none => rfl
    | some u =>
      rcases s.nf D h2 (by rw [q]; exact fun z => nomatch z) with z | z
      · exact absurd z h1
      · exact absurd h3 z
  · cases q : m' D with
    | none => rfl
    | some u => exact absurd (s.nm D h3 (by rw [q]; exact fun z => nomatch z)) h1
/-- the block's context -/
abbrev Bk (X : Cx) (scope : Scope) (s : Shared) (H : Hp) (C : Addr) (cl : List (Str × Addr)) (fp : List Addr) : Cx := X.blk s H scope (compEnvC scope cl C X.env) fp
def WTs (X : Cx) (ifs : List Expr) (n : Nm) (m : Mem) (K : Bool → Mem → Prop) : Prop := match ifs with
  | [] => K true m
  | [c] => WT X c n m K
  | _ => False
/-- the words of a comprehension: I by the turn, the list so far and the memory -/
def LcW (X : Cx) (tg elt : Expr) (ifs : List Expr) (scope : Scope) (vs : List Nat) (n : Nm) (ds : List PyData) (I : Nat → List Ent → Mem → Prop) : Prop :=
  ∀ i d acc m', ds[i]? = some d → I i acc m' → acc.length < 16777216 ∧ ∀ s0 H0 C cl fp, WG (Bk X scope s0 H0 C cl fp) tg vs (.d d) (wipeN n vs) fun n2 => ∀ s0 H0 C cl fp, WTs (Bk X scope s0 H0 C cl fp) ifs n2 m' fun b m2 =>
    (b = true → ∀ s0 H0 C cl fp, WE (Bk X scope s0 H0 C cl fp) elt n2 m2 fun r m3 => I (i + 1) (acc ++ [r]) m3) ∧ (b = false → I (i + 1) acc m2)
def tgB (X : Cx) (scope : Scope) (tg : Expr) : TG := fun v σ H Q => ∀ s0 H0 C cl fp, wpG (Bk X scope s0 H0 C cl fp) tg v σ H Q
def teB (X : Cx) (scope : Scope) (e : Expr) : TE := fun σ H Q => ∀ s0 H0 C cl fp, wpE (Bk X scope s0 H0 C cl fp) e σ H Q
def ttB (X : Cx) (scope : Scope) (ifs : List Expr) : TT := fun σ H Q => match ifs with
  | [] => Q true H
  | [c] => ∀ s0 H0 C cl fp, wpT (Bk X scope s0 H0 C cl fp) c σ H Q
  | _ => False
theorem pts_B {scope : Scope} {ifs : List Expr} (s0 : Shared) (H0 : Hp) (C : Addr) (cl : List (Str × Addr)) (fp : List Addr) : PTs (Bk X scope s0 H0 C cl fp) ifs (ttB X scope ifs) := by
  match ifs with
  | [] => exact pts_nil
  | [c] => exact pts_one ⟨fun pins s _ _ _ I h => h s0 H0 C cl fp pins s I⟩
  | _ :: _ :: _ => exact ⟨fun _ _ _ _ _ _ h => h.elim⟩
end
end Z

/-! Z4: comprehensions, defs and their calls, the end. -/
namespace Z
open PySem PySem.Spec L2
set_option linter.all false
section
variable {X : Cx} {tg iter elt : Expr} {ifs : List Expr} {scope : Scope} {own : List (Str × Nat)} {vs : List Nat} {n : Nm} {m : Mem} {K : KE} {pos : Pos}
/-- an invariant's end -/
def LcEnd (X : Cx) (tg elt : Expr) (ifs : List Expr) (scope : Scope) (vs : List Nat) (n : Nm) (Z : List Ent → Mem → Prop) (ds : List PyData) (m1 : Mem) : Prop :=
  ∃ I : Nat → List Ent → Mem → Prop, I 0 [] m1 ∧ LcW X tg elt ifs scope vs n ds I ∧ ∀ acc m', I ds.length acc m' → Z acc m'
theorem lc_go {F : Hp} {σ : St} {H : Hp} {Z : List Ent → Mem → Prop} (hm : MOk X.K F m H) (hs : Slots X.K F σ n) (h : WI X tg iter n m (LcEnd X tg elt ifs scope vs n Z)) {Q : VK}
    (k : ∀ D H' F' m' acc xs, Z acc m' → MOk X.K F' m' H' → Step F m H F' m' H' → H' D = some (.lst xs) → Ents X.K F' xs acc → F' D = none → m' D = none → (H D = none ∨ m D ≠ none) → Q (.ref D) H') :
    tLc (wpI X tg iter) (tgB X scope tg) (ttB X scope ifs) (teB X scope elt) vs σ H Q := by
  refine (h F σ H hm hs).mono fun J H1 ⟨F1, m1, ds, ⟨I, i0, turn, fin⟩, hm1, st1, yl⟩ D hD => ?_
  have hs1 := hs.inc st1.fr
  have fD := hm1.freshF hD
  have mD := hm1.fresh hD
  have HD : H D = none ∨ m D ≠ none := by
    cases q : H D with
    | none => exact .inl rfl
    | some o =>
      refine .inr fun z => ?_
      rw [st1.st D o q z] at hD
      cases hD
  refine ⟨fun i mm H' => mm = ds.length - i ∧ i ≤ ds.length ∧ ∃ F' m' acc xs, I i acc m' ∧ MOk X.K F' m' H' ∧ Step F1 m1 H1 F' m' H' ∧ H' D = some (.lst xs) ∧ Ents X.K F' xs acc ∧ F' D = none ∧ m' D = none, ⟨_, rfl, Nat.zero_le _, F1, m1, [], [], i0, hm1.frame fD mD, ⟨fun _ _ z => z, fun a o e _ => by rw [upd_ne (ne_of_none e hD)]; exact e, fun _ e z => absurd e z, fun _ e z => absurd e z⟩, upd_same, .nil, fD, mD⟩, ?_⟩
  rintro i mm H' ⟨rfl, hi, F', m', acc, xs, inv, hm', st', hx, rx, fD', mD'⟩
  obtain ⟨y1, y2⟩ := yl F' m' H' hm' st' i
  by_cases hlt : i < ds.length
  · have hg := List.getElem?_eq_getElem hlt
    obtain ⟨go, y1⟩ := y1 ds[i] hg
    refine .inr ⟨go, fun H2 => ∃ F' m' acc xs, I (i + 1) acc m' ∧ MOk X.K F' m' H2 ∧ Step F1 m1 H1 F' m' H2 ∧ H2 D = some (.lst xs) ∧ Ents X.K F' xs acc ∧ F' D = none ∧ m' D = none, fun H2 q => ⟨_, by omega, rfl, hlt, q⟩, fun x H3 hy => ?_⟩
    obtain ⟨F3, rd, hm3, st3⟩ := y1 x H3 hy
    obtain ⟨hl, tgw⟩ := turn i ds[i] acc m' hg inv
    have hxn : H' D ≠ none := by rw [hx]; exact fun z => nomatch z
    have hx3 := st3.st D _ hx mD'
    obtain ⟨fD3, mD3⟩ := st3.off hxn fD' mD'
    intro s0 H0 C cl fp
    refine (tgw s0 H0 C cl fp F3 (wipe σ vs) H3 x hm3.sub rd (slots_wipe (hs1.inc (fun a o e => st3.fr a o (st'.fr a o e))) vs)).mono fun σ2 H2 ⟨e, tou, n2, w2, hs2⟩ => ?_
    subst e
    refine ⟨wipe_tou tou, ?_⟩
    have s3 := st'.trans st3
    have elem : ∀ F4 b H4 m4, (b = true → ∀ s0 H0 C cl fp, WE (Bk X scope s0 H0 C cl fp) elt n2 m4 fun r m3 => I (i + 1) (acc ++ [r]) m3) ∧ (b = false → I (i + 1) acc m4) → MOk X.K F4 m4 H4 → Step F3 m' H2 F4 m4 H4 → Slots X.K F4 σ2 n2 →
        if b = true then teB X scope elt σ2 H4 (fun y H5 => ∃ acc, H5 D = some (.lst acc) ∧ acc.length < sizeLine ∧ ∃ F' m' acc', ∃ xs, I (i + 1) acc' m' ∧ MOk X.K F' m' (upd H5 D (.lst (acc ++ [y]))) ∧ Step F1 m1 H1 F' m' (upd H5 D (.lst (acc ++ [y]))) ∧ (upd H5 D (.lst (acc ++ [y]))) D = some (.lst xs) ∧ Ents X.K F' xs acc' ∧ F' D = none ∧ m' D = none)
        else ∃ F' m' acc xs, I (i + 1) acc m' ∧ MOk X.K F' m' H4 ∧ Step F1 m1 H1 F' m' H4 ∧ H4 D = some (.lst xs) ∧ Ents X.K F' xs acc ∧ F' D = none ∧ m' D = none := by
      intro F4 b H4 m4 hb hm4 st4 hs4
      have hx3n : H2 D ≠ none := by rw [hx3]; exact fun z => nomatch z
      have hx4 := st4.st D _ hx3 mD3
      obtain ⟨fD4, mD4⟩ := st4.off hx3n fD3 mD3
      have s4 := s3.trans st4
      cases b with
      | false => exact iteF ⟨F4, m4, acc, xs, hb.2 rfl, hm4, s4, hx4, rx.inc (fun a o e => st4.fr a o (st3.fr a o e)), fD4, mD4⟩
      | true =>
        refine iteT fun s0 H0 C cl fp => ?_
        refine (hb.1 rfl s0 H0 C cl fp F4 σ2 H4 hm4 hs4).mono fun y H5 ⟨F5, r, m5, k5, ok5, hm5, st5⟩ => ?_
        have hx4n : H4 D ≠ none := by rw [hx4]; exact fun z => nomatch z
        have hx5 := st5.st D _ hx4 mD4
        obtain ⟨fD5, mD5⟩ := st5.off hx4n fD4 mD4
        have s5 := s4.trans st5
        have rx5 := rx.inc (F' := F5) (fun a o e => st5.fr a o (st4.fr a o (st3.fr a o e)))
        refine ⟨xs, hx5, by rw [Paired.length rx, sizeLine_eq]; exact hl, F5, m5, acc ++ [r], xs ++ [y], k5, hm5.frame fD5 mD5, ?_, upd_same, Paired.snoc rx5 ok5, fD5, mD5⟩
        refine ⟨s5.fr, fun a o e hma => ?_, s5.nf, s5.nm⟩
        rw [upd_ne (ne_of_none e hD)]
        exact s5.st a o e hma
    match ifs, w2 with
    | [], w2 =>
      exact elem F3 true H2 m' (w2 s0 H0 C cl fp) hm3 .refl hs2
    | [c], w2 =>
      intro s0 H0 C cl fp
      have w3 : WT (Bk X scope s0 H0 C cl fp) c n2 m' _ := w2 s0 H0 C cl fp
      exact w3.go hm3 hs2 fun F4 b H4 m4 hb hm4 st4 hs4 => elem F4 b H4 m4 hb hm4 st4 hs4
    | _ :: _ :: _, w2 => exact (w2 s0 H0 C cl fp).elim
  · have e : i = ds.length := by omega
    subst e
    exact .inl ⟨y2 (Nat.le_refl _), k D H' F' m' acc xs (fin acc m' inv) hm' (st1.trans st') hx rx fD' mD' HD⟩
theorem lc_data {F : Hp} {H : Hp} {D : Addr} {H' F' : Hp} {m' : Mem} {ds : List PyData} {xs : List V} (k : K (.d (.list ds)) m') (hm' : MOk X.K F' m' H') (st' : Step F m H F' m' H') (hx : H' D = some (.lst xs)) (rx : Ents X.K F' xs (ds.map .d)) (fD : F' D = none) (mD : m' D = none) (hD : H D = none ∨ m D ≠ none) :
    PostE X F m H K (.ref D) H' := by
  have inc : Inc F' (upd F' D (.lst xs)) := Inc.upd fD
  refine ⟨upd F' D (.lst xs), _, m', k, .lst (.inl (.inl upd_same)) ((RpAll.of_ents rx).inc inc), ⟨fun a o e => ?_, fun a o e => ?_, fun a o e => XOk.inc inc (fun _ z => z) (hm'.obj a o e)⟩, ⟨fun a o e => inc a o (st'.fr a o e), st'.st, fun a e z => ?_, st'.nm⟩⟩
  · by_cases ha : a = D
    · subst ha; rw [upd_same] at e; cases e; exact hx
    · rw [upd_ne ha] at e; exact hm'.sub a o e
  · have ha : a ≠ D := fun q => by rw [q, mD] at e; cases e
    rw [upd_ne ha]
    exact hm'.out a o e
  · by_cases ha : a = D
    · subst ha; exact hD
    · rw [upd_ne ha] at z; exact st'.nf a e z
theorem lc_mem {F : Hp} {H : Hp} {D : Addr} {H' F' : Hp} {m' : Mem} {es : List Ent} {xs : List V} (k : K (.x D) (m'.put D (.lst es))) (hm' : MOk X.K F' m' H') (st' : Step F m H F' m' H') (hx : H' D = some (.lst xs)) (rx : Ents X.K F' xs es) (fD : F' D = none) (mD : m' D = none) (hD : H D = none ∨ m D ≠ none) :
    PostE X F m H K (.ref D) H' := by
  refine ⟨F', .x D, _, k, rfl, ⟨hm'.sub, fun a o e => ?_, fun a o e => ?_⟩, ⟨st'.fr, st'.st, st'.nf, fun a e z => ?_⟩⟩
  · by_cases ha : a = D
    · subst ha; exact fD
    · rw [Mem.put_ne ha] at e; exact hm'.out a o e
  · by_cases ha : a = D
    · subst ha; rw [Mem.put_same] at e; cases e; exact ⟨xs, hx, rx⟩
    · rw [Mem.put_ne ha] at e; exact hm'.obj a o e
  · by_cases ha : a = D
    · subst ha
      rcases hD with q | q
      · exact q
      · exact absurd e q
    · rw [Mem.put_ne ha] at z; exact st'.nm a e z
/-- [e for ..], data -/
theorem we_lcD (own : List (Str × Nat)) (hc : X.calm = true) (hN : X.N.Nodup) (ok : BlkOk X.N X.env.scope scope own)
    (h : WI X tg iter n m (LcEnd X tg elt ifs scope (own.map (·.2)) n fun acc m' => ∃ ds, acc = ds.map .d ∧ K (.d (.list ds)) m')) (hf : ∀ x, foldedSetIterable iter X.env x = pure x := by intro _; rfl) : WE X (.ListComp elt [⟨tg, iter, ifs, 0⟩] scope pos) n m K := fun F σ H hm hs =>
  wpE.of (pe_lc hc hN pi_wp ok (g := tgB X scope tg) (tt := ttB X scope ifs) (te := teB X scope elt) (fun s0 H0 C cl fp => ⟨fun pins s _ _ _ u _ I r q => q s0 H0 C cl fp pins s u I r⟩) (fun s0 H0 C cl fp => pts_B s0 H0 C cl fp) (fun s0 H0 C cl fp => ⟨fun pins s _ _ _ I q => q s0 H0 C cl fp pins s I⟩) hf)
    (lc_go hm hs h fun D H' F' m' acc xs ⟨ds, e, k⟩ hm' st' hx rx fD mD hD => by
      subst e
      exact lc_data k hm' st' hx rx fD mD hD)
/-- [e for ..], a list that may change -/
theorem we_lcX (own : List (Str × Nat)) (hc : X.calm = true) (hN : X.N.Nodup) (ok : BlkOk X.N X.env.scope scope own)
    (h : WI X tg iter n m (LcEnd X tg elt ifs scope (own.map (·.2)) n fun acc m' => ∀ p, m' p = none → K (.x p) (m'.put p (.lst acc)))) (hf : ∀ x, foldedSetIterable iter X.env x = pure x := by intro _; rfl) : WE X (.ListComp elt [⟨tg, iter, ifs, 0⟩] scope pos) n m K := fun F σ H hm hs =>
  wpE.of (pe_lc hc hN pi_wp ok (g := tgB X scope tg) (tt := ttB X scope ifs) (te := teB X scope elt) (fun s0 H0 C cl fp => ⟨fun pins s _ _ _ u _ I r q => q s0 H0 C cl fp pins s u I r⟩) (fun s0 H0 C cl fp => pts_B s0 H0 C cl fp) (fun s0 H0 C cl fp => ⟨fun pins s _ _ _ I q => q s0 H0 C cl fp pins s I⟩) hf)
    (lc_go hm hs h fun D H' F' m' acc xs k hm' st' hx rx fD mD hD => lc_mem (k D mD) hm' st' hx rx fD mD hD)
/-- name = [e for ..] on one line -/
theorem ws_lcD {y : Str} {py spos : Pos} (own : List (Str × Nat)) (i : Nat) (hc : X.calm = true) (hN : X.N.Nodup) (hy : X.N[i]? = some y) (hyl : X.env.scope.names.lookup y = some .local) (ok : BlkOk X.N X.env.scope scope own)
    (hsw : swapsWith (.ListComp elt [⟨tg, iter, ifs, 0⟩] scope pos) (some (.Name y py)) spos.line X.env = pure true) {P : KS}
    (h : WI X tg iter n m (LcEnd X tg elt ifs scope (own.map (·.2)) n fun acc m' => ∃ ds, acc = ds.map .d ∧ P (.nx (n.set i (some (.d (.list ds)))) m'))) (hf : ∀ x, foldedSetIterable iter X.env x = pure x := by intro _; rfl) : WS X (.Assign [.Name y py] (.ListComp elt [⟨tg, iter, ifs, 0⟩] scope pos) spos) n m P := fun F σ H hm hs =>
  wpS.of (ps_setLc hc hN hy hyl hsw pi_wp ok (g := tgB X scope tg) (tt := ttB X scope ifs) (te := teB X scope elt) (fun s0 H0 C cl fp => ⟨fun pins s _ _ _ u _ I r q => q s0 H0 C cl fp pins s u I r⟩) (fun s0 H0 C cl fp => pts_B s0 H0 C cl fp) (fun s0 H0 C cl fp => ⟨fun pins s _ _ _ I q => q s0 H0 C cl fp pins s I⟩) hf)
    (lc_go hm hs h fun D H' F' m' acc xs ⟨ds, e, k⟩ hm' st' hx rx fD mD hD => by
      subst e
      obtain ⟨F2, r, m2, ⟨rfl, rfl⟩, ok2, hm2, st2⟩ := lc_data (K := fun r m2 => r = .d (.list ds) ∧ m2 = m') ⟨rfl, rfl⟩ hm' st' hx rx fD mD hD
      exact (show PostN X F m H _ (σ.set i (some (.ref D))) H' from ⟨F2, _, m2, k, (hs.inc st2.fr).set ok2, hm2, st2⟩))
theorem ws_lcX {y : Str} {py spos : Pos} (own : List (Str × Nat)) (i : Nat) (hc : X.calm = true) (hN : X.N.Nodup) (hy : X.N[i]? = some y) (hyl : X.env.scope.names.lookup y = some .local) (ok : BlkOk X.N X.env.scope scope own)
    (hsw : swapsWith (.ListComp elt [⟨tg, iter, ifs, 0⟩] scope pos) (some (.Name y py)) spos.line X.env = pure true) {P : KS}
    (h : WI X tg iter n m (LcEnd X tg elt ifs scope (own.map (·.2)) n fun acc m' => ∀ p, m' p = none → P (.nx (n.set i (some (.x p))) (m'.put p (.lst acc))))) (hf : ∀ x, foldedSetIterable iter X.env x = pure x := by intro _; rfl) : WS X (.Assign [.Name y py] (.ListComp elt [⟨tg, iter, ifs, 0⟩] scope pos) spos) n m P := fun F σ H hm hs =>
  wpS.of (ps_setLc hc hN hy hyl hsw pi_wp ok (g := tgB X scope tg) (tt := ttB X scope ifs) (te := teB X scope elt) (fun s0 H0 C cl fp => ⟨fun pins s _ _ _ u _ I r q => q s0 H0 C cl fp pins s u I r⟩) (fun s0 H0 C cl fp => pts_B s0 H0 C cl fp) (fun s0 H0 C cl fp => ⟨fun pins s _ _ _ I q => q s0 H0 C cl fp pins s I⟩) hf)
    (lc_go hm hs h fun D H' F' m' acc xs k hm' st' hx rx fD mD hD => by
      obtain ⟨F2, r, m2, ⟨rfl, rfl⟩, ok2, hm2, st2⟩ := lc_mem (K := fun r m2 => r = .x D ∧ m2 = m'.put D (.lst acc)) ⟨rfl, rfl⟩ hm' st' hx rx fD mD hD
      exact (show PostN X F m H _ (σ.set i (some (.ref D))) H' from ⟨F2, _, _, k D mD, (hs.inc st2.fr).set ok2, hm2, st2⟩))
end

/-! ### defs -/
/-- what a def promises: the arguments by i, what is needed of the memory, what is told behind; what it raises: the class, the fields, the memory -/
structure Prm where
  I : Type
  args : I → List Ent
  pre : I → Mem → Prop
  post : I → Mem → Ent → Mem → Prop
def spW (K : PySem.W.Frag) (S : Prm) : Sp := fun vs H Q _ => ∃ (i : S.I) (F : Hp) (m : Mem), Ents K F vs (S.args i) ∧ MOk K F m H ∧ S.pre i m ∧
  ∀ F' r m' v H', S.post i m r m' → EntOk K F' v r → MOk K F' m' H' → Step F m H F' m' H' → Q v H'
/-- the def at f keeps the promise; as FnOk, where nothing but the frames is under way -/
structure FnG (P : Program) (w : World) (K : PySem.W.Frag) (mg : Str → Option Value) (base : Heap) (k : Nat) (f : Addr) (fd : FuncData) (ps : List Str) (sp : Sp) : Prop where
  len : ∀ vs H Q E, sp vs H Q E → vs.length = ps.length
  run : ∀ (A : Around) (outer : List Env) (s : Shared) (H : Hp) (args : Args) (us : List Value) (vs : List V) (Q : VK) (E : XK), Room k A → A.guards = some [] → Env0 P w K mg base A outer s H → BindsTo s fd args (ps.zip us) → Vals vs us → sp vs H Q E →
    codeAny (model P w) A (.call (.ref f) args) (CR (CX P w) outer P w H s Q E) s
/-- a def by its name -/
def Av (P : Program) (w : World) (K : PySem.W.Frag) (mg : Str → Option Value) (base : Heap) (k : Nat) (x : Str) (ps : List Str) (S : Prm) : Prop :=
  ∃ f fd, FnG P w K mg base k f fd ps (spW K S) ∧ mg x = some (.ref f) ∧ PySem.W.keepIn K (.ref f) = true ∧ Binds K fd ps []
/-- what a body's rules lean on -/
structure XC (X : Cx) (k : Nat) : Prop where
  calm : X.calm = true
  nd : X.N.Nodup
  room : Room k X.A
  guards : X.A.guards = some []
  pass : PassesOwn (model X.prog X.w) X.A X.env X.xe
theorem XC.blk {k : Nat} (c : XC X k) {scope : Scope} {s : Shared} {H : Hp} {C : Addr} {cl : List (Str × Addr)} {fp : List Addr} : XC (Bk X scope s H C cl fp) k := ⟨c.calm, c.nd, c.room, c.guards, PassesOwn.never⟩
section
variable {X : Cx} {k k' : Nat} {x : Str} {p pos : Pos} {e : Expr} {es : List Expr} {n : Nm} {m : Mem} {K : KE} {S : Prm} {ps : List Str}
theorem run_G {f : Addr} {fd : FuncData} {pins : List (Addr × Obj)} {σ : St} {F H : Hp} {s : Shared} {us : List Value} {vs : List V} {rs : List Ent} (G : FnG X.prog X.w X.K X.mg X.base k' f fd ps (spW X.K S)) (c : XC X k) (hk : k' ≤ k) (hb : Binds X.K fd ps []) (I : Inv X pins σ H s) (r : Vals vs us)
    (hm : MOk X.K F m H) (hr : Ents X.K F vs rs) (h : ∃ i, rs = S.args i ∧ S.pre i m ∧ ∀ r m', S.post i m r m' → K r m') : wpAny (model X.prog X.w) X.A (call (.ref f) us) (EP X pins σ (PostE X F m H K)) X.xe s := by
  obtain ⟨i, rfl, pre, post⟩ := h
  have sp : spW X.K S vs H (PostE X F m H K) E0 := ⟨i, F, m, hr, hm, pre, fun F' r m' v H' q ok hm' st => ⟨F', r, m', post r m' q, ok, hm', st⟩⟩
  have hl : us.length = ps.length := by rw [← r.length]; exact G.len _ _ _ _ sp
  have bt := hb s us I.kIn (by rw [List.append_nil]; exact hl)
  rw [List.append_nil] at bt
  refine wpAny_call (codeAny_mono (G.run X.A X.stack s H ⟨us, []⟩ us vs _ E0 (c.room.mono hk) c.guards I.env0 bt r sp) fun r s' hq => ?_)
  match r, hq with
  | .error e, hq => exact passL pins σ H s e s' I hq
  | .ok (.ret u), hq => exact I.after hq
theorem we_call (c : XC X k) (av : Av X.prog X.w X.K X.mg X.base k' x ps S) (hk : k' ≤ k) (hg : Gl X x) (h : WA X (e :: es) n m fun rs m1 => ∃ i, rs = S.args i ∧ S.pre i m1 ∧ ∀ r m', S.post i m1 r m' → K r m')
    (hdb : (x == ("__debug__" : Str)) = false := by decide) (he : starEach (e :: es) X.env = (false, eval e X.env) :: starEach es X.env := by rfl) (hpl : (backTo pos (starEach es X.env)).any (·.1) = false := by rfl) : WE X (.Call (.Name x p) (e :: es) [] pos) n m K := fun F σ H hm hs pins s I => by
  obtain ⟨f, fd, G, hmg, hkp, hb⟩ := av
  refine wpAny_Call_Name_kw (ld_glob I hg hmg ?_ hdb)
  refine PySem.W.callWith_K (h₀ := X.base) I.ok.mod.kin hkp (thn (h F σ H hm hs pos pins s I) fun us s1 ⟨vs, H1, I1, r, F1, rs, m1, k1, ok1, hm1, st1⟩ => ⟨I1.kIn, ?_⟩) he hpl
  exact thn (run_G (K := K) G c hk hb I1 r hm1 ok1 k1) fun u s2 ⟨v, H2, I2, r2, q⟩ => ⟨v, H2, I2, r2, PostE.after st1 q⟩
theorem we_call0 (c : XC X k) (av : Av X.prog X.w X.K X.mg X.base k' x ps S) (hk : k' ≤ k) (hg : Gl X x) (h : ∃ i, [] = S.args i ∧ S.pre i m ∧ ∀ r m', S.post i m r m' → K r m')
    (hdb : (x == ("__debug__" : Str)) = false := by decide) : WE X (.Call (.Name x p) [] [] pos) n m K := fun F σ H hm hs pins s I => by
  obtain ⟨f, fd, G, hmg, hkp, hb⟩ := av
  refine wpAny_Call_Name_kw (ld_glob I hg hmg ?_ hdb)
  exact PySem.W.callWith_K0 I.kIn hkp (run_G (us := []) (vs := []) (K := K) G c hk hb I .nil hm .nil h)
end
/-- the names at a def's entry -/
def startN (k : Nat) (rs : List Ent) : Nm := rs.map some ++ List.replicate (k - rs.length) none
theorem ents_get {K : PySem.W.Frag} {F : Hp} : ∀ {vs : List V} {rs : List Ent} {i : Nat} {r : Ent}, Ents K F vs rs → rs[i]? = some r → ∃ v, vs[i]? = some v ∧ EntOk K F v r
  | _, _, _, _, .nil, e => by simp at e
  | _, _, 0, _, .cons q _, e => by simp at e; subst e; exact ⟨_, rfl, q⟩
  | _, _, i + 1, r, .cons _ t, e => by
    obtain ⟨v, h1, h2⟩ := ents_get (i := i) (r := r) t (by simpa using e)
    exact ⟨v, by simpa using h1, h2⟩
theorem slots_start {K : PySem.W.Frag} {F : Hp} {N : List Str} {vs : List V} {rs : List Ent} (h : Ents K F vs rs) : Slots K F (L2.start N vs) (startN N.length rs) := by
  have hl := Paired.length h
  refine ⟨?_, fun i r e => ?_⟩
  · unfold L2.start startN
    simp only [List.length_append, List.length_map, List.length_replicate, hl]
  · unfold startN at e
    by_cases hi : i < rs.length
    · rw [List.getElem?_append_left (by simpa using hi), List.getElem?_map] at e
      cases q : rs[i]? with
      | none => rw [q] at e; cases e
      | some u =>
        rw [q] at e
        cases e
        obtain ⟨v, h1, h2⟩ := ents_get h q
        refine ⟨v, ?_, h2⟩
        unfold L2.start
        rw [List.getElem?_append_left (by rw [List.length_map, hl]; exact hi), List.getElem?_map, h1]
        rfl
    · rw [List.getElem?_append_right (by simpa using hi), List.getElem?_replicate] at e
      split at e <;> cases e
/-- a body's context -/
abbrev BX (P : Program) (w : World) (K : PySem.W.Frag) (mg : Str → Option Value) (base : Heap) (N : List Str) (qual : Str) (st : Stmt) (f : Addr) (cdv : Value) (A : Around) (outer : List Env) (s : Shared) (H : Hp) (E : XK) : Cx :=
  (cxOf (CX P w) P w K mg base N qual (defScope st) f cdv A outer s H E).nox
/-- a body's end, by the promise -/
def retP (S : Prm) (i : S.I) (m : Mem) : KS := fun o => match o with
  | .rt r m' => ∃ m2, Mem.Sub m2 m' ∧ S.post i m r m2
  | .nx _ m' => ∃ m2, Mem.Sub m2 m' ∧ S.post i m (.d .none) m2
  | _ => False
section
variable {P : Program} {w : World} {K : PySem.W.Frag} {mg : Str → Option Value} {base : Heap}
/-- THE RULE for a def that raises nothing -/
theorem fn_G {x qual : Str} {st : Stmt} {f : Addr} {fd : FuncData} {N ps : List Str} {k : Nat} {S : Prm} (Fn : Fun K x qual st f fd) (sc : FnScope N ps (defScope st)) (len : ∀ i, (S.args i).length = ps.length)
    (hbody : ∀ (cdv : Value) (A : Around) (outer : List Env) (s : Shared) (H : Hp) (E : XK), XC (BX P w K mg base N qual st f cdv A outer s H E) k → ∀ (i : S.I) (m : Mem), S.pre i m → WB (BX P w K mg base N qual st f cdv A outer s H E) (defBody st) (startN N.length (S.args i)) m (retP S i m)) : FnG P w K mg base (k + 1) f fd ps (spW K S) := by
  obtain ⟨oc, od, kV, doc, pm, an, cdv, ct, osl, rfl, lk, hcd⟩ := Fn.ex
  have hlen : ∀ vs H Q E, spW K S vs H Q E → vs.length = ps.length := fun vs H Q E ⟨i, F, m, h, _⟩ => by rw [Paired.length h]; exact len i
  refine ⟨hlen, fun A outer s H args us vs Q E hr hg e0 hb r hsp => ?_⟩
  have KX : K.In s.heap := e0.mod.kin.keeps fun b o e => (e0.bs b o e).1
  have lim : s.heap.NoLimit := e0.mod.nolimit.keeps fun b o e => (e0.bs b o e).1
  refine codeAny_call_function hr.depth (KX _ _ lk) rfl sc.co sc.gen rfl (PySem.W.codeRec_of KX hcd) (hb _ _ _ _ (wpAny_newFunctionEnv_cells sc.kind (fun ⟨y, v⟩ hy => ?_) fun env he s1 x => ?_))
  · rcases sc.par y (List.of_mem_zip hy).1 with q | q
    · exact .inl q
    · exact .inr ⟨q, PySem.W.cellsFrom_some _ _ _ (.inl q)⟩
  · subst he
    refine ⟨lim.keeps x.toInCall.keep, codeAny_func ?_⟩
    obtain ⟨i, F, m, hA, hm, pre, post⟩ := hsp
    have I : Inv (cxOf (CX P w) P w K mg base N qual (defScope st) f cdv A outer s H E) [] (L2.start N vs) H s1 := inv_start sc hr.hd e0 (by rw [Paired.length hA]; exact len i) r x
    have body := hbody cdv A outer s H E ⟨rfl, sc.nd, hr.deeper _, hg, PassesOwn.never⟩ i m pre F (L2.start N vs) H hm (slots_start hA) [] s1 (I.wish _)
    refine wpAny_mono body (fun fl s' hs => ?_) fun _ _ z => z.elim
    have fin : ∀ {σ' : St} {H' : Hp} {v : V} {u : Value} {F' : Hp} {r : Ent} {m' : Mem}, Inv (cxOf (CX P w) P w K mg base N qual (defScope st) f cdv A outer s H E).nox [] σ' H' s' → RelV v u → (∃ m2, Mem.Sub m2 m' ∧ S.post i m r m2) → EntOk K F' v r → MOk K F' m' H' → Step F m H F' m' H' → CE outer P w H s Q u s' :=
      fun {σ' H' v u F' r m'} J rv ⟨m2, sub, q⟩ ok hm' st => ⟨v, H', J.os, J.bare, J.unwish.base, J.hok, rv, post F' r m2 v H' q ok (hm'.less sub) (st.trans (Step.sub sub))⟩
    match fl, hs with
    | .ret u, ⟨v, σ', H', J, rv, F', r, m', q, ok, hm', st⟩ => exact fin J rv q ok hm' st
    | .next, ⟨σ', H', J, F', n', m', q, hs', hm', st⟩ => exact fin (v := .non) (u := Value.none) J rfl q Rp.non hm' st
    | .brk, ⟨_, _, _, _, _, _, q, _⟩ => exact q.elim
    | .cont, ⟨_, _, _, _, _, _, q, _⟩ => exact q.elim
end
end Z

/-! Z5: operators, subscripts, what is built in. -/
namespace Z
open PySem PySem.Spec L2
set_option linter.all false
section
variable {X : Cx} {e o a b : Expr} {es : List Expr} {n : Nm} {m : Mem} {K : KE} {pos : Pos} {x y : Ent}
/-! ### whole numbers -/
theorem r2_I {C : Int → Int → Prop} {g : Int → Int → Int} {i j : Int} (hc : C i j) (k : K (.d (.int (g i j))) m) : R2W X (rI C fun i j => .int (g i j)) (.d (.int i)) (.d (.int j)) m K := fun F H v u hm h1 h2 Q q =>
  ⟨i, j, h1.int, h2.int, hc, q _ _ (PostE.here k (Rp.int _) hm)⟩
theorem r2_I0 {g : Int → Int → Int} {i j : Int} (k : K (.d (.int (g i j))) m) : R2W X (rI0 fun i j => .int (g i j)) (.d (.int i)) (.d (.int j)) m K := fun F H v u hm h1 h2 Q q =>
  ⟨i, j, h1.int, h2.int, q _ _ (PostE.here k (Rp.int _) hm)⟩
theorem r2_B0 {g : Int → Int → Bool} {i j : Int} (k : K (.d (.bool (g i j))) m) : R2W X (rI0 fun i j => .bl (g i j)) (.d (.int i)) (.d (.int j)) m K := fun F H v u hm h1 h2 Q q =>
  ⟨i, j, h1.int, h2.int, q _ _ (PostE.here k (Rp.bl _) hm)⟩
/-! ### + -/
def rCatS (K : PySem.W.Frag) : R2 := fun x y H Q => ∃ l b xs zs, x = .ref l ∧ y = .ref b ∧ SqL K H l xs ∧ SqL K H b zs ∧ xs.length + zs.length ≤ sizeLine ∧ ∀ p, H p = none → Q (.ref p) (upd H p (.lst (xs ++ zs)))
theorem op_catS : OpR X (binaryOp .Add) (rCatS X.K) := by
  intro pins s σ H x y v u Q I rx ry ⟨l, b, xs, zs, ex, ey, hl, hb, hz, q⟩
  subst ex ey
  cases rx
  cases ry
  obtain ⟨i1, r1, p1, z1⟩ := I.list hl
  obtain ⟨i2, r2, p2, z2⟩ := I.list hb
  obtain ⟨⟨c1, d1, t1, s1⟩, o1, k1, n1, e1⟩ := p1.isList
  obtain ⟨⟨c2, d2, t2, s2⟩, o2, k2, n2, e2⟩ := p2.isList
  simp only at k1 e1 k2 e2
  subst k1 e1 k2 e2
  have len1 := r1.length
  have len2 := r2.length
  refine concat_meets ⟨_, o1, rfl⟩ ⟨_, o2, rfl⟩ noFill_list_add seq_list_add PySem.F.slot_list_add PySem.F.entry_list_add (PySem.F.args_list_add_2 _ _) (PyProof.Rows.list_addW l b i1.toArray i2.toArray n1 n2 d1 d2 s1 s2 ?_) ⟨o1, o2, ?_⟩
  · rw [List.size_toArray, List.size_toArray]; omega
  · rw [List.append_toArray]
    exact ⟨.ref _, _, I.lnew (t' := s.toks) (r1.append r2) (by rw [List.length_append]; omega), rfl, q _ I.fresh⟩
def rAddStr : R2 := fun x y H Q => ∃ i j, x = .str i ∧ y = .str j ∧ i.length + j.length ≤ sizeLine ∧ Q (.str (i ++ j)) H
def rAddZ (K : PySem.W.Frag) : R2 := fun x y H Q => rI0 (fun i j => .int (i + j)) x y H Q ∨ rAddStr x y H Q ∨ rCatS K x y H Q ∨ rCatA K x y H Q
theorem op_addZ : OpR X (binaryOp .Add) (rAddZ X.K) := op_add.or (OpR.or (r := rAddStr) op_add_str (op_catS.or op_catA))
theorem add_I {i j : Int} (k : K (.d (.int (i + j))) m) : R2W X (rAddZ X.K) (.d (.int i)) (.d (.int j)) m K := fun F H v u hm h1 h2 Q q =>
  .inl ⟨i, j, h1.int, h2.int, q _ _ (PostE.here k (Rp.int _) hm)⟩
theorem add_S {i j : Str} (hl : i.length + j.length ≤ 16777216) (k : K (.d (.str (i ++ j))) m) : R2W X (rAddZ X.K) (.d (.str i)) (.d (.str j)) m K := fun F H v u hm h1 h2 Q q =>
  .inr (.inl ⟨i, j, h1.str, h2.str, by rw [sizeLine_eq]; exact hl, q _ _ (PostE.here k (Rp.str _) hm)⟩)
theorem RpAll.append {K : PySem.W.Frag} {F : Hp} : ∀ {xs ys : List V} {ds es : List PyData}, RpAll K F xs ds → RpAll K F ys es → RpAll K F (xs ++ ys) (ds ++ es)
  | _, _, _, _, .nil, s => s
  | _, _, _, _, .cons r t, s => .cons r (RpAll.append t s)
theorem add_L {ds es : List PyData} (hx : Dat m x (.list ds)) (hy : Dat m y (.list es)) (hl : ds.length + es.length ≤ 16777216) (k : K (.d (.list (ds ++ es))) m) : R2W X (rAddZ X.K) x y m K := fun F H v u hm h1 h2 Q q => by
  obtain ⟨p1, xs, rfl, s1, r1⟩ := hx.sqL hm h1
  obtain ⟨p2, ys, rfl, s2, r2⟩ := hy.sqL hm h2
  exact .inr (.inr (.inl ⟨p1, p2, xs, ys, rfl, rfl, s1, s2, by rw [r1.length, r2.length, sizeLine_eq]; exact hl, fun p hp => q _ _ (post_L hm hp (r1.append r2) k)⟩))
/-- .. a list that may change -/
theorem add_LX {ds es : List PyData} (hx : Dat m x (.list ds)) (hy : Dat m y (.list es)) (hl : ds.length + es.length ≤ 16777216) (k : ∀ p, m p = none → K (.x p) (m.put p (.lst (List.map .d (ds ++ es))))) : R2W X (rAddZ X.K) x y m K := fun F H v u hm h1 h2 Q q => by
  obtain ⟨p1, xs, rfl, s1, r1⟩ := hx.sqL hm h1
  obtain ⟨p2, ys, rfl, s2, r2⟩ := hy.sqL hm h2
  exact .inr (.inr (.inl ⟨p1, p2, xs, ys, rfl, rfl, s1, s2, by rw [r1.length, r2.length, sizeLine_eq]; exact hl, fun p hp => q _ _ (post_X hm hp (r1.append r2).ents k)⟩))
theorem add_T {ds es : List PyData} (hl : ds.length + es.length ≤ 16777216) (k : K (.d (.tuple (ds ++ es))) m) : R2W X (rAddZ X.K) (.d (.tuple ds)) (.d (.tuple es)) m K := fun F H v u hm h1 h2 Q q => by
  obtain ⟨p1, xs, rfl, s1, r1⟩ := dat_sqT hm h1
  obtain ⟨p2, ys, rfl, s2, r2⟩ := dat_sqT hm h2
  refine .inr (.inr (.inr ⟨p1, p2, xs, ys, rfl, rfl, s1, s2, by rw [r1.length, r2.length, sizeLine_eq]; exact hl, fun e => ?_, fun _ e => ?_, fun _ _ p hp => q _ _ (post_T hm hp (r1.append r2) k)⟩))
  · subst e
    cases r1
    exact q _ _ (PostE.here k h2 hm)
  · subst e
    cases r2
    rw [List.append_nil] at k
    exact q _ _ (PostE.here k h1 hm)

theorem we_neg {i0 : Unit} (h : WE X a n m fun x m1 => ∃ i, x = .d (.int i) ∧ K (.d (.int (-i))) m1) : WE X (.UnaryOp .USub a pos) n m K := fun F σ H hm hs =>
  wpE.of (pe_un un_neg pe_wp) (h.go hm hs fun F1 v H1 x m1 ⟨i, ex, k⟩ ok hm1 st1 hs1 => by
    subst ex
    exact ⟨i, ok.int, PostE.after st1 (PostE.here k (Rp.int _) hm1)⟩)
def rIsN0 : R2 := fun x y H Q => y = .non ∧ Q (.bl (decide (x = .non))) H
def rNotN0 : R2 := fun x y H Q => y = .non ∧ Q (.bl (!decide (x = .non))) H
theorem op_isN0 : OpR X (compareOp .Is) rIsN0 := op_isN
theorem op_notN0 : OpR X (compareOp .IsNot) rNotN0 := op_notN
def isNone : Ent → Bool
  | .d .none => true
  | .v .non => true
  | _ => false
theorem isNone_ok {K : PySem.W.Frag} {F : Hp} {v : V} {r : Ent} (h : EntOk K F v r) : decide (v = .non) = isNone r := by
  cases r with
  | d d =>
    cases d with
    | none => rw [h.non]; rfl
    | bool b => rw [h.bl]; rfl
    | int b => rw [h.int]; rfl
    | str b => rw [h.str]; rfl
    | list xs => cases h; rfl
    | tuple xs => cases h; rfl
    | dict xs => cases h; rfl
  | x a => have e : v = .ref a := h; rw [e]; rfl
  | v u =>
    have e : v = u := h
    subst e
    cases v <;> rfl
theorem is_N (k : K (.d (.bool (isNone x))) m) : R2W X rIsN0 x (.d .none) m K := fun F H v u hm h1 h2 Q q => ⟨h2.non, by rw [isNone_ok h1]; exact q _ _ (PostE.here k (Rp.bl _) hm)⟩
theorem not_N (k : K (.d (.bool (!isNone x))) m) : R2W X rNotN0 x (.d .none) m K := fun F H v u hm h1 h2 Q q => ⟨h2.non, by rw [isNone_ok h1]; exact q _ _ (PostE.here k (Rp.bl _) hm)⟩

/-! ### == != of data -/
theorem eq_D {d d' : PyData} (hx : Dat m x d) (hy : Dat m y d') (s1 : SeqAt.shaped d = true) (s2 : SeqAt.shaped d' = true) (n1 : nodict d = true) (n2 : nodict d' = true) (k : K (.d (.bool (PyData.eqv d d'))) m) : R2W X (rEqD X.K) x y m K := fun F H v u hm h1 h2 Q q =>
  ⟨d, d', hx.dp hm h1 n1, hy.dp hm h2 n2, s1, s2, q _ _ (PostE.here k (Rp.bl _) hm)⟩
theorem ne_D {d d' : PyData} (hx : Dat m x d) (hy : Dat m y d') (s1 : SeqAt.shaped d = true) (s2 : SeqAt.shaped d' = true) (n1 : nodict d = true) (n2 : nodict d' = true) (k : K (.d (.bool (!PyData.eqv d d'))) m) : R2W X (rNeD X.K) x y m K := fun F H v u hm h1 h2 Q q =>
  ⟨d, d', hx.dp hm h1 n1, hy.dp hm h2 n2, s1, s2, q _ _ (PostE.here k (Rp.bl _) hm)⟩
theorem eqv_int (i j : Int) : PyData.eqv (.int i) (.int j) = decide (i = j) := by rw [PyData.eqv]; exact Bool.beq_eq_decide_eq i j
theorem eqv_str (i j : Str) : PyData.eqv (.str i) (.str j) = decide (i = j) := by rw [PyData.eqv]; exact Bool.beq_eq_decide_eq i j
theorem eqv_bl (i j : Bool) : PyData.eqv (.bool i) (.bool j) = decide (i = j) := by rw [PyData.eqv]; exact Bool.beq_eq_decide_eq i j
theorem sh_int (i : Int) : SeqAt.shaped (.int i) = true := by simp [SeqAt.shaped, PyData.canLay0, PyData.depth]
theorem eq_I {i j : Int} (k : K (.d (.bool (decide (i = j)))) m) : R2W X (rEqD X.K) (.d (.int i)) (.d (.int j)) m K := eq_D .d .d (sh_int i) (sh_int j) rfl rfl (by rw [eqv_int]; exact k)
theorem ne_I {i j : Int} (k : K (.d (.bool (!decide (i = j)))) m) : R2W X (rNeD X.K) (.d (.int i)) (.d (.int j)) m K := ne_D .d .d (sh_int i) (sh_int j) rfl rfl (by rw [eqv_int]; exact k)
/-- of numbers, texts, bools, None: by the scalar rule -/
def sV : PyData → Option V
  | .none => some .non
  | .bool b => some (.bl b)
  | .int i => some (.int i)
  | .str x => some (.str x)
  | _ => none
theorem sV_ok {K : PySem.W.Frag} {F : Hp} {v u : V} {d : PyData} (h : EntOk K F v (.d d)) (e : sV d = some u) : v = u := by
  cases d with
  | none => cases h; cases e; rfl
  | bool b => cases h; cases e; rfl
  | int b => cases h; cases e; rfl
  | str b => cases h; cases e; rfl
  | list xs => cases e
  | tuple xs => cases e
  | dict xs => cases e
theorem eq_V {d d' : PyData} {v u : V} (h1 : sV d = some v) (h2 : sV d' = some u) (hs : scal v u = true) (k : K (.d (.bool (decide (v = u)))) m) : R2W X rEq (.d d) (.d d') m K := fun F H v' u' hm o1 o2 Q q => by
  rw [sV_ok o1 h1, sV_ok o2 h2]
  exact ⟨hs, q _ _ (PostE.here k (Rp.bl _) hm)⟩
theorem ne_V {d d' : PyData} {v u : V} (h1 : sV d = some v) (h2 : sV d' = some u) (hs : scal v u = true) (k : K (.d (.bool (!decide (v = u)))) m) : R2W X rNe (.d d) (.d d') m K := fun F H v' u' hm o1 o2 Q q => by
  rw [sV_ok o1 h1, sV_ok o2 h2]
  exact ⟨hs, q _ _ (PostE.here k (Rp.bl _) hm)⟩
theorem eq_S {i j : Str} (k : K (.d (.bool (decide (i = j)))) m) : R2W X rEq (.d (.str i)) (.d (.str j)) m K := eq_V (v := .str i) (u := .str j) rfl rfl rfl (by
  have e : decide (V.str i = V.str j) = decide (i = j) := by simp
  rw [e]; exact k)
theorem ne_S {i j : Str} (k : K (.d (.bool (!decide (i = j)))) m) : R2W X rNe (.d (.str i)) (.d (.str j)) m K := ne_V (v := .str i) (u := .str j) rfl rfl rfl (by
  have e : decide (V.str i = V.str j) = decide (i = j) := by simp
  rw [e]; exact k)

/-! ### in -/
def sVs : List PyData → Option (List V)
  | [] => some []
  | d :: ds => match sV d, sVs ds with
    | some v, some vs => some (v :: vs)
    | _, _ => none
theorem RpAll.scals {K : PySem.W.Frag} {F : Hp} : ∀ {xs vs : List V} {ds : List PyData}, RpAll K F xs ds → sVs ds = some vs → xs = vs
  | _, _, _, .nil, e => by cases e; rfl
  | _, _, _, .cons (d := d) (ds := ds) r t, e => by
    unfold sVs at e
    cases e1 : sV d with
    | none => rw [e1] at e; simp at e
    | some v =>
      cases e2 : sVs ds with
      | none => rw [e1, e2] at e; simp at e
      | some ws =>
        rw [e1, e2] at e
        simp at e
        subst e
        rw [sV_ok r e1, RpAll.scals t e2]
theorem in_L {neg : Bool} {d : PyData} {ds : List PyData} {v : V} {vs : List V} (hy : Dat m y (.list ds)) (h1 : sV d = some v) (h2 : sVs ds = some vs) (f1 : flatV v = true) (f2 : vs.all flatV = true) (k : K (.d (.bool (if neg then !inV v vs else inV v vs))) m) : R2W X (rIn X.K neg) (.d d) y m K := fun F H v' u' hm o1 o2 Q q => by
  obtain ⟨p, xs, rfl, s, r⟩ := hy.sqL hm o2
  rw [sV_ok o1 h1]
  have e := r.scals h2
  subst e
  exact ⟨p, xs, rfl, .inl s, f1, f2, q _ _ (PostE.here k (Rp.bl _) hm)⟩
theorem in_T {neg : Bool} {d : PyData} {ds : List PyData} {v : V} {vs : List V} (h1 : sV d = some v) (h2 : sVs ds = some vs) (f1 : flatV v = true) (f2 : vs.all flatV = true) (k : K (.d (.bool (if neg then !inV v vs else inV v vs))) m) : R2W X (rIn X.K neg) (.d d) (.d (.tuple ds)) m K := fun F H v' u' hm o1 o2 Q q => by
  obtain ⟨p, xs, rfl, s, r⟩ := dat_sqT hm o2
  rw [sV_ok o1 h1]
  have e := r.scals h2
  subst e
  exact ⟨p, xs, rfl, .inr s, f1, f2, q _ _ (PostE.here k (Rp.bl _) hm)⟩

/-! ### items -/
theorem we_ix {r : R2} (hr : IxR X r) (h : WE X a n m fun x m1 => WE X b n m1 fun y m2 => R2W X r x y m2 K) (hp : PlainIx b := by exact fun _ _ => rfl) : WE X (.Subscript a b pos) n m K := fun F σ H hm hs =>
  wpE.of (pe_ix hr pe_wp pe_wp hp) (h.go hm hs fun F1 v H1 x m1 h1 ok1 hm1 st1 hs1 => h1.go hm1 hs1 fun F2 u H2 y m2 h2 ok2 hm2 st2 hs2 =>
    h2 F2 H2 v u hm2 (ok1.inc st2.fr) ok2 _ fun z H' q => PostE.after (st1.trans st2) q)
theorem atI_len {α β : Type} {xs : List α} {ds : List β} (h : xs.length = ds.length) {i : Int} {d : β} (e : atI ds i = some d) : ∃ j, ixN xs.length i = some j ∧ ds[j]? = some d := by
  unfold atI at e
  cases q : ixN ds.length i with
  | none => rw [q] at e; cases e
  | some j =>
    rw [q] at e
    exact ⟨j, by rw [h]; exact q, e⟩
theorem RpAll.at {K : PySem.W.Frag} {F : Hp} {xs : List V} {ds : List PyData} (r : RpAll K F xs ds) {i : Int} {d : PyData} (e : atI ds i = some d) : ∃ v, atI xs i = some v ∧ Rp K F v d := by
  obtain ⟨j, h1, h2⟩ := atI_len r.length e
  obtain ⟨v, h3, h4⟩ := r.get h2
  exact ⟨v, by unfold atI; rw [h1]; exact h3, h4⟩
theorem ix_L {ds : List PyData} {d : PyData} {i : Int} (hx : Dat m x (.list ds)) (e : atI ds i = some d) (k : K (.d d) m) : R2W X (rIx X.K) x (.d (.int i)) m K := fun F H v u hm h1 h2 Q q => by
  obtain ⟨p, xs, rfl, s, r⟩ := hx.sqL hm h1
  obtain ⟨w, hw, rw_⟩ := r.at e
  exact .inl ⟨p, xs, i, w, rfl, h2.int, s, hw, q _ _ (PostE.here k rw_ hm)⟩
theorem ix_T {ds : List PyData} {d : PyData} {i : Int} (e : atI ds i = some d) (k : K (.d d) m) : R2W X (rIx X.K) (.d (.tuple ds)) (.d (.int i)) m K := fun F H v u hm h1 h2 Q q => by
  obtain ⟨p, xs, rfl, s, r⟩ := dat_sqT hm h1
  obtain ⟨w, hw, rw_⟩ := r.at e
  exact .inr (.inl ⟨p, xs, i, w, rfl, h2.int, s, hw, q _ _ (PostE.here k rw_ hm)⟩)
theorem ix_S {z : Str} {c : Nat} {i : Int} (hl : z.length ≤ 16777216) (e : atI z.cps.toList i = some c) (k : K (.d (.str ⟨#[c]⟩)) m) : R2W X (rIx X.K) (.d (.str z)) (.d (.int i)) m K := fun F H v u hm h1 h2 Q q =>
  .inr (.inr ⟨z, i, c, h1.str, h2.int, by rw [sizeLine_eq]; exact hl, e, q _ _ (PostE.here k (Rp.str _) hm)⟩)
/-- an item of a list in the memory -/
theorem ix_X {p : Addr} {es : List Ent} {r : Ent} {i : Int} (hx : m p = some (.lst es)) (e : atI es i = some r) (k : K r m) : R2W X (rIx X.K) (.x p) (.d (.int i)) m K := fun F H v u hm h1 h2 Q q => by
  obtain ⟨xs, hH, rr⟩ := hm.obj p _ hx
  obtain ⟨j, hj, hg⟩ := atI_len (Paired.length rr) e
  obtain ⟨w, hw, ok⟩ := ents_get rr hg
  exact .inl ⟨p, xs, i, w, h1, h2.int, .inl (.inl hH), by unfold atI; rw [hj]; exact hw, q _ _ (PostE.here k ok hm)⟩
/-- o[i] = e, a list in the memory -/
theorem ws_setix {P : KS} {i : Expr} {tpos : Pos} (h : WE X e n m fun r m1 => WE X o n m1 fun x m2 => WE X i n m2 fun k m3 => ∃ p es kk j, x = .x p ∧ k = .d (.int kk) ∧ m3 p = some (.lst es) ∧ ixN es.length kk = some j ∧ P (.nx n (m3.put p (.lst (es.set j r)))))
    (ha : ∀ v, assign (.Subscript o i tpos) X.env v = (do
      let ov ← holding [v] (eval o X.env)
      let iv ← holding [v, ov] (eval i X.env)
      standAt tpos
      holding [v, ov, iv] (setItem ov iv v)
      release [v, ov, iv] []) := by intro _; rfl)
    (h1 : swapsWithSole [.Subscript o i tpos] e pos.line X.env = pure false := by rfl) (h2 : swappedStores [.Subscript o i tpos] e X.env = pure none := by rfl)
    (h3 : (assignEach [.Subscript o i tpos] X.env).map (·.2) = [assign (.Subscript o i tpos) X.env] := by rfl) : WS X (.Assign [.Subscript o i tpos] e pos) n m P := fun F σ H hm hs =>
  wpS.of (ps_asg pe_wp (pg_sub pe_wp pe_wp set_list ha) h1 h2 h3) (h.go hm hs fun F1 v H1 r m1 k1 ok1 hm1 st1 hs1 => k1.go hm1 hs1 fun F2 ov H2 x m2 k2 ok2 hm2 st2 hs2 => k2.go hm2 hs2 fun F3 iv H3 y m3 k3 ok3 hm3 st3 hs3 => by
    obtain ⟨p, es, kk, j, rfl, rfl, hp, hj, k⟩ := k3
    obtain ⟨xs, hx, rr⟩ := hm3.obj p _ hp
    have ok1' := (ok1.inc st2.fr).inc st3.fr
    refine ⟨p, xs, kk, j, ok2, ok3.int, hx, by rw [Paired.length rr]; exact hj, (show PostN X F m H _ _ _ from ⟨F3, n, _, k, hs3, hm3.mut hp ⟨_, upd_same, ?_⟩, ((st1.trans st2).trans st3).trans (Step.mut hp)⟩)⟩
    exact ents_set rr j ok1')
where
  ents_set {K : PySem.W.Frag} {F : Hp} {v : V} {r : Ent} : ∀ {xs : List V} {es : List Ent}, Ents K F xs es → ∀ (j : Nat), EntOk K F v r → Ents K F (xs.set j v) (es.set j r)
    | _, _, .nil, _, _ => .nil
    | _, _, .cons _ t, 0, ok => .cons ok t
    | _, _, .cons q t, j + 1, ok => .cons q (ents_set t j ok)

/-! ### slices -/
def WO (X : Cx) (oe : Option Expr) (n : Nm) (m : Mem) (K : Option Int → Mem → Prop) : Prop := match oe with
  | none => K none m
  | some e => WE X e n m fun r m1 => ∃ i, r = .d (.int i) ∧ K (some i) m1
def wpO (X : Cx) (oe : Option Expr) : TO := match oe with
  | none => tNoPart
  | some e => tPart (wpE X e)
theorem po_wp {oe : Option Expr} : PO X oe (wpO X oe) := match oe with
  | none => po_none
  | some _ => po_some pe_wp
theorem WO.go {oe : Option Expr} {F : Hp} {σ : St} {H : Hp} {K : Option Int → Mem → Prop} (h : WO X oe n m K) (hm : MOk X.K F m H) (hs : Slots X.K F σ n) {Q : Option Int → Hp → Prop}
    (k : ∀ F1 i H1 m1, K i m1 → MOk X.K F1 m1 H1 → Step F m H F1 m1 H1 → Slots X.K F1 σ n → Q i H1) : wpO X oe σ H Q := by
  match oe, h with
  | none, h => exact k F none H m h hm .refl hs
  | some e, h => exact WE.go h hm hs fun F1 v H1 r m1 ⟨i, er, q⟩ ok hm1 st1 hs1 => ⟨i, (show EntOk X.K F1 v (.d (.int i)) from er ▸ ok).int, k F1 (some i) H1 m1 q hm1 st1 hs1⟩
theorem wo_none {K : Option Int → Mem → Prop} (k : K none m) : WO X none n m K := k
theorem wo_some {K : Option Int → Mem → Prop} (h : WE X e n m fun r m1 => ∃ i, r = .d (.int i) ∧ K (some i) m1) : WO X (some e) n m K := h
def SLW (X : Cx) (r : V → Option Int → Option Int → Hp → VK → Prop) (x : Ent) (lo hi : Option Int) (m : Mem) (K : KE) : Prop := ∀ F H v, MOk X.K F m H → EntOk X.K F v x → ∀ Q : VK, (∀ z H', PostE X F m H K z H' → Q z H') → r v lo hi H Q
theorem we_slice {r : V → Option Int → Option Int → Hp → VK → Prop} {lo hi : Option Expr} {p2 : Pos} (hr : SlR X r) (h : WE X e n m fun x m1 => WO X lo n m1 fun l m2 => WO X hi n m2 fun u m3 => SLW X r x l u m3 K) : WE X (.Subscript e (.Slice lo hi none p2) pos) n m K := fun F σ H hm hs =>
  wpE.of (pe_slice hr pe_wp po_wp po_wp) (h.go hm hs fun F1 v H1 x m1 h1 ok1 hm1 st1 hs1 => h1.go hm1 hs1 fun F2 l H2 m2 h2 hm2 st2 hs2 => h2.go hm2 hs2 fun F3 u H3 m3 h3 hm3 st3 hs3 =>
    h3 F3 H3 v hm3 ((ok1.inc st2.fr).inc st3.fr) _ fun z H' q => PostE.after ((st1.trans st2).trans st3) q)
def rSlZ (K : PySem.W.Frag) : V → Option Int → Option Int → Hp → VK → Prop := fun x lo hi H Q => rSlL K x lo hi H Q ∨ rSlA K x lo hi H Q ∨ rSlS x lo hi H Q
theorem sl_Z : SlR X (rSlZ X.K) := sl_list.or (sl_tupA.or sl_str)
def cutD {α : Type} (xs : List α) (lo hi : Option Int) : List α := (xs.drop (HT.sIx xs.length 0 lo)).take (HT.sIx xs.length xs.length hi - HT.sIx xs.length 0 lo)
theorem RpAll.drop {K : PySem.W.Frag} {F : Hp} : ∀ {xs : List V} {ds : List PyData}, RpAll K F xs ds → ∀ k : Nat, RpAll K F (xs.drop k) (ds.drop k)
  | _, _, .nil, k => by simp; exact .nil
  | _, _, .cons r t, 0 => .cons r t
  | _, _, .cons _ t, k + 1 => RpAll.drop t k
theorem RpAll.take {K : PySem.W.Frag} {F : Hp} : ∀ {xs : List V} {ds : List PyData}, RpAll K F xs ds → ∀ k : Nat, RpAll K F (xs.take k) (ds.take k)
  | _, _, .nil, k => by simp; exact .nil
  | _, _, .cons _ _, 0 => .nil
  | _, _, .cons r t, k + 1 => .cons r (RpAll.take t k)
theorem RpAll.cut {K : PySem.W.Frag} {F : Hp} {xs : List V} {ds : List PyData} (r : RpAll K F xs ds) (lo hi : Option Int) : RpAll K F (cutV xs lo hi) (cutD ds lo hi) := by
  unfold cutV cutD
  rw [r.length]
  exact (r.drop _).take _
theorem sl_L {ds : List PyData} {lo hi : Option Int} (hx : Dat m x (.list ds)) (k : K (.d (.list (cutD ds lo hi))) m) : SLW X (rSlZ X.K) x lo hi m K := fun F H v hm h1 Q q => by
  obtain ⟨p, xs, rfl, s, r⟩ := hx.sqL hm h1
  exact .inl ⟨p, xs, rfl, s, fun p hp => q _ _ (post_L hm hp (r.cut lo hi) k)⟩
theorem sl_LX {ds : List PyData} {lo hi : Option Int} (hx : Dat m x (.list ds)) (k : ∀ p, m p = none → K (.x p) (m.put p (.lst (List.map .d (cutD ds lo hi))))) : SLW X (rSlZ X.K) x lo hi m K := fun F H v hm h1 Q q => by
  obtain ⟨p, xs, rfl, s, r⟩ := hx.sqL hm h1
  exact .inl ⟨p, xs, rfl, s, fun p hp => q _ _ (post_X hm hp (r.cut lo hi).ents k)⟩
theorem cutD_whole {α : Type} {ds : List α} {lo hi : Option Int} (h : HT.sIx ds.length 0 lo = 0 ∧ HT.sIx ds.length ds.length hi = ds.length) : cutD ds lo hi = ds := by
  unfold cutD
  rw [h.1, h.2]
  simp
theorem sl_T {ds : List PyData} {lo hi : Option Int} (k : K (.d (.tuple (cutD ds lo hi))) m) : SLW X (rSlZ X.K) (.d (.tuple ds)) lo hi m K := fun F H v hm h1 Q q => by
  obtain ⟨p, xs, rfl, s, r⟩ := dat_sqT hm h1
  refine .inr (.inl ⟨p, xs, rfl, s, fun w => ?_, fun _ p hp => q _ _ (post_T hm hp (r.cut lo hi) k)⟩)
  rw [r.length] at w
  rw [cutD_whole w] at k
  exact q _ _ (PostE.here k h1 hm)
theorem sl_S {z : Str} {lo hi : Option Int} (hl : z.length ≤ 16777216) (k : K (.d (.str (cutS z lo hi))) m) : SLW X (rSlZ X.K) (.d (.str z)) lo hi m K := fun F H v hm h1 Q q =>
  .inr (.inr ⟨z, h1.str, by rw [sizeLine_eq]; exact hl, q _ _ (PostE.here k (Rp.str _) hm)⟩)

/-! ### what is built in -/
theorem Ents.one {K : PySem.W.Frag} {F : Hp} {vs : List V} {r : Ent} (h : Ents K F vs [r]) : ∃ v, vs = [v] ∧ EntOk K F v r := by
  cases h with
  | cons q t => cases t; exact ⟨_, rfl, q⟩
theorem Ents.two {K : PySem.W.Frag} {F : Hp} {vs : List V} {r s : Ent} (h : Ents K F vs [r, s]) : ∃ v u, vs = [v, u] ∧ EntOk K F v r ∧ EntOk K F u s := by
  cases h with
  | cons q t => cases t with
    | cons q2 t => cases t; exact ⟨_, _, rfl, q, q2⟩
def rAbs : List V → Hp → VK → Prop := fun xs H Q => ∃ i, xs = [.int i] ∧ Q (.int (if i < 0 then -i else i)) H
theorem c_abs : CallR X (.builtin "abs") rAbs := call_abs
theorem abs_I {i : Int} (k : K (.d (.int (if i < 0 then -i else i))) m) : RCW X rAbs [.d (.int i)] m K := fun F H vs hm h Q q => by
  obtain ⟨v, rfl, ok⟩ := h.one
  exact ⟨i, by rw [ok.int], q _ _ (PostE.here k (Rp.int _) hm)⟩
def rMax2 : List V → Hp → VK → Prop := fun xs H Q => ∃ i j, xs = [.int i, .int j] ∧ Q (.int (if j > i then j else i)) H
def rMin2 : List V → Hp → VK → Prop := fun xs H Q => ∃ i j, xs = [.int i, .int j] ∧ Q (.int (if j < i then j else i)) H
theorem c_max2 (hc : X.calm = true) : CallR X (.builtin "max") rMax2 := call_max2 hc
theorem c_min2 (hc : X.calm = true) : CallR X (.builtin "min") rMin2 := call_min2 hc
theorem max_II {i j : Int} (k : K (.d (.int (max i j))) m) : RCW X rMax2 [.d (.int i), .d (.int j)] m K := fun F H vs hm h Q q => by
  obtain ⟨v, u, rfl, o1, o2⟩ := h.two
  have e : (if j > i then j else i) = max i j := by split <;> omega
  exact ⟨i, j, by rw [o1.int, o2.int], by rw [e]; exact q _ _ (PostE.here k (Rp.int _) hm)⟩
theorem min_II {i j : Int} (k : K (.d (.int (min i j))) m) : RCW X rMin2 [.d (.int i), .d (.int j)] m K := fun F H vs hm h Q q => by
  obtain ⟨v, u, rfl, o1, o2⟩ := h.two
  have e : (if j < i then j else i) = min i j := by split <;> omega
  exact ⟨i, j, by rw [o1.int, o2.int], by rw [e]; exact q _ _ (PostE.here k (Rp.int _) hm)⟩
def rLenZ (K : PySem.W.Frag) : List V → Hp → VK → Prop := fun xs H Q => ∃ x n, xs = [x] ∧ LenV K x H n ∧ Q (.int n) H
theorem c_len : CallR X (.builtin "len") (rLenZ X.K) := call_len
theorem len_L {ds : List PyData} (hx : Dat m x (.list ds)) (k : K (.d (.int (ds.length : Int))) m) : RCW X (rLenZ X.K) [x] m K := fun F H vs hm h Q q => by
  obtain ⟨v, rfl, ok⟩ := h.one
  obtain ⟨p, xs, rfl, s, r⟩ := hx.sqL hm ok
  exact ⟨_, xs.length, rfl, .inl ⟨xs, s, rfl⟩, q _ _ (PostE.here (r := .d (.int (xs.length : Int))) (by rw [r.length]; exact k) (Rp.int _) hm)⟩
theorem len_T {ds : List PyData} (k : K (.d (.int (ds.length : Int))) m) : RCW X (rLenZ X.K) [.d (.tuple ds)] m K := fun F H vs hm h Q q => by
  obtain ⟨v, rfl, ok⟩ := h.one
  obtain ⟨p, xs, rfl, s, r⟩ := dat_sqT hm ok
  exact ⟨_, xs.length, rfl, .inr ⟨xs, s, rfl⟩, q _ _ (PostE.here (r := .d (.int (xs.length : Int))) (by rw [r.length]; exact k) (Rp.int _) hm)⟩
theorem len_S {z : Str} (hl : z.length ≤ 16777216) (k : K (.d (.int (z.length : Int))) m) : RCW X (rLenZ X.K) [.d (.str z)] m K := fun F H vs hm h Q q => by
  obtain ⟨v, rfl, ok⟩ := h.one
  exact ⟨_, z.length, rfl, by rw [ok.str]; exact ⟨by rw [sizeLine_eq]; exact hl, rfl⟩, q _ _ (PostE.here k (Rp.int _) hm)⟩
theorem len_X {p : Addr} {es : List Ent} (hx : m p = some (.lst es)) (k : K (.d (.int (es.length : Int))) m) : RCW X (rLenZ X.K) [.x p] m K := fun F H vs hm h Q q => by
  obtain ⟨v, rfl, ok⟩ := h.one
  obtain ⟨xs, hH, rr⟩ := hm.obj p _ hx
  have e : v = .ref p := ok
  subst e
  exact ⟨_, xs.length, rfl, .inl ⟨xs, .inl (.inl hH), rfl⟩, q _ _ (PostE.here (r := .d (.int (xs.length : Int))) (by rw [Paired.length rr]; exact k) (Rp.int _) hm)⟩
def rInt1 : List V → Hp → VK → Prop := fun xs H Q => (∃ i, xs = [.int i] ∧ Q (.int i) H) ∨ ∃ k, xs = [.bl k] ∧ Q (.int (if k then 1 else 0)) H
theorem c_int1 : CallR X (.type "int") rInt1 := call_int1
theorem int_I {i : Int} (k : K (.d (.int i)) m) : RCW X rInt1 [.d (.int i)] m K := fun F H vs hm h Q q => by
  obtain ⟨v, rfl, ok⟩ := h.one
  exact .inl ⟨i, by rw [ok.int], q _ _ (PostE.here k (Rp.int _) hm)⟩
theorem int_B {i : Bool} (k : K (.d (.int (if i then 1 else 0))) m) : RCW X rInt1 [.d (.bool i)] m K := fun F H vs hm h Q q => by
  obtain ⟨v, rfl, ok⟩ := h.one
  exact .inr ⟨i, by rw [ok.bl], q _ _ (PostE.here k (Rp.int _) hm)⟩
def rTupOf (K : PySem.W.Frag) : List V → Hp → VK → Prop := fun xs H Q => ∃ p ys, xs = [.ref p] ∧ ((SqL K H p ys ∧ ∀ l, H l = none → Q (.ref l) (upd H l (.tup ys))) ∨ (SqT K H p ys ∧ Q (.ref p) H))
theorem c_tuple : CallR X (.type "tuple") (rTupOf X.K) := call_tuple_of
theorem tuple_L {ds : List PyData} (hx : Dat m x (.list ds)) (k : K (.d (.tuple ds)) m) : RCW X (rTupOf X.K) [x] m K := fun F H vs hm h Q q => by
  obtain ⟨v, rfl, ok⟩ := h.one
  obtain ⟨p, xs, rfl, s, r⟩ := hx.sqL hm ok
  exact ⟨p, xs, rfl, .inl ⟨s, fun l hl => q _ _ (post_T hm hl r k)⟩⟩
theorem tuple_T {ds : List PyData} (k : K (.d (.tuple ds)) m) : RCW X (rTupOf X.K) [.d (.tuple ds)] m K := fun F H vs hm h Q q => by
  obtain ⟨v, rfl, ok⟩ := h.one
  obtain ⟨p, xs, rfl, s, r⟩ := dat_sqT hm ok
  exact ⟨p, xs, rfl, .inr ⟨s, q _ _ (PostE.here k ok hm)⟩⟩
def rListOf (K : PySem.W.Frag) : List V → Hp → VK → Prop := fun xs H Q => ∃ p ys, xs = [.ref p] ∧ (SqL K H p ys ∨ SqT K H p ys) ∧ ∀ l, H l = none → Q (.ref l) (upd H l (.lst ys))
theorem c_list : CallR X (.type "list") (rListOf X.K) := call_list_of
theorem list_L {ds : List PyData} (hx : Dat m x (.list ds)) (k : K (.d (.list ds)) m) : RCW X (rListOf X.K) [x] m K := fun F H vs hm h Q q => by
  obtain ⟨v, rfl, ok⟩ := h.one
  obtain ⟨p, xs, rfl, s, r⟩ := hx.sqL hm ok
  exact ⟨p, xs, rfl, .inl s, fun l hl => q _ _ (post_L hm hl r k)⟩
theorem list_LX {ds : List PyData} (hx : Dat m x (.list ds)) (k : ∀ p, m p = none → K (.x p) (m.put p (.lst (List.map .d ds)))) : RCW X (rListOf X.K) [x] m K := fun F H vs hm h Q q => by
  obtain ⟨v, rfl, ok⟩ := h.one
  obtain ⟨p, xs, rfl, s, r⟩ := hx.sqL hm ok
  exact ⟨p, xs, rfl, .inl s, fun l hl => q _ _ (post_X hm hl r.ents k)⟩
theorem list_T {ds : List PyData} (k : K (.d (.list ds)) m) : RCW X (rListOf X.K) [.d (.tuple ds)] m K := fun F H vs hm h Q q => by
  obtain ⟨v, rfl, ok⟩ := h.one
  obtain ⟨p, xs, rfl, s, r⟩ := dat_sqT hm ok
  exact ⟨p, xs, rfl, .inr s, fun l hl => q _ _ (post_L hm hl r k)⟩
theorem list_TX {ds : List PyData} (k : ∀ p, m p = none → K (.x p) (m.put p (.lst (List.map .d ds)))) : RCW X (rListOf X.K) [.d (.tuple ds)] m K := fun F H vs hm h Q q => by
  obtain ⟨v, rfl, ok⟩ := h.one
  obtain ⟨p, xs, rfl, s, r⟩ := dat_sqT hm ok
  exact ⟨p, xs, rfl, .inr s, fun l hl => q _ _ (post_X hm hl r.ents k)⟩

/-! ### methods of what is built in -/
variable {name : Str} {apos : Pos} {T id : String}
def BMW (X : Cx) (r : V → List V → Hp → VK → Prop) (x : Ent) (rs : List Ent) (m : Mem) (K : KE) : Prop := ∀ F H v vs, MOk X.K F m H → EntOk X.K F v x → Ents X.K F vs rs → ∀ Q : VK, (∀ z H', PostE X F m H K z H' → Q z H') → r v vs H Q
def TyW (X : Cx) (T : String) (x : Ent) (m : Mem) : Prop := ∀ F H v, MOk X.K F m H → EntOk X.K F v x → tyV X.K T v H
theorem ty_L {ds : List PyData} (hx : Dat m x (.list ds)) : TyW X "list" x m := fun F H v hm ok => by
  obtain ⟨p, xs, rfl, s, r⟩ := hx.sqL hm ok
  exact .inl ⟨rfl, xs, s⟩
theorem ty_X {p : Addr} {es : List Ent} (hx : m p = some (.lst es)) : TyW X "list" (.x p) m := fun F H v hm ok => by
  obtain ⟨xs, hH, _⟩ := hm.obj p _ hx
  have e : v = .ref p := ok
  subst e
  exact .inl ⟨rfl, xs, .inl (.inl hH)⟩
theorem ty_S {z : Str} : TyW X "str" (.d (.str z)) m := fun F H v hm ok => by rw [ok.str]; exact (rfl : ("str" : String) = "str")
theorem we_bm {r : V → List V → Hp → VK → Prop} (pa : PlainAttrs T) (slot : Slot T name id) (hty : typeOf (.builtin id) = pure (.type "method_descriptor")) (hr : MtR X id r)
    (h : WE X o n m fun x m1 => TyW X T x m1 ∧ WA X (e :: es) n m1 fun rs m2 => BMW X r x rs m2 K)
    (hbase : attributeBase o name X.env (eval o X.env) = eval o X.env := by rfl)
    (hfew : ((backTo pos (starEach (e :: es) X.env)).all (fun x => !x.1) && (backToKw pos (keywordEach [] X.env)).all (fun x => x.1.isSome)
      && decide ((e :: es).length + ([] : List Keyword).length + (if ([] : List Keyword).isEmpty then 0 else 1) < 30)) = true := by rfl)
    (hline : (apos.endLine == pos.line) = true := by rfl) (hs0 : starEach (e :: es) X.env = (false, eval e X.env) :: starEach es X.env := by rfl) (hpl : (backTo pos (starEach es X.env)).any (·.1) = false := by rfl) :
    WE X (.Call (.Attribute o name apos) (e :: es) [] pos) n m K := fun F σ H hm hs =>
  wpE.of (pe_bm pa slot hty hr pe_wp pa_wp hbase hfew hline hs0 hpl) (h.go hm hs fun F1 v H1 x m1 h1 ok1 hm1 st1 hs1 => ⟨h1.1 F1 H1 v hm1 ok1, h1.2.go hm1 hs1 fun F2 vs H2 rs m2 h2 ok2 hm2 st2 hs2 =>
    h2 F2 H2 v vs hm2 (ok1.inc st2.fr) ok2 _ fun z H' q => PostE.after (st1.trans st2) q⟩)
theorem we_bm0 {r : V → List V → Hp → VK → Prop} (pa : PlainAttrs T) (slot : Slot T name id) (hty : typeOf (.builtin id) = pure (.type "method_descriptor")) (hr : MtR X id r)
    (h : WE X o n m fun x m1 => TyW X T x m1 ∧ BMW X r x [] m1 K)
    (hbase : attributeBase o name X.env (eval o X.env) = eval o X.env := by rfl) (hline : (apos.endLine == pos.line) = true := by rfl) : WE X (.Call (.Attribute o name apos) [] [] pos) n m K := fun F σ H hm hs =>
  wpE.of (pe_bm0 pa slot hty hr pe_wp hbase hline) (h.go hm hs fun F1 v H1 x m1 h1 ok1 hm1 st1 hs1 => ⟨h1.1 F1 H1 v hm1 ok1, h1.2 F1 H1 v [] hm1 ok1 .nil _ fun z H' q => PostE.after st1 q⟩)
theorem app_X {p : Addr} {es : List Ent} {r : Ent} (hx : m p = some (.lst es)) (hl : es.length < 16777216) (k : K (.d .none) (m.put p (.lst (es ++ [r])))) : BMW X rAppend (.x p) [r] m K := fun F H v vs hm h1 h2 Q q => by
  obtain ⟨y, rfl, ok⟩ := h2.one
  obtain ⟨xs, hH, rr⟩ := hm.obj p _ hx
  refine ⟨p, xs, y, h1, rfl, hH, by rw [Paired.length rr, sizeLine_eq]; exact hl, q _ _ ⟨F, _, _, k, Rp.non, hm.mut hx ⟨_, upd_same, Paired.snoc rr ok⟩, Step.mut hx⟩⟩
theorem clear_X {p : Addr} {es : List Ent} (hx : m p = some (.lst es)) (k : K (.d .none) (m.put p (.lst []))) : BMW X rClear (.x p) [] m K := fun F H v vs hm h1 h2 Q q => by
  cases h2
  obtain ⟨xs, hH, rr⟩ := hm.obj p _ hx
  exact ⟨p, xs, h1, rfl, hH, q _ _ ⟨F, _, _, k, Rp.non, hm.mut hx ⟨_, upd_same, .nil⟩, Step.mut hx⟩⟩
def rJoin (K : PySem.W.Frag) : V → List V → Hp → VK → Prop := fun x xs H Q => ∃ a p, ∃ ys : List Str, x = .str a ∧ xs = [.ref p] ∧ (SqL K H p (ys.map V.str) ∨ SqT K H p (ys.map V.str)) ∧
    (ys.map (·.length)).sum + ys.length * a.length ≤ 16777216 ∧ Q (.str (Txt.join a ys)) H
theorem m_join : MtR X "str.join" (rJoin X.K) := mt_join
theorem strs_of {K : PySem.W.Frag} {F : Hp} : ∀ {ys : List Str} {xs : List V}, RpAll K F xs (ys.map .str) → xs = ys.map V.str
  | [], _, .nil => rfl
  | y :: ys, _, .cons r t => by
    cases r
    rw [List.map_cons, strs_of t]
theorem ints_of {K : PySem.W.Frag} {F : Hp} : ∀ {ys : List Int} {xs : List V}, RpAll K F xs (ys.map .int) → xs = ys.map V.int
  | [], _, .nil => rfl
  | y :: ys, _, .cons r t => by
    cases r
    rw [List.map_cons, ints_of t]
theorem bls_of {K : PySem.W.Frag} {F : Hp} : ∀ {ys : List Bool} {xs : List V}, RpAll K F xs (ys.map .bool) → xs = ys.map V.bl
  | [], _, .nil => rfl
  | y :: ys, _, .cons r t => by
    cases r
    rw [List.map_cons, bls_of t]
theorem join_L {a : Str} {ys : List Str} (hx : Dat m x (.list (ys.map .str))) (hl : (ys.map (·.length)).sum + ys.length * a.length ≤ 16777216) (k : K (.d (.str (Txt.join a ys))) m) : BMW X (rJoin X.K) (.d (.str a)) [x] m K := fun F H v vs hm h1 h2 Q q => by
  obtain ⟨y, rfl, ok⟩ := h2.one
  obtain ⟨p, xs, rfl, s, r⟩ := hx.sqL hm ok
  have e := strs_of r
  subst e
  exact ⟨a, p, ys, h1.str, rfl, .inl s, hl, q _ _ (PostE.here k (Rp.str _) hm)⟩
theorem join_T {a : Str} {ys : List Str} (hl : (ys.map (·.length)).sum + ys.length * a.length ≤ 16777216) (k : K (.d (.str (Txt.join a ys))) m) : BMW X (rJoin X.K) (.d (.str a)) [.d (.tuple (ys.map .str))] m K := fun F H v vs hm h1 h2 Q q => by
  obtain ⟨y, rfl, ok⟩ := h2.one
  obtain ⟨p, xs, rfl, s, r⟩ := dat_sqT hm ok
  have e := strs_of r
  subst e
  exact ⟨a, p, ys, h1.str, rfl, .inr s, hl, q _ _ (PostE.here k (Rp.str _) hm)⟩
theorem we_append (h : WE X o n m fun x m1 => TyW X "list" x m1 ∧ WA X (e :: es) n m1 fun rs m2 => BMW X rAppend x rs m2 K)
    (hbase : attributeBase o "append" X.env (eval o X.env) = eval o X.env := by rfl)
    (hfew : ((backTo pos (starEach (e :: es) X.env)).all (fun x => !x.1) && (backToKw pos (keywordEach [] X.env)).all (fun x => x.1.isSome)
      && decide ((e :: es).length + ([] : List Keyword).length + (if ([] : List Keyword).isEmpty then 0 else 1) < 30)) = true := by rfl)
    (hline : (apos.endLine == pos.line) = true := by rfl) (hs0 : starEach (e :: es) X.env = (false, eval e X.env) :: starEach es X.env := by rfl) (hpl : (backTo pos (starEach es X.env)).any (·.1) = false := by rfl) :
    WE X (.Call (.Attribute o "append" apos) (e :: es) [] pos) n m K := we_bm PySem.F.plainAttrs_list PySem.F.slot_list_append PySem.F.type_list_append mt_append h hbase hfew hline hs0 hpl
theorem we_join (h : WE X o n m fun x m1 => TyW X "str" x m1 ∧ WA X (e :: es) n m1 fun rs m2 => BMW X (rJoin X.K) x rs m2 K)
    (hbase : attributeBase o "join" X.env (eval o X.env) = eval o X.env := by rfl)
    (hfew : ((backTo pos (starEach (e :: es) X.env)).all (fun x => !x.1) && (backToKw pos (keywordEach [] X.env)).all (fun x => x.1.isSome)
      && decide ((e :: es).length + ([] : List Keyword).length + (if ([] : List Keyword).isEmpty then 0 else 1) < 30)) = true := by rfl)
    (hline : (apos.endLine == pos.line) = true := by rfl) (hs0 : starEach (e :: es) X.env = (false, eval e X.env) :: starEach es X.env := by rfl) (hpl : (backTo pos (starEach es X.env)).any (·.1) = false := by rfl) :
    WE X (.Call (.Attribute o "join" apos) (e :: es) [] pos) n m K := we_bm PySem.F.plainAttrs_str PySem.F.slot_str_join PySem.F.type_str_join m_join h hbase hfew hline hs0 hpl
theorem we_clear (h : WE X o n m fun x m1 => TyW X "list" x m1 ∧ BMW X rClear x [] m1 K)
    (hbase : attributeBase o "clear" X.env (eval o X.env) = eval o X.env := by rfl) (hline : (apos.endLine == pos.line) = true := by rfl) : WE X (.Call (.Attribute o "clear" apos) [] [] pos) n m K := we_bm0 PySem.F.plainAttrs_list PySem.F.slot_list_clear PySem.F.type_list_clear mt_clear h hbase hline
end
end Z

/-! Z6: sums, greatest, least; products of great numbers; the end of a law. -/
namespace Z
open PySem PySem.Spec PyProof.Rows L2
set_option linter.all false
section
variable {X : Cx} {n : Nm} {m : Mem} {K : KE} {x y : Ent}
/-! ### products -/
def CMulZ (i j : Int) : Prop := i.natAbs.log2 + j.natAbs.log2 < 100000000
theorem CMulZ.ok {i j : Int} (h : CMulZ i j) : IntMulOk i j := by
  have bits : ∀ z : Int, Builtin.Int.intBits z ≤ z.natAbs.log2 + 1 := fun z => by
    unfold Builtin.Int.intBits
    split <;> omega
  have b1 := bits i
  have b2 := bits j
  unfold CMulZ at h
  intro hz
  rw [Bool.and_eq_true] at hz
  have hz2 := hz.2
  unfold Builtin.Int.intTooBig at hz2
  have hz3 := of_decide_eq_true hz2
  have line : bitsLine = 134217728 := by decide
  rw [line] at hz3
  omega
theorem op_mulZ : OpR X (binaryOp .Mult) (rI CMulZ fun i j => .int (i * j)) := opI fun _ _ _ _ _ _ _ hc q => mul_int q hc.ok
/-- both small -/
theorem CMulZ.small {i j : Int} (h1 : -(2 ^ 400) < i ∧ i < 2 ^ 400) (h2 : -(2 ^ 400) < j ∧ j < 2 ^ 400) : CMulZ i j := by
  have e1 : i.natAbs < 2 ^ 400 := by omega
  have e2 : j.natAbs < 2 ^ 400 := by omega
  have a1 := PySem.Flt.log2_lt_of (by decide) e1
  have a2 := PySem.Flt.log2_lt_of (by decide) e2
  unfold CMulZ
  omega
/-! ### sum, max, min of whole numbers -/
def SqI (K : PySem.W.Frag) (H : Hp) (a : Addr) (ns : List Int) : Prop := SqL K H a (ns.map V.int) ∨ SqT K H a (ns.map V.int)
def rSumZ (K : PySem.W.Frag) : List V → Hp → VK → Prop := fun vs H Q => ∃ (a : Addr) (ns : List Int), vs = [V.ref a] ∧ SqI K H a ns ∧ Q (.int ns.sum) H
def rMaxZ (K : PySem.W.Frag) : List V → Hp → VK → Prop := fun vs H Q => ∃ (a : Addr) (i : Int) (ns : List Int), vs = [V.ref a] ∧ SqI K H a (i :: ns) ∧ Q (.int (ns.foldl max i)) H
def rMinZ (K : PySem.W.Frag) : List V → Hp → VK → Prop := fun vs H Q => ∃ (a : Addr) (i : Int) (ns : List Int), vs = [V.ref a] ∧ SqI K H a (i :: ns) ∧ Q (.int (ns.foldl min i)) H
theorem c_sumZ (hc : X.calm = true) : CallR X (.builtin "sum") (rSumZ X.K) := by
  intro pins s σ H vs us Q I r ⟨a, ns, e, hs, q⟩
  rcases hs with hs | hs
  · exact cr_sum hc pins s σ H vs us Q I r ⟨a, ns, e, hs, q⟩
  · subst e
    obtain ⟨its, rv, ht, _⟩ := I.tuple hs
    rw [Vals.ref1 r]
    obtain ⟨zs, ez⟩ := rv.ints.allInts.items
    have hn : numsOf (intItems zs).toList = ns := by rw [← ez]; exact rv.ints.numsOf
    rw [nums_intItems] at hn
    rw [ez] at ht
    refine PySem.W.ktm_sumG (I.ok.hd hc) ht fun h' tk t' hk => ⟨.int _, H, I.kept hk, ⟨t', ?_⟩, q⟩
    rw [preSum_eq, List.take_of_length_le (by simp), hn]
theorem alike_ints (ns : List Int) : PySem.W.AlikeAll (ns.map .int) := by
  refine ⟨fun a ha b hb => ?_, fun a ha => ?_⟩
  · obtain ⟨i, _, rfl⟩ := List.mem_map.mp ha
    obtain ⟨j, _, rfl⟩ := List.mem_map.mp hb
    rfl
  · obtain ⟨i, _, rfl⟩ := List.mem_map.mp ha
    exact fun z => nomatch z
theorem depth_ints : ∀ ns : List Int, PyData.depthAll (ns.map .int) = 0
  | [] => rfl
  | i :: ns => by rw [List.map_cons, PyData.depthAll, depth_ints ns]; rfl
theorem reads_ints {h : Heap} : ∀ {vs : List Value} {ns : List Int}, IntsAre vs ns → ReadsAll h vs (ns.map .int) []
  | _, _, .nil => .nil
  | _, _, .cons n t r => by
    have := ReadsAll.cons (Reads.int (h := h) n t) (reads_ints r)
    exact this
theorem c_maxZ {k : Nat} (c : XC X k) : CallR X (.builtin "max") (rMaxZ X.K) := by
  intro pins s σ H vs us Q I r ⟨a, i, ns, e, hs, q⟩
  subst e
  have hu : X.A.units + 1 + PyData.depthAll ((i :: ns).map .int) < cLine := by
    rw [depth_ints]
    have := c.room.units
    omega
  have fin : ∀ (v : Value) (h' : Heap) (tk : Nat) (bs : List Addr), Reads h' v (PySem.W.maxD (.int i) (ns.map .int)) bs → (∀ b o, s.heap.get? b = some o → h'.get? b = some o) → EP X pins σ Q v { s with heap := h', toks := tk } := fun v h' tk bs rd hk => by
    rw [PySem.W.maxD_ints] at rd
    cases rd
    exact ⟨.int _, H, I.kept hk, ⟨_, rfl⟩, q⟩
  rcases hs with hs | hs
  · obtain ⟨its, rv, hl, _⟩ := I.list hs
    rw [Vals.ref1 r]
    exact PySem.W.max_list_data (I.ok.hd c.calm) hl.isList (reads_ints rv.ints) (alike_ints (i :: ns)) hu fun j v h' tk bs _ rd hk => fin v h' tk bs rd hk
  · obtain ⟨its, rv, hl, _⟩ := I.tuple hs
    rw [Vals.ref1 r]
    exact PySem.W.max_tuple_data (I.ok.hd c.calm) hl (reads_ints rv.ints) (alike_ints (i :: ns)) hu fun j v h' tk bs _ rd hk => fin v h' tk bs rd hk
theorem c_minZ {k : Nat} (c : XC X k) : CallR X (.builtin "min") (rMinZ X.K) := by
  intro pins s σ H vs us Q I r ⟨a, i, ns, e, hs, q⟩
  subst e
  have hu : X.A.units + 1 + PyData.depthAll ((i :: ns).map .int) < cLine := by
    rw [depth_ints]
    have := c.room.units
    omega
  have fin : ∀ (v : Value) (h' : Heap) (tk : Nat) (bs : List Addr), Reads h' v (PySem.W.minD (.int i) (ns.map .int)) bs → (∀ b o, s.heap.get? b = some o → h'.get? b = some o) → EP X pins σ Q v { s with heap := h', toks := tk } := fun v h' tk bs rd hk => by
    rw [PySem.W.minD_ints] at rd
    cases rd
    exact ⟨.int _, H, I.kept hk, ⟨_, rfl⟩, q⟩
  rcases hs with hs | hs
  · obtain ⟨its, rv, hl, _⟩ := I.list hs
    rw [Vals.ref1 r]
    exact PySem.W.min_list_data (I.ok.hd c.calm) hl.isList (reads_ints rv.ints) (alike_ints (i :: ns)) hu fun j v h' tk bs _ rd hk => fin v h' tk bs rd hk
  · obtain ⟨its, rv, hl, _⟩ := I.tuple hs
    rw [Vals.ref1 r]
    exact PySem.W.min_tuple_data (I.ok.hd c.calm) hl (reads_ints rv.ints) (alike_ints (i :: ns)) hu fun j v h' tk bs _ rd hk => fin v h' tk bs rd hk
/-- a list or a tuple of data -/
def DatS (m : Mem) (x : Ent) (ds : List PyData) : Prop := Dat m x (.list ds) ∨ x = .d (.tuple ds)
theorem DatS.sqI {K : PySem.W.Frag} {F H : Hp} {v : V} {ns : List Int} (h : DatS m x (ns.map .int)) (hm : MOk K F m H) (ok : EntOk K F v x) : ∃ a, v = .ref a ∧ SqI K H a ns := by
  rcases h with h | h
  · obtain ⟨p, xs, rfl, s, r⟩ := h.sqL hm ok
    rw [ints_of r] at s
    exact ⟨p, rfl, .inl s⟩
  · subst h
    obtain ⟨p, xs, rfl, s, r⟩ := dat_sqT hm ok
    rw [ints_of r] at s
    exact ⟨p, rfl, .inr s⟩
theorem sum_Z {ns : List Int} (hx : DatS m x (ns.map .int)) (k : K (.d (.int ns.sum)) m) : RCW X (rSumZ X.K) [x] m K := fun F H vs hm h Q q => by
  obtain ⟨v, rfl, ok⟩ := h.one
  obtain ⟨a, rfl, s⟩ := hx.sqI hm ok
  exact ⟨a, ns, rfl, s, q _ _ (PostE.here k (Rp.int _) hm)⟩
theorem max_Z {i : Int} {ns : List Int} (hx : DatS m x ((i :: ns).map .int)) (k : K (.d (.int (ns.foldl max i))) m) : RCW X (rMaxZ X.K) [x] m K := fun F H vs hm h Q q => by
  obtain ⟨v, rfl, ok⟩ := h.one
  obtain ⟨a, rfl, s⟩ := hx.sqI hm ok
  exact ⟨a, i, ns, rfl, s, q _ _ (PostE.here k (Rp.int _) hm)⟩
theorem min_Z {i : Int} {ns : List Int} (hx : DatS m x ((i :: ns).map .int)) (k : K (.d (.int (ns.foldl min i))) m) : RCW X (rMinZ X.K) [x] m K := fun F H vs hm h Q q => by
  obtain ⟨v, rfl, ok⟩ := h.one
  obtain ⟨a, rfl, s⟩ := hx.sqI hm ok
  exact ⟨a, i, ns, rfl, s, q _ _ (PostE.here k (Rp.int _) hm)⟩
end

/-! ### the end -/
/-- the law's own promise: of any script it hands back True -/
def lawS (n : Nat) : Prm where
  I := List Int
  args ns := [.d (.list (ns.map .int))]
  pre ns m := ns.length ≤ n ∧ (∀ z ∈ ns, Builtin.Int.intBits z ≤ 1048576) ∧ m = fun _ => none
  post _ _ r _ := r = .d (.bool true)
theorem rp_ints {K : PySem.W.Frag} {F : Hp} : ∀ ns : List Int, RpAll K F (ns.map V.int) (ns.map .int)
  | [] => .nil
  | i :: ns => .cons (.int i) (rp_ints ns)
theorem root_G {P : Program} {w : World} {K : PySem.W.Frag} {mg mb : Str → Option Value} {k n : Nat} {fa a : Addr} {fd : FuncData} {x : Str} {s₁ : Shared} {vs : List Value} {ns : List Int}
    (KX : K.In s₁.heap) (hns : s₁.heap.Ns mainGlobals mg) (hb : s₁.heap.Ns builtinsNs mb) (hbb : ∀ x : Str, x ≠ "__name__" → mb x = bootBuiltins x) (hlim : s₁.heap.NoLimit) (hgens : s₁.gens = #[])
    (ha : s₁.heap.get? a = some { cls := .type "list", data := .seq vs.toArray }) (hi : IntsAre vs ns) (hl : ns.length ≤ n) (hl2 : n ≤ sizeLine) (hbits : ∀ z ∈ ns, Builtin.Int.intBits z ≤ 1048576) (hr : Room k callerA)
    (G : ∀ base : Heap, K.In base → base.Ns mainGlobals mg → FnG P w K mg base k fa fd [x] (spW K (lawS n))) (hbind : ∀ (s : Shared) (u : Value), BindsTo s fd ⟨[u], []⟩ [(x, u)]) :
    codeAny (model P w) callerA (.call (.ref fa) ⟨[.ref a], []⟩) (fun r s' => r = .ok (.ret (.bool true)) ∧ OldK s₁.heap s'.heap ∧ s'.os = s₁.os ∧ AllBare s'.gens) s₁ := by
  have rv : Vals (ns.map V.int) vs := vals_ints hi
  obtain ⟨H, one, locked, seq, hold⟩ : ∃ H : Hp, (∀ b, H b ≠ none → b = a ∧ K.lookup a = none) ∧ (∀ b u, H b = some u → ∃ o xs, u = .frz o (.lst xs)) ∧ SqL K H a (ns.map V.int) ∧ HOk P w H s₁.heap := by
    cases hk : K.lookup a with
    | some o =>
      have e := KX a o hk
      rw [ha] at e
      cases e
      have no : ∀ (b : Addr) (u : HO), (fun _ => none : Hp) b = some u → False := fun b u z => by
        have z' : (none : Option HO) = some u := z
        cases z'
      refine ⟨fun _ => none, fun b z => absurd rfl z, fun b u z => (no b u z).elim, Or.inr ⟨_, vs.toArray, _, hk, rfl, rfl, rfl, ?_, by simpa using rv⟩, fun b u z => (no b u z).elim⟩
      rw [List.size_toArray, hi.length]
      omega
    | none =>
      have at_ : ∀ b u, (if b = a then some (HO.frz { cls := .type "list", data := .seq vs.toArray } (.lst (ns.map V.int))) else none) = some u → b = a ∧ u = .frz { cls := .type "list", data := .seq vs.toArray } (.lst (ns.map V.int)) := fun b u z => by
        split at z
        · cases z; exact ⟨by assumption, rfl⟩
        · cases z
      refine ⟨fun b => if b = a then some (.frz { cls := .type "list", data := .seq vs.toArray } (.lst (ns.map V.int))) else none, fun b z => ?_, fun b u z => ⟨_, _, (at_ b u z).2⟩, .inl (.inr ⟨_, if_pos rfl⟩), fun b u z => ?_⟩
      · by_cases q : b = a
        · exact ⟨q, rfl⟩
        · exact absurd (if_neg q) z
      · obtain ⟨rfl, rfl⟩ := at_ b u z
        exact ⟨ha, by rw [List.length_map]; omega, vs, _, rv, ha⟩
  have cases_H : ∀ b, H b = none ∨ ∃ u, H b = some u := fun b => by
    cases H b with
    | none => exact .inl rfl
    | some u => exact .inr ⟨u, rfl⟩
  have under : ∀ {b : Addr} {o : Obj}, s₁.heap.get? b = some o → H b = none → (hidT s₁.heap H).get? b = some o := fun e z => hidT_get e z
  have nodictH : ∀ {b : Addr} {o : Obj} {es : Array DictEntry} {ep : Nat}, s₁.heap.get? b = some o → o.data = .dict es ep → H b = none := fun {b o es ep} e d => by
    rcases cases_H b with z | ⟨u, z⟩
    · exact z
    · obtain ⟨rfl, _⟩ := one b (by rw [z]; exact fun q => nomatch q)
      rw [ha] at e
      cases e
      cases d
  have names : ∀ {b : Addr} {mm : Str → Option Value}, s₁.heap.Ns b mm → (hidT s₁.heap H).Ns b mm := fun {b mm} ⟨o, es, ep, e, d, q⟩ => ⟨o, es, ep, under e (nodictH e d), d, q⟩
  have kin : K.In (hidT s₁.heap H) := fun b o e => under (KX b o e) (by
    rcases cases_H b with z | ⟨u, z⟩
    · exact z
    · obtain ⟨rfl, q⟩ := one b (by rw [z]; exact fun q => nomatch q)
      rw [q] at e
      cases e)
  have lim : (hidT s₁.heap H).NoLimit := by
    obtain ⟨mc, h1, h2⟩ := hlim
    exact ⟨mc, names h1, h2⟩
  have e0 : Env0 P w K mg (hidT s₁.heap H) callerA [] s₁ H := ⟨rfl, ⟨kin, names hns, ⟨mb, names hb, hbb⟩, lim⟩, fun b o e => of_hidT e, Nat.le_of_eq (hidT_size _ _), trivial, fun b hb => absurd (show b ∈ ([] : List Addr) from hb) (by simp), hold, .of_eq hgens⟩
  have want : spW K (lawS n) [.ref a] H (fun v _ => v = .bl true) E0 := by
    refine ⟨ns, H, fun _ => none, .cons (Rp.lst seq (rp_ints ns)) .nil, ⟨fun _ _ z => z, fun _ o z => absurd (show (none : Option XO) = some o from z) (fun q => nomatch q), fun _ o z => absurd (show (none : Option XO) = some o from z) (fun q => nomatch q)⟩, ⟨hl, hbits, rfl⟩, fun F' r m' v H' q ok _ _ => ?_⟩
    have q' : r = .d (.bool true) := q
    subst q'
    exact ok.bl
  refine codeAny_mono ((G _ kin (names hns)).run callerA [] s₁ H ⟨[.ref a], []⟩ [.ref a] [.ref a] _ _ hr rfl e0 (hbind s₁ (.ref a)) (.cons rfl .nil) want) fun r s' h => ?_
  match r, h with
  | .error e, ⟨_, _, _, _, _, _, _, _, _, _, _, _, z⟩ => exact z.elim
  | .ok (.ret u), ⟨v, H', os, bare, un, hok', rel, q⟩ =>
    have q' : v = .bl true := q
    subst q'
    obtain rfl : u = Value.bool true := rel
    refine ⟨rfl, OldK.of_keep fun b o e => ?_, os, bare⟩
    rcases cases_H b with z | ⟨u, z⟩
    · exact un.keep b o e z (fun q => absurd (show b ∈ ([] : List Addr) from q) (by simp)) (by simp)
    · obtain ⟨ob, xs, rfl⟩ := locked b u z
      have f1 := (hold b _ z).1
      have f2 := (hok' b _ (un.frzs b ob _ z)).1
      rw [e] at f1
      cases f1
      exact f2
theorem walk_G {l : PySem.W.OpenLaw} {n k : Nat} {q : Program} {loose : List Str} {XP : (Str → Option Value) → Heap → Prop} {YP : World → Heap → Prop} {d : DefRec} {K : Params → PySem.W.Frag} {x : Str}
    (hn : l.most = some n) (hn2 : n ≤ sizeLine) (hdf : d.params.defaults = []) (hr : Room k callerA)
    (hY : ∀ (w : World) (h : Heap), YP w h → (K w.params).In h)
    (G : ∀ (w : World) (mg : Str → Option Value) (fa : Addr) (h : Heap), (K w.params).In h → h.Ns mainGlobals mg → mg d.name = some (.ref fa) →
      ∃ fd : FuncData, (∀ (s : Shared) (u : Value), BindsTo s fd ⟨[u], []⟩ [(x, u)]) ∧
        ∀ base : Heap, (K w.params).In base → base.Ns mainGlobals mg → FnG l.prog w (K w.params) mg base k fa fd [x] (spW (K w.params) (lawS n))) :
    PySem.W.WalkO q loose XP YP l.row.toRowW d [] (fun f vs => PySem.call f vs) := by
  refine Att.attach_callB hn hdf fun w s₀ s₁ mg mb fa o pm cd doc a vs ns Gr Y _ _ _ hmg hobj hints hlen hbits hgens => ?_
  have KX := hY w _ Y
  obtain ⟨fd, hb, hF⟩ := G w mg fa _ KX Gr.T.g hmg
  exact root_G KX Gr.T.g Gr.T.b Gr.T.builtins Gr.T.nolimit hgens hobj hints hlen hn2 hbits hr hF hb
end Z

/-! Z7: repr; classes of one's own: made, fields, methods, properties; calls by keywords. -/
namespace Z
open PySem PySem.Spec L2
set_option linter.all false

/-! ### repr -/
mutual
/-- a bound of the length of a value's text -/
def rz : PyData → Nat
  | .none => 8
  | .bool _ => 8
  | .int _ => 1922
  | .str x => 10 * x.length + 2
  | .list xs => rzAll xs + 3
  | .tuple xs => rzAll xs + 3
  | .dict _ => 2
def rzAll : List PyData → Nat
  | [] => 0
  | x :: xs => rz x + 2 + rzAll xs
end
mutual
/-- every text and number in it can be told -/
def okR : PyData → Bool
  | .none => true
  | .bool _ => true
  | .int i => decide (i.natAbs.log2 < 1920)
  | .str x => x.cps.toList.all fun c => decide (c < 16 ^ 8)
  | .list xs => okRAll xs
  | .tuple xs => okRAll xs
  | .dict _ => false
def okRAll : List PyData → Bool
  | [] => true
  | x :: xs => okR x && okRAll xs
end
mutual
theorem shown_rz : ∀ d : PyData, okR d = true → d.shown.length ≤ rz d
  | .none, _ => by show (4 : Nat) ≤ 8; omega
  | .bool b, _ => by cases b <;> decide
  | .int i, h => by
    have h : i.natAbs.log2 < 1920 := by simpa [okR] using h
    have e := int_text_length_le (k := 1920) (by decide) h
    have e2 : (PyData.shown (.int i)).length = (toString i).length := by
      show (Str.ofString (toString i)).length = _
      rw [ofString_length]
    rw [e2]
    show _ ≤ 1922
    omega
  | .str x, h => by
    have h : ∀ c ∈ x.cps.toList, c < 16 ^ 8 := by simpa only [okR, List.all_eq_true, decide_eq_true_eq] using h
    exact StrLaws.reprText_len x h
  | .list xs, h => by
    have h1 := shownAll_rz xs (by simpa only [okR] using h)
    have h2 := listText_len_le (PyData.shownAll xs)
    have h3 := PyData.shownAll_length xs
    simp only [PyData.shown, rz]
    omega
  | .tuple xs, h => by
    have h1 := shownAll_rz xs (by simpa only [okR] using h)
    have h2 := tupleText_len_le (PyData.shownAll xs)
    have h3 := PyData.shownAll_length xs
    simp only [PyData.shown, rz]
    omega
  | .dict _, h => by simp [okR] at h
theorem shownAll_rz : ∀ xs : List PyData, okRAll xs = true → ((PyData.shownAll xs).map (·.length)).sum + 2 * xs.length ≤ rzAll xs
  | [], _ => by simp only [PyData.shownAll, rzAll, List.map_nil, List.sum_nil, List.length_nil]; omega
  | x :: xs, h => by
    simp only [okRAll, Bool.and_eq_true] at h
    have h1 := shown_rz x h.1
    have h2 := shownAll_rz xs h.2
    simp only [PyData.shownAll, rzAll, List.map_cons, List.sum_cons, List.length_cons]
    omega
end
mutual
theorem okR_showable : ∀ d : PyData, okR d = true → d.showable = true
  | .none, _ => rfl
  | .bool _, _ => rfl
  | .int i, h => by simpa [okR, PyData.showable] using h
  | .str x, _ => rfl
  | .list xs, h => by simpa only [PyData.showable] using okRAll_showable xs (by simpa only [okR] using h)
  | .tuple xs, h => by simpa only [PyData.showable] using okRAll_showable xs (by simpa only [okR] using h)
  | .dict _, h => by simp [okR] at h
theorem okRAll_showable : ∀ xs : List PyData, okRAll xs = true → PyData.showableAll xs = true
  | [], _ => by simp only [PyData.showableAll]
  | x :: xs, h => by
    simp only [okRAll, Bool.and_eq_true] at h
    simp only [PyData.showableAll, Bool.and_eq_true]
    exact ⟨okR_showable x h.1, okRAll_showable xs h.2⟩
end
mutual
theorem okR_hasDict : ∀ d : PyData, okR d = true → d.hasDict = false
  | .none, _ => by simp only [PyData.hasDict]
  | .bool _, _ => by simp only [PyData.hasDict]
  | .int i, h => by simp only [PyData.hasDict]
  | .str x, _ => by simp only [PyData.hasDict]
  | .list xs, h => by simpa only [PyData.hasDict] using okRAll_hasDict xs (by simpa only [okR] using h)
  | .tuple xs, h => by simpa only [PyData.hasDict] using okRAll_hasDict xs (by simpa only [okR] using h)
  | .dict _, h => by simp [okR] at h
theorem okRAll_hasDict : ∀ xs : List PyData, okRAll xs = true → PyData.hasDictAll xs = false
  | [], _ => by simp only [PyData.hasDictAll]
  | x :: xs, h => by
    simp only [okRAll, Bool.and_eq_true] at h
    simp only [PyData.hasDictAll, Bool.or_eq_false_iff]
    exact ⟨okR_hasDict x h.1, okRAll_hasDict xs h.2⟩
end
mutual
theorem okR_nodict : ∀ d : PyData, okR d = true → nodict d = true
  | .none, _ => rfl
  | .bool _, _ => rfl
  | .int i, h => rfl
  | .str x, _ => rfl
  | .list xs, h => by simpa only [nodict] using okRAll_nodict xs (by simpa only [okR] using h)
  | .tuple xs, h => by simpa only [nodict] using okRAll_nodict xs (by simpa only [okR] using h)
  | .dict _, h => by simp [okR] at h
theorem okRAll_nodict : ∀ xs : List PyData, okRAll xs = true → nodictAll xs = true
  | [], _ => rfl
  | x :: xs, h => by
    simp only [okRAll, Bool.and_eq_true] at h
    simp only [nodictAll, Bool.and_eq_true]
    exact ⟨okR_nodict x h.1, okRAll_nodict xs h.2⟩
end
/-- what repr tells -/
structure Shw (d : PyData) : Prop where
  ok : okR d = true
  sz : rz d ≤ sizeLine
  dp : d.depth ≤ 64
theorem Shw.fits {d : PyData} (h : Shw d) : d.shown.length ≤ sizeLine := Nat.le_trans (shown_rz d h.ok) h.sz
section
variable {X : Cx} {k : Nat}
theorem call_repr_D (c : XC X k) : CallR X (.builtin "repr") (fun xs H Q => ∃ v d, xs = [v] ∧ Dp X.K H v d ∧ Shw d ∧ Q (.str d.shown) H) := by
  intro pins s σ H xs us Q I r h
  obtain ⟨v, d, rfl, dp, sh, q⟩ := h
  obtain ⟨rv, e, t⟩ := vals1 r
  have hu : X.A.units + (d.depth + 1) < cLine := by
    have h1 := c.room.un
    have h2 := sh.dp
    omega
  have fits := sh.fits
  obtain ⟨as, rd⟩ := Dp.reads I d v _ dp t
  cases e
  cases dp with
  | non =>
    cases t
    exact PySem.P.repr_of_none ⟨.str _, H, I.tok _, ⟨_, rfl⟩, q⟩
  | bl b =>
    cases t
    exact PySem.P.repr_of_bool ⟨.str _, H, I.tok _, ⟨_, rfl⟩, by cases b <;> exact q⟩
  | int i =>
    obtain ⟨t, rfl⟩ := (show ∃ t, rv = Value.int i t from t)
    have hz : i.natAbs.log2 < 1920 := by simpa [okR] using sh.ok
    exact PySem.P.repr_of_int hz ⟨.str _, H, I.tok _, ⟨_, rfl⟩, q⟩
  | str x =>
    obtain ⟨t, rfl⟩ := (show ∃ t, rv = Value.str x t from t)
    exact PySem.P.repr_of_str ⟨.str _, H, I.tok _, ⟨_, rfl⟩, q⟩ fits
  | lst _ _ =>
    cases t
    exact repr_of_reads' rd (okR_showable _ sh.ok) (PyData.noDict_hsm (okR_hasDict _ sh.ok)) c.guards hu (fun _ _ e => e) (fun h' u tk hk => ⟨.str _, H, I.kept hk, ⟨_, rfl⟩, q⟩) fits
  | tup _ _ =>
    cases t
    exact repr_of_reads' rd (okR_showable _ sh.ok) (PyData.noDict_hsm (okR_hasDict _ sh.ok)) c.guards hu (fun _ _ e => e) (fun h' u tk hk => ⟨.str _, H, I.kept hk, ⟨_, rfl⟩, q⟩) fits
end
section
variable {X : Cx} {k : Nat} {x : Ent} {m : Mem} {K : KE}
theorem repr_D {d : PyData} (hx : Dat m x d) (sh : Shw d) (h : K (.d (.str d.shown)) m) : RCW X (fun xs H Q => ∃ v d, xs = [v] ∧ Dp X.K H v d ∧ Shw d ∧ Q (.str d.shown) H) [x] m K := fun F H vs hm e Q q => by
  obtain ⟨v, rfl, ok⟩ := e.one
  exact ⟨v, d, rfl, hx.dp hm ok (okR_nodict d sh.ok), sh, q _ _ (PostE.here h (Rp.str _) hm)⟩
end

/-! ### tuple * int -/
theorem tuple_mul1 (l : Addr) (items : Array Value) (n : Nat) (dd : Option Addr) (sl : Array (Option Value)) (u : Tok) :
    Meets (Builtin.«tuple.__mul__» ⟨[.ref l, .int 1 u], []⟩) (fun _ R s => s.heap.get? l = some { cls := .type "tuple", dict := dd, data := .seq items n, slots := sl } ∧ R (.ok (.ret (Value.ref l))) s) :=
  .of_wp fun prog w A R s h => by
    obtain ⟨hp, g, d, tk, os⟩ := s
    obtain ⟨hl, h⟩ := h
    have f1 := AutoSeq1.idx_int
    have c0 : (decide ((1 : Int) < -(2 ^ 63)) || decide ((1 : Int) ≥ 2 ^ 63)) = false := by decide
    have c1 : (items.isEmpty || (1 : Int) == 1) = true := by simp
    wp_walk using wpAny_loadPart' hl
    repeat (first
      | (refine wpAny_ite_false (decide_eq_false (by rw [c0]; exact Bool.false_ne_true)) ?_; wp_walk using wpAny_loadPart' hl)
      | (refine wpAny_ite_true (decide_eq_true (by rw [c1])) ?_; wp_walk using wpAny_loadPart' hl))
    exact ⟨_, rfl, h⟩
theorem tuple_mul0 (l : Addr) (items : Array Value) (n : Nat) (dd : Option Addr) (sl : Array (Option Value)) (u : Tok) (hne : items.isEmpty = false) :
    Meets (Builtin.«tuple.__mul__» ⟨[.ref l, .int 0 u], []⟩) (fun _ R s => s.heap.get? l = some { cls := .type "tuple", dict := dd, data := .seq items n, slots := sl } ∧
      R (.ok (.ret (Value.ref s.heap.objs.size))) { s with heap := s.heap.push { cls := Value.type "tuple", data := Data.seq #[] }, toks := s.toks }) :=
  .of_wp fun prog w A R s h => by
    obtain ⟨hp, g, d, tk, os⟩ := s
    obtain ⟨hl, h⟩ := h
    have f1 := AutoSeq1.idx_int
    have c0 : (decide ((0 : Int) < -(2 ^ 63)) || decide ((0 : Int) ≥ 2 ^ 63)) = false := by decide
    have c1 : (items.isEmpty || (0 : Int) == 1) = false := by simp [hne]
    have c2 : (decide ((0 : Int) ≤ 0) || items.isEmpty) = true := by simp
    wp_walk using wpAny_loadPart' hl
    repeat (first
      | (refine wpAny_ite_false (decide_eq_false (by rw [c0]; exact Bool.false_ne_true)) ?_; wp_walk using wpAny_loadPart' hl)
      | (refine wpAny_ite_false (decide_eq_false (by rw [c1]; exact Bool.false_ne_true)) ?_; wp_walk using wpAny_loadPart' hl)
      | (refine wpAny_ite_true (decide_eq_true (by rw [c2])) ?_; wp_walk using wpAny_loadPart' hl))
    exact ⟨_, rfl, h⟩
def rRepZ (K : PySem.W.Frag) : R2 := fun x y H Q => ∃ (l : Addr) (k : Nat) (xs : List V), x = .ref l ∧ y = .int k ∧ SqT K H l xs ∧ xs ≠ [] ∧ k ≤ 1000 ∧ xs.length ≤ 1000 ∧
  ((k = 1 ∧ Q x H) ∨ (k ≠ 1 ∧ ∀ p, H p = none → Q (.ref p) (upd H p (.tup (List.replicate k xs).flatten))))
section
variable {X : Cx} {x y : Ent} {m : Mem} {K : KE}
theorem op_repZ : OpR X (binaryOp .Mult) (rRepZ X.K) := by
  intro pins s σ H x y v u Q I rx ry h
  obtain ⟨l, k, xs, rfl, rfl, hT, hne, h2, hz, q⟩ := h
  by_cases h2k : 2 ≤ k
  · refine op_repT pins s σ H _ _ v u Q I rx ry ⟨l, k, xs, rfl, rfl, hT, hne, by omega, by omega, hz, ?_⟩
    rcases q with ⟨e, _⟩ | ⟨_, q⟩
    · omega
    · exact q
  cases rx
  obtain ⟨t, rfl⟩ := ry
  obtain ⟨its, r, ⟨⟨cls, dd, data, sl⟩, ho, hc, n, hd⟩, hs⟩ := I.tuple hT
  simp only at hc hd
  subst hc hd
  have hle : its.length = xs.length := r.length.symm
  have hi : its.toArray.isEmpty = false := by
    cases its with
    | nil => exact absurd (List.eq_nil_of_length_eq_zero hle.symm) hne
    | cons a b => rfl
  by_cases h1 : k = 1
  · subst h1
    rcases q with ⟨_, q⟩ | ⟨e, _⟩
    · refine wpAny_binaryOp_repeat_ref (T := "tuple") (U := "int") (by decide) ⟨_, ho, rfl⟩ (fun s' => typeIs_int s' 1 t) noFill_tuple_mul F.fills_int_mul F.slot_int_rmul repeat_tuple F.slot_int_index.lookup
        (call_meets F.slot_int_rmul (typeIs_int s 1 t) F.entry_int_rmul (F.args_int_rmul_2 _ _) (int_rmul_tuple 1 t l its.toArray n dd sl)
          ⟨ho, rfl, ⟨_, ho, rfl⟩, call_meets F.slot_tuple_mul ⟨_, ho, rfl⟩ F.entry_tuple_mul (F.args_tuple_mul_2 _ _) (tuple_mul1 l its.toArray n dd sl t) ⟨ho, ?_⟩⟩)
      exact ⟨.ref l, H, I, rfl, q⟩
    · exact absurd rfl e
  · have h0 : k = 0 := by omega
    subst h0
    rcases q with ⟨e, _⟩ | ⟨_, q⟩
    · cases e
    · refine wpAny_binaryOp_repeat_ref (T := "tuple") (U := "int") (by decide) ⟨_, ho, rfl⟩ (fun s' => typeIs_int s' 0 t) noFill_tuple_mul F.fills_int_mul F.slot_int_rmul repeat_tuple F.slot_int_index.lookup
        (call_meets F.slot_int_rmul (typeIs_int s 0 t) F.entry_int_rmul (F.args_int_rmul_2 _ _) (int_rmul_tuple 0 t l its.toArray n dd sl)
          ⟨ho, rfl, ⟨_, ho, rfl⟩, call_meets F.slot_tuple_mul ⟨_, ho, rfl⟩ F.entry_tuple_mul (F.args_tuple_mul_2 _ _) (tuple_mul0 l its.toArray n dd sl t hi) ⟨ho, ?_⟩⟩)
      refine ⟨.ref s.heap.objs.size, _, I.laid (t' := s.toks) (o := .tup []) (fun b ob q => Heap.get?_push_of_some _ q) (Nat.le_refl _) ?_, rfl, q _ (I.hok.fresh (Nat.le_refl _))⟩
      exact ⟨Nat.zero_le _, [], .nil, PyProof.Rows.IsTup.new _ _⟩
theorem rpAll_flat {K : PySem.W.Frag} {F : Hp} {xs : List V} {ds : List PyData} (h : RpAll K F xs ds) : ∀ k : Nat, RpAll K F (List.replicate k xs).flatten (List.replicate k ds).flatten
  | 0 => .nil
  | k + 1 => by
    rw [List.replicate_succ, List.replicate_succ, List.flatten_cons, List.flatten_cons]
    exact RpAll.append h (rpAll_flat h k)
theorem mul_T {ds : List PyData} {k : Nat} (hne : ds ≠ []) (hk : k ≤ 1000) (hz : ds.length ≤ 1000) (h : K (.d (.tuple (List.replicate k ds).flatten)) m) : R2W X (rRepZ X.K) (.d (.tuple ds)) (.d (.int k)) m K := fun F H v u hm ok ok2 Q q => by
  obtain ⟨a, xs, rfl, s, r⟩ := dat_sqT hm ok
  obtain rfl := EntOk.int ok2
  have hl := RpAll.length r
  refine ⟨a, k, xs, rfl, rfl, s, fun e => hne (by rw [e] at hl; exact List.eq_nil_of_length_eq_zero hl.symm), hk, by omega, ?_⟩
  by_cases h1 : k = 1
  · subst h1
    refine .inl ⟨rfl, q _ _ (PostE.here (by simpa using h) ok hm)⟩
  · exact .inr ⟨h1, fun p hp => q _ _ (post_T hm hp (rpAll_flat r k) h)⟩
end

/-! ### keywords -/
theorem pr_app {α β : Type} {R : α → β → Prop} : ∀ {l l' : List α} {k k' : List β}, Paired R l k → Paired R l' k' → Paired R (l ++ l') (k ++ k')
  | _, _, _, _, .nil, h => h
  | _, _, _, _, .cons r t, h => .cons r (pr_app t h)
def wpK (X : Cx) (kws : List Keyword) : TA := fun σ H Q => ∀ pos pins s, Inv X pins σ H s → wpAny (model X.prog X.w) X.A (evalAll ((backToKw pos (keywordEach kws X.env)).map (·.2))) (AP X pins σ Q) X.xe s
def WK (X : Cx) (kws : List Keyword) (n : Nm) (m : Mem) (K : List Ent → Mem → Prop) : Prop := ∀ F σ H, MOk X.K F m H → Slots X.K F σ n → wpK X kws σ H (PostA X F m H K)
section
variable {X : Cx} {a : Expr} {kws : List Keyword} {σ : St} {H : Hp} {n : Nm} {m : Mem} {nm : Option Str} {kpos : Pos}
theorem pk_wp : PK X kws (wpK X kws) := ⟨fun pos pins s _ _ _ I h => h pos pins s I⟩
theorem wpK.of {t : TA} {Q} (h : PK X kws t) (q : t σ H Q) : wpK X kws σ H Q := fun pos pins s I => h.run pos pins s σ H Q I q
theorem wpK.mono {Q Q'} (h : wpK X kws σ H Q) (k : ∀ v H', Q v H' → Q' v H') : wpK X kws σ H Q' := fun pos pins s I => thn (h pos pins s I) fun _ _ ⟨v, H', I', r, q⟩ => ⟨v, H', I', r, k v H' q⟩
theorem WK.go {F : Hp} {K : List Ent → Mem → Prop} (h : WK X kws n m K) (hm : MOk X.K F m H) (hs : Slots X.K F σ n) {Q : List V → Hp → Prop}
    (k : ∀ F1 vs H1 rs m1, K rs m1 → Ents X.K F1 vs rs → MOk X.K F1 m1 H1 → Step F m H F1 m1 H1 → Slots X.K F1 σ n → Q vs H1) : wpK X kws σ H Q :=
  (h F σ H hm hs).mono fun v H1 ⟨F1, r, m1, k1, ok, hm1, st⟩ => k F1 v H1 r m1 k1 ok hm1 st (hs.inc st.fr)
theorem wk_nil {K : List Ent → Mem → Prop} (k : K [] m) : WK X [] n m K := fun F σ H hm hs => wpK.of pk_nil ⟨F, [], m, k, .nil, hm, .refl⟩
theorem wk_cons {K : List Ent → Mem → Prop} (h : WE X a n m fun x m1 => WK X kws n m1 fun xs m2 => K (x :: xs) m2) : WK X (⟨nm, a, kpos⟩ :: kws) n m K := fun F σ H hm hs =>
  wpK.of (pk_cons pe_wp pk_wp) (h.go hm hs fun F1 v H1 x m1 h1 ok1 hm1 st1 hs1 => h1.go hm1 hs1 fun F2 vs H2 xs m2 h2 ok2 hm2 st2 hs2 =>
    ⟨F2, x :: xs, m2, h2, .cons (ok1.inc st2.fr) ok2, hm2, st1.trans st2⟩)
end
/-- how positional values and keywords become the arguments, as values of the calculus -/
def KbE (K : PySem.W.Frag) (fd : FuncData) (ps : List Str) (n : Nat) (ks : List Str) (gE : List Ent → List Ent → List Ent) : Prop :=
  ∃ g gV, KBn K fd ps n ks g gV ∧ ∀ F vs zs rs ts, Ents K F vs rs → Ents K F zs ts → vs.length = n → Ents K F (gV vs zs) (gE rs ts)
theorem KbE.plain {K : PySem.W.Frag} {fd : FuncData} {ps : List Str} {n : Nat} (hb : Binds K fd ps []) (hn : ps.length = n) : KbE K fd ps n [] fun rs _ => rs := by
  refine ⟨fun us _ => us, fun vs _ => vs, ⟨fun s us ws hk h1 h2 => ?_, fun r1 _ => r1⟩, fun _ _ _ _ _ r1 _ _ => r1⟩
  have hw : ws = [] := List.eq_nil_of_length_eq_zero h2
  subst hw
  have := hb s us hk (by rw [List.append_nil]; omega)
  rw [List.append_nil] at this
  exact this
theorem KbE.dfl {K : PySem.W.Frag} {fd : FuncData} {ps : List Str} {n : Nat} {dvs : List V} {ds : List Value} {es : List Ent} (hb : Binds K fd ps ds) (hd : Vals dvs ds) (he : ∀ F, Ents K F dvs es) (hn : ps.length = n + ds.length) : KbE K fd ps n [] fun rs _ => rs ++ es := by
  refine ⟨fun us _ => us ++ ds, fun vs _ => vs ++ dvs, ⟨fun s us ws hk h1 h2 => ?_, fun r1 _ => r1.append hd⟩, fun F vs _ rs _ r1 _ _ => ?_⟩
  · have hw : ws = [] := List.eq_nil_of_length_eq_zero h2
    subst hw
    exact hb s us hk (by rw [List.length_append]; omega)
  · exact pr_app r1 (he F)

theorem _root_.L2.FunD.fun0 {K : PySem.W.Frag} {x qual : Str} {st : Stmt} {kws : List (Str × V)} {f : Addr} {fd : FuncData} (F : FunD K x qual (defArgs st) (defBody st) (defScope st) [] kws f fd) : Fun K x qual st f fd := by
  obtain ⟨oc, od, dV, kV, doc, pm, an, cdv, ct, osl, rfl, lk, hcd, hD, hK⟩ := F.ex
  rcases hD with ⟨_, rfl⟩ | ⟨e, _⟩
  · exact ⟨⟨oc, od, kV, doc, pm, an, cdv, ct, osl, rfl, lk, hcd⟩, F.kp⟩
  · exact absurd rfl e
/-! ### a class is made -/
theorem MOk.newN {K : PySem.W.Frag} {F : Hp} {m : Mem} {H : Hp} {p : Addr} {o : HO} (h : MOk K F m H) (hp : H p = none) : MOk K F m (upd H p o) :=
  ⟨fun a z e => by rw [upd_ne (ne_of_none (h.sub a z e) hp)]; exact h.sub a z e, h.out, fun a z e => XOk.inc (fun _ _ z => z) (fun w hw => by rw [upd_ne (ne_of_none hw hp)]; exact hw) (h.obj a z e)⟩
theorem Step.newN {F : Hp} {m : Mem} {H : Hp} {p : Addr} {o : HO} (hp : H p = none) : Step F m H F m (upd H p o) :=
  ⟨fun _ _ h => h, fun a z e _ => by rw [upd_ne (ne_of_none e hp)]; exact e, fun a e k => absurd e k, fun a e k => absurd e k⟩
/-- the class at C by its name, its __init__ keeps the promise S; n positional values and the keywords ks are written -/
def AvC (P : Program) (w : World) (K : PySem.W.Frag) (mg : Str → Option Value) (base : Heap) (k : Nat) (x : Str) (C : Addr) (S : Prm) (n : Nat) (ks : List Str) (gE : List Ent → List Ent → List Ent) : Prop :=
  ∃ f fd ps, Mk K C f ∧ FnG P w K mg base k f fd ps (spW K S) ∧ mg x = some (.ref C) ∧ KbE K fd ps (n + 1) ks gE
/-- the method of the class at C -/
def AvM (P : Program) (w : World) (K : PySem.W.Frag) (mg : Str → Option Value) (base : Heap) (k : Nat) (C : Addr) (x : Str) (S : Prm) (n : Nat) (gE : List Ent → List Ent → List Ent) : Prop :=
  ∃ f fd ps, Cls K C ∧ Meth K C x f ∧ FnG P w K mg base k f fd ps (spW K S) ∧ KbE K fd ps (n + 1) [] gE
section
variable {X : Cx} {k k' nn : Nat} {x mn f : Str} {p pos apos : Pos} {o e : Expr} {es : List Expr} {kws : List Keyword} {n : Nm} {m : Mem} {K : KE} {S : Prm} {ps ks : List Str} {C : Addr} {gE : List Ent → List Ent → List Ent}
theorem ents_length {K : PySem.W.Frag} {F : Hp} {vs : List V} {rs : List Ent} (h : Ents K F vs rs) : vs.length = rs.length := Paired.length h
theorem guards_make {A : Around} {C : Addr} {us : List Value} {kw : List (Str × Value)} (h : A.guards = some []) : (A.under (.builtin "type.__call__" ⟨.ref C :: us, kw⟩)).guards = some [] := by
  simp [Around.under, pushGuards, Code.guards, Code.isGuard, guardIds, h]
theorem run_mk {fa : Addr} {fd : FuncData} {pins : List (Addr × Obj)} {σ : St} {F H : Hp} {s : Shared} {us ws : List Value} {vs zs : List V} {rs ts : List Ent} (M : Mk X.K C fa) (G : FnG X.prog X.w X.K X.mg X.base k' fa fd ps (spW X.K S)) (c : XC X k) (hk : k' + 1 ≤ k)
    (kb : KbE X.K fd ps (nn + 1) ks gE) (I : Inv X pins σ H s) (r : Vals vs us) (rz : Vals zs ws) (hm : MOk X.K F m H) (hr : Ents X.K F vs rs) (hz : Ents X.K F zs ts)
    (h : rs.length = nn ∧ ts.length = ks.length ∧ ∀ p, m p = none → ∃ i, gE (.x p :: rs) ts = S.args i ∧ S.pre i (m.put p (.ins C [])) ∧ ∀ r m', S.post i (m.put p (.ins C [])) r m' → r = .d .none ∧ K (.x p) m') :
    wpAny (model X.prog X.w) X.A (call (.ref C) us (ks.zip ws)) (EP X pins σ (PostE X F m H K)) X.xe s := by
  obtain ⟨g, gV, hb, hE⟩ := kb
  obtain ⟨l1, l2, hq⟩ := h
  have I2 := Inv.made (C := C) I
  have f1 : H s.heap.objs.size = none := I.hok.fresh (Nat.le_refl _)
  have f2 : H (s.heap.objs.size + 1) = none := I.hok.fresh (Nat.le_succ _)
  have ne : s.heap.objs.size + 1 ≠ s.heap.objs.size := Nat.succ_ne_self _
  have f3 : (upd H s.heap.objs.size (.own (s.heap.objs.size + 1))) (s.heap.objs.size + 1) = none := by rw [upd_ne ne]; exact f2
  have hm1 : MOk X.K F m (upd H s.heap.objs.size (.own (s.heap.objs.size + 1))) := hm.newN f1
  have hm2 : MOk X.K F (m.put (s.heap.objs.size + 1) (.ins C [])) (upd (upd H s.heap.objs.size (.own (s.heap.objs.size + 1))) (s.heap.objs.size + 1) (.ins C s.heap.objs.size [])) :=
    hm1.newX f3 ⟨s.heap.objs.size, [], upd_same, .nil⟩
  have st2 : Step F m H F (m.put (s.heap.objs.size + 1) (.ins C [])) (upd (upd H s.heap.objs.size (.own (s.heap.objs.size + 1))) (s.heap.objs.size + 1) (.ins C s.heap.objs.size [])) :=
    (Step.newN f1).trans (Step.newX f3)
  obtain ⟨i, ea, pre, post⟩ := hq (s.heap.objs.size + 1) (hm.fresh f2)
  have r1 : Vals (V.ref (s.heap.objs.size + 1) :: vs) (Value.ref (s.heap.objs.size + 1) :: us) := .cons rfl r
  have n0 : (V.ref (s.heap.objs.size + 1) :: vs).length = nn + 1 := by rw [List.length_cons, ents_length hr, l1]
  have n1 : (Value.ref (s.heap.objs.size + 1) :: us).length = nn + 1 := by rw [← n0, List.length_cons, List.length_cons, r.length]
  have lz : ws.length = ks.length := by rw [← rz.length, ents_length hz, l2]
  have eA := hE F _ zs (.x (s.heap.objs.size + 1) :: rs) ts (.cons rfl hr) hz n0
  rw [ea] at eA
  have sp : spW X.K S (gV (V.ref (s.heap.objs.size + 1) :: vs) zs) _ (fun v H2 => v = .non ∧ PostE X F m H K (.ref (s.heap.objs.size + 1)) H2) E0 :=
    ⟨i, F, _, eA, hm2, pre, fun F' r m' v H' q ok hm' st => by
      obtain ⟨rfl, kq⟩ := post r m' q
      exact ⟨EntOk.non ok, F', .x _, m', kq, rfl, hm', st2.trans st⟩⟩
  refine wpAny_call (make_map (f := fa) I.kIn M.makes M.init (beq_iff_eq.mp M.fn) (codeAny_mono (G.run _ X.stack _ _ ⟨Value.ref (s.heap.objs.size + 1) :: us, ks.zip ws⟩ (g (Value.ref (s.heap.objs.size + 1) :: us) ws) _ _ E0 ((c.room.mono hk).make C us (ks.zip ws))
    (guards_make c.guards) (I2.env0.make C us (ks.zip ws)) (hb.to _ (Value.ref (s.heap.objs.size + 1) :: us) ws I2.kIn n1 lz) (hb.rel r1 rz) sp) fun r s' hq' => ?_))
  match r, hq' with
  | .error e, hq' => exact passL pins σ _ _ e s' I2 hq'
  | .ok (.ret u), hq' =>
    obtain ⟨v, H', I3, rv, ev, q3⟩ := I2.after hq'
    subst ev
    exact ⟨rv, ⟨V.ref (s.heap.objs.size + 1), H', I3, rfl, q3⟩⟩
theorem we_make (c : XC X k) (av : AvC X.prog X.w X.K X.mg X.base k' x C S nn ks gE) (hk : k' + 1 ≤ k) (hg : Gl X x)
    (h : WA X (e :: es) n m fun rs m1 => WK X kws n m1 fun ts m2 => rs.length = nn ∧ ts.length = ks.length ∧ ∀ p, m2 p = none → ∃ i, gE (.x p :: rs) ts = S.args i ∧ S.pre i (m2.put p (.ins C [])) ∧ ∀ r m', S.post i (m2.put p (.ins C [])) r m' → r = .d .none ∧ K (.x p) m')
    (hall : (backToKw pos (keywordEach kws X.env)).all (·.1.isSome) = true := by rfl) (hks : (backToKw pos (keywordEach kws X.env)).filterMap (·.1) = ks := by rfl) (hdb : (x == ("__debug__" : Str)) = false := by decide)
    (he : starEach (e :: es) X.env = (false, eval e X.env) :: starEach es X.env := by rfl) (hpl : ((backTo pos (starEach (e :: es) X.env)).any (·.1) || (backToKw pos (keywordEach kws X.env)).any (·.1.isNone)) = false := by rfl) :
    WE X (.Call (.Name x p) (e :: es) kws pos) n m K := fun F σ H hm hs pins s I => by
  obtain ⟨f, fd, ps, M, G, hmg, kb⟩ := av
  refine wpAny_Call_Name_kw (ld_glob I hg hmg ?_ hdb)
  refine PySem.W.callWith_KW (h₀ := X.base) I.ok.mod.kin M.kp hall (thn (h F σ H hm hs pos pins s I) fun us s1 ⟨vs, H1, I1, r, F1, rs, m1, k1, ok1, hm1, st1⟩ => ?_) hpl he
  refine thn (k1 F1 σ H1 hm1 (hs.inc st1.fr) pos pins s1 I1) fun ws s2 ⟨zs, H2, I2, rz, F2, ts, m2, k2, ok2, hm2, st2⟩ => ⟨I2.kIn, ?_⟩
  rw [hks]
  exact thn (run_mk (K := K) M G c hk kb I2 r rz hm2 (Ents.inc st2.fr ok1) ok2 k2) fun u s3 ⟨v, H3, I3, r3, q⟩ => ⟨v, H3, I3, r3, PostE.after (st1.trans st2) q⟩
theorem we_make0 (c : XC X k) (av : AvC X.prog X.w X.K X.mg X.base k' x C S 0 [] gE) (hk : k' + 1 ≤ k) (hg : Gl X x)
    (h : ∀ p, m p = none → ∃ i, gE [.x p] [] = S.args i ∧ S.pre i (m.put p (.ins C [])) ∧ ∀ r m', S.post i (m.put p (.ins C [])) r m' → r = .d .none ∧ K (.x p) m')
    (hdb : (x == ("__debug__" : Str)) = false := by decide) :
    WE X (.Call (.Name x p) [] [] pos) n m K := fun F σ H hm hs pins s I => by
  obtain ⟨f, fd, ps, M, G, hmg, kb⟩ := av
  refine wpAny_Call_Name_kw (ld_glob I hg hmg ?_ hdb)
  exact PySem.W.callWith_K0 I.kIn M.kp (run_mk (us := []) (ws := []) (vs := []) (zs := []) (rs := []) (ts := []) (K := K) M G c hk kb I .nil .nil hm .nil .nil ⟨rfl, rfl, h⟩)

/-! ### fields -/
theorem pr_lookup {K : PySem.W.Frag} {F : Hp} {f : Str} : ∀ {ys : List (Str × V)} {fs : List (Str × Ent)} {e : Ent}, Paired (fun (p : Str × V) (q : Str × Ent) => p.1 = q.1 ∧ EntOk K F p.2 q.2) ys fs → fs.lookup f = some e → ∃ v, ys.lookup f = some v ∧ EntOk K F v e
  | _, _, _, .nil, h => by simp at h
  | (y, v) :: ys, (g, u) :: fs, e, .cons ⟨q1, q2⟩ t, h => by
    have q1 : y = g := q1
    subst q1
    rw [List.lookup_cons] at h ⊢
    cases hb : f == y with
    | true =>
      simp only [hb] at h ⊢
      cases h
      exact ⟨_, rfl, q2⟩
    | false =>
      simp only [hb] at h ⊢
      exact pr_lookup t h
theorem pr_lookup_no {K : PySem.W.Frag} {F : Hp} {f : Str} : ∀ {ys : List (Str × V)} {fs : List (Str × Ent)}, Paired (fun (p : Str × V) (q : Str × Ent) => p.1 = q.1 ∧ EntOk K F p.2 q.2) ys fs → fs.lookup f = none → ys.lookup f = none
  | _, _, .nil, h => rfl
  | (y, v) :: ys, (g, u) :: fs, .cons ⟨q1, q2⟩ t, h => by
    have q1 : y = g := q1
    subst q1
    rw [List.lookup_cons] at h ⊢
    cases hb : f == y with
    | true =>
      simp only [hb] at h
      cases h
    | false =>
      simp only [hb] at h ⊢
      exact pr_lookup_no t h
def putE (f : Str) (e : Ent) : List (Str × Ent) → List (Str × Ent)
  | [] => [(f, e)]
  | (g, x) :: r => if g = f then (g, e) :: r else (g, x) :: putE f e r
theorem pr_put {K : PySem.W.Frag} {F : Hp} {f : Str} {v : V} {e : Ent} (h : EntOk K F v e) : ∀ {ys : List (Str × V)} {fs : List (Str × Ent)}, Paired (fun (p : Str × V) (q : Str × Ent) => p.1 = q.1 ∧ EntOk K F p.2 q.2) ys fs → Paired (fun (p : Str × V) (q : Str × Ent) => p.1 = q.1 ∧ EntOk K F p.2 q.2) (putF f v ys) (putE f e fs)
  | _, _, .nil => .cons ⟨rfl, h⟩ .nil
  | (y, v) :: ys, (g, u) :: fs, .cons ⟨q1, q2⟩ t => by
    have q1 : y = g := q1
    subst q1
    show Paired _ (if y = f then _ else _) (if y = f then _ else _)
    by_cases hb : y = f
    · rw [if_pos hb, if_pos hb]
      exact .cons ⟨rfl, h⟩ t
    · rw [if_neg hb, if_neg hb]
      exact .cons ⟨rfl, q2⟩ (pr_put h t)
/-- a field is read -/
def FldW (K : PySem.W.Frag) (f : Str) (x : Ent) (m : Mem) (k : KE) : Prop := ∃ a C fs e, x = .x a ∧ m a = some (.ins C fs) ∧ Cls K C ∧ NoAttr K C f ∧ fs.lookup f = some e ∧ k e m
theorem we_fld (h : WE X o n m fun x m1 => FldW X.K f x m1 K) (hb : attributeBase o f X.env (eval o X.env) = eval o X.env := by rfl) : WE X (.Attribute o f pos) n m K := fun F σ H hm hs =>
  wpE.of (pe_fld pe_wp hb) (h.go hm hs fun F1 v H1 x m1 ⟨a, C, fs, e, ex, ha, cl, na, lk, hk⟩ ok1 hm1 st1 hs1 => by
    subst ex
    obtain ⟨dx, ys, hy, pr⟩ := hm1.obj a _ ha
    obtain ⟨v', lv, okv⟩ := pr_lookup pr lk
    have ev : v = .ref a := ok1
    exact ⟨a, C, dx, ys, v', ev, hy, cl, na, lv, PostE.after st1 (PostE.here hk okv hm1)⟩)
/-- a field is written -/
def FldP (K : PySem.W.Frag) (f : Str) (y x : Ent) (m : Mem) (k : Mem → Prop) : Prop := ∃ a C fs, x = .x a ∧ m a = some (.ins C fs) ∧ Cls K C ∧ NoAttr K C f ∧ fs.length < 1000 ∧ k (m.put a (.ins C (putE f y fs)))
theorem ws_fld {value : Expr} {tpos spos : Pos} {P : KS} (h : WE X value n m fun y m1 => WE X o n m1 fun x m2 => FldP X.K f y x m2 fun m3 => P (.nx n m3)) (hsw : swapsWith value (some (.Attribute o f tpos)) spos.line X.env = pure false := by rfl) :
    WS X (.Assign [.Attribute o f tpos] value spos) n m P := fun F σ H hm hs =>
  wpS.of (ps_fld pe_wp pe_wp hsw) (h.go hm hs fun F1 u H1 y m1 h1 ok1 hm1 st1 hs1 => h1.go hm1 hs1 fun F2 v H2 x m2 ⟨a, C, fs, ex, ha, cl, na, ln, hk⟩ ok2 hm2 st2 hs2 => by
    subst ex
    obtain ⟨dx, ys, hy, pr⟩ := hm2.obj a _ ha
    have ev : v = .ref a := ok2
    have hl := Paired.length pr
    refine ⟨a, C, dx, ys, ev, hy, cl, na, by omega, ?_⟩
    have o1 : EntOk X.K F2 u y := ok1.inc st2.fr
    exact (show PostN X F m H _ σ _ from ⟨F2, n, _, hk, hs2, hm2.mut ha ⟨dx, _, upd_same, pr_put o1 pr⟩, (st1.trans st2).trans (Step.mut ha)⟩))

/-! ### methods -/
theorem run_av {fa : Addr} {fd : FuncData} {pins : List (Addr × Obj)} {σ : St} {F H : Hp} {s : Shared} {us : List Value} {vs : List V} {rs : List Ent} (G : FnG X.prog X.w X.K X.mg X.base k' fa fd ps (spW X.K S)) (c : XC X k) (hk : k' ≤ k) (kb : KbE X.K fd ps nn [] gE) (I : Inv X pins σ H s) (r : Vals vs us)
    (hm : MOk X.K F m H) (hr : Ents X.K F vs rs) (h : rs.length = nn ∧ ∃ i, gE rs [] = S.args i ∧ S.pre i m ∧ ∀ r m', S.post i m r m' → K r m') : wpAny (model X.prog X.w) X.A (call (.ref fa) us) (EP X pins σ (PostE X F m H K)) X.xe s := by
  obtain ⟨g, gV, hb, hE⟩ := kb
  obtain ⟨l1, i, ea, pre, post⟩ := h
  have lv : vs.length = nn := by rw [ents_length hr, l1]
  have eA := hE F vs [] rs [] hr .nil lv
  rw [ea] at eA
  have sp : spW X.K S (gV vs []) H (PostE X F m H K) E0 := ⟨i, F, m, eA, hm, pre, fun F' r m' v H' q ok hm' st => ⟨F', r, m', post r m' q, ok, hm', st⟩⟩
  refine wpAny_call (codeAny_mono (G.run X.A X.stack s H ⟨us, []⟩ (g us []) _ _ E0 (c.room.mono hk) c.guards I.env0 (hb.to s us [] I.kIn (by rw [← r.length]; exact lv) rfl) (hb.rel r .nil) sp) fun r s' hq => ?_)
  match r, hq with
  | .error e, hq => exact passL pins σ H s e s' I hq
  | .ok (.ret u), hq => exact I.after hq
theorem we_meth {pl : Sem Bool} (c : XC X k) (av : AvM X.prog X.w X.K X.mg X.base k' C mn S nn gE) (hk : k' ≤ k)
    (h : WE X o n m fun r m1 => ∃ a fs, r = .x a ∧ m1 a = some (.ins C fs) ∧ fs.lookup mn = none ∧ WA X (e :: es) n m1 fun rs m2 => rs.length = nn ∧ ∃ i, gE (.x a :: rs) [] = S.args i ∧ S.pre i m2 ∧ ∀ r m', S.post i m2 r m' → K r m')
    (hst : starEach (e :: es) X.env = (false, eval e X.env) :: starEach es X.env := by rfl) (hpl : (backTo pos (starEach es X.env)).any (·.1) = false := by rfl)
    (ht : eval (.Call (.Attribute o mn apos) (e :: es) [] pos) X.env = (do
      let ov ← eval o X.env
      standAt apos.atName
      let (f, first) ← holding [ov] (getMethod ov mn pl)
      callWith pos f first (backTo pos (starEach (e :: es) X.env)) (backToKw pos (keywordEach [] X.env))) := by rfl) :
    WE X (.Call (.Attribute o mn apos) (e :: es) [] pos) n m K := fun F σ H hm hs pins s I => by
  obtain ⟨f, fd, ps, cl, me, G, kb⟩ := av
  refine PySem.W.methodCall_KW (pl := pl) (thn (h F σ H hm hs pins s I) fun u s1 ⟨x, H1, I1, rx, F1, r, m1, ⟨a, fs, ex, ha, lk, h1⟩, ok1, hm1, st1⟩ => ?_) ht
  subst ex
  have ev : x = .ref a := ok1
  subst ev
  obtain rfl : u = Value.ref a := rx
  obtain ⟨dx, ys, hy, pr⟩ := hm1.obj a _ ha
  refine getmeth_ok I1 hy cl me (pr_lookup_no pr lk) ?_
  refine PySem.W.callWith_K (first := [.ref a]) (h₀ := X.base) I.ok.mod.kin me.kp (thn (h1 F1 σ H1 hm1 (hs.inc st1.fr) pos pins s1 I1) fun us s2 ⟨vs, H2, I2, r, F2, rs, m2, ⟨hl, k2⟩, ok2, hm2, st2⟩ => ⟨I2.kIn, ?_⟩) hst hpl
  have rr : Vals (V.ref a :: vs) (Value.ref a :: us) := .cons rfl r
  have ee : Ents X.K F2 (V.ref a :: vs) (.x a :: rs) := .cons rfl ok2
  exact thn (run_av (K := K) G c hk kb I2 rr hm2 ee ⟨by rw [List.length_cons, hl], k2⟩) fun u s3 ⟨v, H3, I3, r3, q⟩ => ⟨v, H3, I3, r3, PostE.after (st1.trans st2) q⟩
theorem we_meth0 {pl : Sem Bool} (c : XC X k) (av : AvM X.prog X.w X.K X.mg X.base k' C mn S 0 gE) (hk : k' ≤ k)
    (h : WE X o n m fun r m1 => ∃ a fs, r = .x a ∧ m1 a = some (.ins C fs) ∧ fs.lookup mn = none ∧ ∃ i, gE [.x a] [] = S.args i ∧ S.pre i m1 ∧ ∀ r m', S.post i m1 r m' → K r m')
    (ht : eval (.Call (.Attribute o mn apos) [] [] pos) X.env = (do
      let ov ← eval o X.env
      standAt apos.atName
      let (f, first) ← holding [ov] (getMethod ov mn pl)
      callWith pos f first (backTo pos (starEach [] X.env)) (backToKw pos (keywordEach [] X.env))) := by rfl) :
    WE X (.Call (.Attribute o mn apos) [] [] pos) n m K := fun F σ H hm hs pins s I => by
  obtain ⟨f, fd, ps, cl, me, G, kb⟩ := av
  refine PySem.W.methodCall_KW (pl := pl) (thn (h F σ H hm hs pins s I) fun u s1 ⟨x, H1, I1, rx, F1, r, m1, ⟨a, fs, ex, ha, lk, h1⟩, ok1, hm1, st1⟩ => ?_) ht
  subst ex
  have ev : x = .ref a := ok1
  subst ev
  obtain rfl : u = Value.ref a := rx
  obtain ⟨dx, ys, hy, pr⟩ := hm1.obj a _ ha
  refine getmeth_ok I1 hy cl me (pr_lookup_no pr lk) ?_
  have rr : Vals [V.ref a] [Value.ref a] := .cons rfl .nil
  have ee : Ents X.K F1 [V.ref a] [.x a] := .cons rfl .nil
  exact PySem.W.callWith_K0 (first := [.ref a]) I1.kIn me.kp (thn (run_av (K := K) G c hk kb I1 rr hm1 ee ⟨rfl, h1⟩) fun u s3 ⟨v, H3, I3, r3, q⟩ => ⟨v, H3, I3, r3, PostE.after st1 q⟩)
end
section
variable {X : Cx} {x : Ent} {m : Mem} {K : KE}
theorem tuple_S {ds : List PyData} (hx : DatS m x ds) (h : K (.d (.tuple ds)) m) : RCW X (rTupOf X.K) [x] m K := by
  rcases hx with hx | rfl
  · exact tuple_L hx h
  · exact tuple_T h
end
/-! ### Shw by parts -/
abbrev okS (x : Str) : Prop := (x.cps.toList.all fun c => decide (c < 16 ^ 8)) = true
theorem okS_app {x y : Str} (hx : okS x) (hy : okS y) : okS (x ++ y) := by
  have e : (x ++ y).cps.toList = x.cps.toList ++ y.cps.toList := TL.tl_append x y
  unfold okS
  rw [e, List.all_append, Bool.and_eq_true]
  exact ⟨hx, hy⟩
theorem log_lt {i : Int} {B : Nat} (h : i.natAbs ≤ B) (hB : B < 2 ^ 1919) : i.natAbs.log2 < 1920 := by
  by_cases h0 : i.natAbs = 0
  · rw [h0]; decide
  · have := (Nat.log2_lt (k := 1919) h0).mpr (Nat.lt_of_le_of_lt h hB)
    omega
theorem okR_I {i : Int} {B : Nat} (h : i.natAbs ≤ B) (hB : B < 2 ^ 1919) : okR (.int i) = true := by
  simp only [okR, decide_eq_true_eq]
  exact log_lt h hB
theorem okR_Is {B : Nat} (hB : B < 2 ^ 1919) : ∀ {xs : List Int}, (∀ x ∈ xs, x.natAbs ≤ B) → okRAll (xs.map .int) = true
  | [], _ => rfl
  | x :: xs, h => by
    simp only [List.map_cons, okRAll, Bool.and_eq_true]
    exact ⟨okR_I (h x List.mem_cons_self) hB, okR_Is hB fun y hy => h y (List.mem_cons_of_mem _ hy)⟩
theorem okR_Ss : ∀ {xs : List Str}, (∀ x ∈ xs, okS x) → okRAll (xs.map .str) = true
  | [], _ => rfl
  | x :: xs, h => by
    simp only [List.map_cons, okRAll, Bool.and_eq_true]
    exact ⟨h x List.mem_cons_self, okR_Ss fun y hy => h y (List.mem_cons_of_mem _ hy)⟩
theorem okR_all : ∀ {ds : List PyData}, (∀ d ∈ ds, okR d = true) → okRAll ds = true
  | [], _ => rfl
  | x :: xs, h => by
    simp only [okRAll, Bool.and_eq_true]
    exact ⟨h x List.mem_cons_self, okR_all fun y hy => h y (List.mem_cons_of_mem _ hy)⟩
theorem rz_all {B : Nat} : ∀ {ds : List PyData}, (∀ d ∈ ds, rz d ≤ B) → rzAll ds ≤ (B + 2) * ds.length
  | [], _ => by simp [rzAll]
  | x :: xs, h => by
    have h1 := h x List.mem_cons_self
    have h2 := rz_all (B := B) (ds := xs) fun y hy => h y (List.mem_cons_of_mem _ hy)
    simp only [rzAll, List.length_cons, Nat.mul_add, Nat.mul_one]
    omega
theorem dep_all {B : Nat} : ∀ {ds : List PyData}, (∀ d ∈ ds, d.depth ≤ B) → PyData.depthAll ds ≤ B
  | [], _ => by simp [PyData.depthAll]
  | x :: xs, h => by
    have h1 := h x List.mem_cons_self
    have h2 := dep_all (B := B) (ds := xs) fun y hy => h y (List.mem_cons_of_mem _ hy)
    simp only [PyData.depthAll]
    omega
/-- a value whose parts are short -/
structure Sh (B D : Nat) (d : PyData) : Prop where
  ok : okR d = true
  sz : rz d ≤ B
  dp : d.depth ≤ D
theorem Sh.shw {B D : Nat} {d : PyData} (h : Sh B D d) (hB : B ≤ 16777216) (hD : D ≤ 64) : Shw d := ⟨h.ok, Nat.le_trans h.sz (by rw [sizeLine_eq]; omega), Nat.le_trans h.dp hD⟩
theorem Sh.int {i : Int} {B : Nat} (h : i.natAbs ≤ B) (hB : B < 2 ^ 1919) : Sh 1922 0 (.int i) := ⟨okR_I h hB, Nat.le_refl _, Nat.le_refl _⟩
theorem Sh.str {x : Str} {n : Nat} (h : okS x) (hn : x.length ≤ n) : Sh (10 * n + 2) 0 (.str x) := ⟨h, by show 10 * x.length + 2 ≤ _; omega, Nat.le_refl _⟩
theorem Sh.lst {ds : List PyData} {B D n : Nat} (h : ∀ d ∈ ds, Sh B D d) (hn : ds.length ≤ n) : Sh ((B + 2) * n + 3) (D + 1) (.list ds) :=
  ⟨okR_all fun d hd => (h d hd).ok, by
    have := rz_all fun d hd => (h d hd).sz
    have h2 : (B + 2) * ds.length ≤ (B + 2) * n := Nat.mul_le_mul_left _ hn
    show rzAll ds + 3 ≤ _
    omega, by
    have := dep_all fun d hd => (h d hd).dp
    show PyData.depthAll ds + 1 ≤ _
    omega⟩
theorem Sh.tup {ds : List PyData} {B D n : Nat} (h : ∀ d ∈ ds, Sh B D d) (hn : ds.length ≤ n) : Sh ((B + 2) * n + 3) (D + 1) (.tuple ds) :=
  ⟨okR_all fun d hd => (h d hd).ok, by
    have := rz_all fun d hd => (h d hd).sz
    have h2 : (B + 2) * ds.length ≤ (B + 2) * n := Nat.mul_le_mul_left _ hn
    show rzAll ds + 3 ≤ _
    omega, by
    have := dep_all fun d hd => (h d hd).dp
    show PyData.depthAll ds + 1 ≤ _
    omega⟩
theorem Sh.mono {B D B' D' : Nat} {d : PyData} (h : Sh B D d) (hB : B ≤ B') (hD : D ≤ D') : Sh B' D' d := ⟨h.ok, Nat.le_trans h.sz hB, Nat.le_trans h.dp hD⟩
end Z

namespace T
open PySem PySem.Spec L2 Z
local macro_rules | `(tactic| walk_at "zloc") => `(tactic| first | exact Or.inl rfl | exact Or.inr rfl)
local macro_rules | `(tactic| walk_at "zmem") => `(tactic| first | exact Mem.put_same | assumption | (refine (Mem.put_ne (by first | assumption | exact Ne.symm (by assumption))).trans ?_; walk_at "zmem"))
local macro_rules | `(tactic| walk_at "zdat") => `(tactic| first | exact Dat.d | exact Dat.ex (by walk_at "zmem") | assumption)
local macro_rules | `(tactic| walk_at "zds") => `(tactic| first | exact Or.inr rfl | exact Or.inl (by walk_at "zdat"))
local macro_rules | `(tactic| walk_at "zty") => `(tactic| first | exact ty_S | exact ty_X (by walk_at "zmem") | exact ty_L (by walk_at "zdat"))
local macro_rules | `(tactic| walk_at "zsm") => `(tactic| first | omega | exact CMulZ.small (by omega) (by omega) | exact wide_div (b := 60) (by omega) (by omega) (by decide) (by decide) | exact ⟨by decide, by decide, by decide⟩)
local macro_rules | `(tactic| walk_at "zln") => `(tactic| first | (simp only [List.length_cons, List.length_nil, List.length_append, List.length_map]; omega) | omega)
local macro_rules | `(tactic| walk_at "z+") => `(tactic| first | refine add_I ?_ | refine add_T (by walk_at "zln") ?_ | refine add_L (by walk_at "zdat") (by walk_at "zdat") (by walk_at "zln") ?_ | refine add_S (by walk_at "zln") ?_)
local macro_rules | `(tactic| walk_at "z[]") => `(tactic| first | refine ix_X (by walk_at "zmem") (by rfl) ?_ | refine ix_T (by rfl) ?_ | refine ix_L (by walk_at "zdat") (by rfl) ?_)
local macro_rules | `(tactic| walk_at "z:") => `(tactic| first | refine sl_T ?_ | refine sl_L (by walk_at "zdat") ?_)
local macro_rules | `(tactic| walk_at "zlen") => `(tactic| first | refine len_T ?_ | refine len_L (by walk_at "zdat") ?_ | refine len_X (by walk_at "zmem") ?_)
local macro_rules | `(tactic| walk_at "zabs") => `(tactic| refine abs_I ?_)
local macro_rules | `(tactic| walk_at "zint") => `(tactic| first | refine int_I ?_ | refine int_B ?_)
local macro_rules | `(tactic| walk_at "ztuple") => `(tactic| first | refine tuple_T ?_ | refine tuple_L (by walk_at "zdat") ?_)
local macro_rules | `(tactic| walk_at "zlist") => `(tactic| first | refine list_T ?_ | refine list_L (by walk_at "zdat") ?_)
local macro_rules | `(tactic| walk_at "zin") => `(tactic| first | refine in_T rfl rfl rfl rfl ?_ | refine in_L (by walk_at "zdat") rfl rfl rfl rfl ?_)

def top (i : Nat) : Stmt := PySem.Challenge.pw_spanvault_k01_summaries.main.body.getD i (.Pass ⟨0, 0, 0, 0⟩)
abbrev s__wall : Stmt := top 0
abbrev n__wall : List Str := ["k"]
abbrev p__wall : List Str := ["k"]
theorem sc__wall : FnScope n__wall p__wall (defScope s__wall) := ⟨rfl, rfl, rfl, by decide +kernel, rfl, by decide +kernel, by decide +kernel⟩
abbrev s_stretch_text : Stmt := top 2
abbrev n_stretch_text : List Str := ["stretch"]
abbrev p_stretch_text : List Str := ["stretch"]
theorem sc_stretch_text : FnScope n_stretch_text p_stretch_text (defScope s_stretch_text) := ⟨rfl, rfl, rfl, by decide +kernel, rfl, by decide +kernel, by decide +kernel⟩
abbrev s_summary : Stmt := top 3
abbrev n_summary : List Str := ["kind", "history", "stretch", "values"]
abbrev p_summary : List Str := ["kind", "history", "stretch"]
theorem sc_summary : FnScope n_summary p_summary (defScope s_summary) := ⟨rfl, rfl, rfl, by decide +kernel, rfl, by decide +kernel, by decide +kernel⟩
abbrev s_Vault_init : Stmt := inClass (top 4) 0
abbrev n_Vault_init : List Str := ["self", "kind", "buckets", "costs"]
abbrev p_Vault_init : List Str := ["self", "kind", "buckets", "costs"]
theorem sc_Vault_init : FnScope n_Vault_init p_Vault_init (defScope s_Vault_init) := ⟨rfl, rfl, rfl, by decide +kernel, rfl, by decide +kernel, by decide +kernel⟩
abbrev s_Vault_parse : Stmt := inClass (top 4) 1
abbrev n_Vault_parse : List Str := ["cls", "text"]
abbrev p_Vault_parse : List Str := ["cls", "text"]
theorem sc_Vault_parse : FnScope n_Vault_parse p_Vault_parse (defScope s_Vault_parse) := ⟨rfl, rfl, rfl, by decide +kernel, rfl, by decide +kernel, by decide +kernel⟩
abbrev s_Vault_hours : Stmt := inClass (top 4) 2
abbrev n_Vault_hours : List Str := ["self"]
abbrev p_Vault_hours : List Str := ["self"]
theorem sc_Vault_hours : FnScope n_Vault_hours p_Vault_hours (defScope s_Vault_hours) := ⟨rfl, rfl, rfl, by decide +kernel, rfl, by decide +kernel, by decide +kernel⟩
abbrev s_Vault_str : Stmt := inClass (top 4) 3
abbrev n_Vault_str : List Str := ["self", "rows", "stretch", "cost"]
abbrev p_Vault_str : List Str := ["self"]
theorem sc_Vault_str : FnScope n_Vault_str p_Vault_str (defScope s_Vault_str) := ⟨rfl, rfl, rfl, by decide +kernel, rfl, by decide +kernel, by decide +kernel⟩
abbrev s_Vault_len : Stmt := inClass (top 4) 4
abbrev n_Vault_len : List Str := ["self"]
abbrev p_Vault_len : List Str := ["self"]
theorem sc_Vault_len : FnScope n_Vault_len p_Vault_len (defScope s_Vault_len) := ⟨rfl, rfl, rfl, by decide +kernel, rfl, by decide +kernel, by decide +kernel⟩
abbrev s_Vault_eq : Stmt := inClass (top 4) 5
abbrev n_Vault_eq : List Str := ["self", "other"]
abbrev p_Vault_eq : List Str := ["self", "other"]
theorem sc_Vault_eq : FnScope n_Vault_eq p_Vault_eq (defScope s_Vault_eq) := ⟨rfl, rfl, rfl, by decide +kernel, rfl, by decide +kernel, by decide +kernel⟩
abbrev s_Vault_summaries : Stmt := inClass (top 4) 6
abbrev n_Vault_summaries : List Str := ["self", "history", "bucket"]
abbrev p_Vault_summaries : List Str := ["self", "history"]
theorem sc_Vault_summaries : FnScope n_Vault_summaries p_Vault_summaries (defScope s_Vault_summaries) := ⟨rfl, rfl, rfl, by decide +kernel, rfl, by decide +kernel, by decide +kernel⟩
abbrev s_Vault_without : Stmt := inClass (top 4) 7
abbrev n_Vault_without : List Str := ["self", "numbers"]
abbrev p_Vault_without : List Str := ["self", "numbers"]
theorem sc_Vault_without : FnScope n_Vault_without p_Vault_without (defScope s_Vault_without) := ⟨rfl, rfl, rfl, by decide +kernel, rfl, by decide +kernel, by decide +kernel⟩
abbrev s_l_feed : Stmt := top 6
abbrev n_l_feed : List Str := ["_law_script", "_law_k", "_law_cell", "_law_digits", "_law_state"]
abbrev p_l_feed : List Str := ["_law_script", "_law_k"]
theorem sc_l_feed : FnScope n_l_feed p_l_feed (defScope s_l_feed) := ⟨rfl, rfl, rfl, by decide +kernel, rfl, by decide +kernel, by decide +kernel⟩
abbrev s_l_take : Stmt := top 7
abbrev n_l_take : List Str := ["_law_feed_here", "_law_many", "_law_digit"]
abbrev p_l_take : List Str := ["_law_feed_here", "_law_many"]
theorem sc_l_take : FnScope n_l_take p_l_take (defScope s_l_take) := ⟨rfl, rfl, rfl, by decide +kernel, rfl, by decide +kernel, by decide +kernel⟩
abbrev s_l_pick : Stmt := top 8
abbrev n_l_pick : List Str := ["_law_feed_here", "_law_some"]
abbrev p_l_pick : List Str := ["_law_feed_here", "_law_some"]
theorem sc_l_pick : FnScope n_l_pick p_l_pick (defScope s_l_pick) := ⟨rfl, rfl, rfl, by decide +kernel, rfl, by decide +kernel, by decide +kernel⟩
abbrev s_l_stretch : Stmt := top 9
abbrev n_l_stretch : List Str := ["_law_feed_here", "_law_most", "_law_start"]
abbrev p_l_stretch : List Str := ["_law_feed_here", "_law_most"]
theorem sc_l_stretch : FnScope n_l_stretch p_l_stretch (defScope s_l_stretch) := ⟨rfl, rfl, rfl, by decide +kernel, rfl, by decide +kernel, by decide +kernel⟩
abbrev s_l_buckets : Stmt := top 10
abbrev n_l_buckets : List Str := ["_law_feed_here", "_law_most", "_law_many", "_law_found", "_law_turn", "_law_one", "_law_other", "_law_some"]
abbrev p_l_buckets : List Str := ["_law_feed_here", "_law_most", "_law_many"]
theorem sc_l_buckets : FnScope n_l_buckets p_l_buckets (defScope s_l_buckets) := ⟨rfl, rfl, rfl, by decide +kernel, rfl, by decide +kernel, by decide +kernel⟩
abbrev s_l_history : Stmt := top 11
abbrev n_l_history : List Str := ["_law_feed_here", "_law_kind", "_law_hours", "_law_far", "_law_hour"]
abbrev p_l_history : List Str := ["_law_feed_here", "_law_kind", "_law_hours"]
theorem sc_l_history : FnScope n_l_history p_l_history (defScope s_l_history) := ⟨rfl, rfl, rfl, by decide +kernel, rfl, by decide +kernel, by decide +kernel⟩
abbrev s_l_summary : Stmt := top 12
abbrev n_l_summary : List Str := ["_law_kind", "_law_history_here", "_law_stretch_here", "_law_found", "_law_hour", "_law_value"]
abbrev p_l_summary : List Str := ["_law_kind", "_law_history_here", "_law_stretch_here"]
theorem sc_l_summary : FnScope n_l_summary p_l_summary (defScope s_l_summary) := ⟨rfl, rfl, rfl, by decide +kernel, rfl, by decide +kernel, by decide +kernel⟩
abbrev s_law : Stmt := top 13
abbrev n_law : List Str := ["_law_script", "_law_k", "_law_feed_here", "_law_kind", "_law_hours", "_law_history_here", "_law_seen", "_law_some", "_law_stretch_here", "_law_due", "_law_vault", "_law_turn", "_law_told"]
abbrev p_law : List Str := ["_law_script"]
theorem sc_law : FnScope n_law p_law (defScope s_law) := ⟨rfl, rfl, rfl, by decide +kernel, rfl, by decide +kernel, by decide +kernel⟩
structure Txt (K : PySem.W.Frag) (mg : Str → Option Value) (C_Vault : Addr) : Prop where
  b_abs : mg "abs" = none
  b_isinstance : mg "isinstance" = none
  b_len : mg "len" = none
  b_max : mg "max" = none
  b_min : mg "min" = none
  b_range : mg "range" = none
  b_repr : mg "repr" = none
  b_str : mg "str" = none
  b_sum : mg "sum" = none
  b_tuple : mg "tuple" = none
  b_zip : mg "zip" = none
  mg_Vault : mg "Vault" = some (.ref C_Vault)
  cl_Vault : Cls K C_Vault
  na_Vault_kind : NoAttr K C_Vault "kind"
  na_Vault_buckets : NoAttr K C_Vault "buckets"
  na_Vault_costs : NoAttr K C_Vault "costs"
  i_Vault : ∃ f fd, Mk K C_Vault f ∧ FunD K "__init__" "Vault.__init__" (defArgs s_Vault_init) (defBody s_Vault_init) (defScope s_Vault_init) [] [("costs", .non)] f fd
  m_Vault_summaries : ∃ f fd, Meth K C_Vault "summaries" f ∧ Fun K "summaries" "Vault.summaries" s_Vault_summaries f fd
  f_summary : ∃ f fd, Fun K "summary" "summary" s_summary f fd ∧ mg "summary" = some (.ref f)
  f_l_feed : ∃ f fd, Fun K "_law_feed" "_law_feed" s_l_feed f fd ∧ mg "_law_feed" = some (.ref f)
  f_l_take : ∃ f fd, Fun K "_law_take" "_law_take" s_l_take f fd ∧ mg "_law_take" = some (.ref f)
  f_l_pick : ∃ f fd, Fun K "_law_pick" "_law_pick" s_l_pick f fd ∧ mg "_law_pick" = some (.ref f)
  f_l_stretch : ∃ f fd, Fun K "_law_stretch" "_law_stretch" s_l_stretch f fd ∧ mg "_law_stretch" = some (.ref f)
  f_l_buckets : ∃ f fd, Fun K "_law_buckets" "_law_buckets" s_l_buckets f fd ∧ mg "_law_buckets" = some (.ref f)
  f_l_history : ∃ f fd, Fun K "_law_history" "_law_history" s_l_history f fd ∧ mg "_law_history" = some (.ref f)
  f_l_summary : ∃ f fd, Fun K "_law_summary" "_law_summary" s_l_summary f fd ∧ mg "_law_summary" = some (.ref f)
local macro_rules | `(tactic| walk_at "zcl") => `(tactic| first | exact Txt.cl_Vault (by assumption))
local macro_rules | `(tactic| walk_at "zna") => `(tactic| first | exact Txt.na_Vault_kind (by assumption) | exact Txt.na_Vault_buckets (by assumption) | exact Txt.na_Vault_costs (by assumption))
/-! the draws -/
abbrev fdO (c : Int × Int) : XO := .lst [.d (.int c.1), .d (.int c.2)]
def FOk (c : Int × Int) : Prop := 0 ≤ c.1 ∧ 0 ≤ c.2 ∧ c.2 < 2305843009213693951
def S_feed : Prm where
  I := List Int × Nat
  args i := [.d (.list (i.1.map .int)), .d (.int (i.2 : Int))]
  pre i m := i.2 < 1000 ∧ ∀ z ∈ i.1, Builtin.Int.intBits z ≤ 1048576
  post i m r m' := ∃ p c, m p = none ∧ FOk c ∧ r = .x p ∧ m' = m.put p (fdO c)
def S_take : Prm where
  I := Addr × (Int × Int) × Int
  args i := [.x i.1, .d (.int i.2.2)]
  pre i m := m i.1 = some (fdO i.2.1) ∧ FOk i.2.1 ∧ 0 < i.2.2 ∧ i.2.2 < 2 ^ 60
  post i m r m' := ∃ v c, FOk c ∧ 0 ≤ v ∧ v < i.2.2 ∧ r = .d (.int v) ∧ m' = m.put i.1 (fdO c)
def S_pick : Prm where
  I := Addr × (Int × Int) × Ent × List PyData
  args i := [.x i.1, i.2.2.1]
  pre i m := m i.1 = some (fdO i.2.1) ∧ FOk i.2.1 ∧ Dat m i.2.2.1 (.list i.2.2.2) ∧ i.2.2.1 ≠ .x i.1 ∧ 0 < i.2.2.2.length ∧ i.2.2.2.length < 2 ^ 50
  post i m r m' := ∃ d c, FOk c ∧ d ∈ i.2.2.2 ∧ r = .d d ∧ m' = m.put i.1 (fdO c)
def S_stretch : Prm where
  I := Addr × (Int × Int) × Nat
  args i := [.x i.1, .d (.int (i.2.2 : Int))]
  pre i m := m i.1 = some (fdO i.2.1) ∧ FOk i.2.1 ∧ 0 < i.2.2 ∧ i.2.2 < 2 ^ 50
  post i m r m' := ∃ (a b : Nat) (c : Int × Int), FOk c ∧ a < b ∧ b ≤ i.2.2 ∧ r = .d (.tuple [.int (a : Int), .int (b : Int)]) ∧ m' = m.put i.1 (fdO c)
theorem Dat.put {m : Mem} {x : Ent} {d : PyData} {f : Addr} {o : XO} (h : Dat m x d) (hx : x ≠ .x f) : Dat (m.put f o) x d := by
  rcases h with h | ⟨p, ds, rfl, hp, e⟩
  · exact .inl h
  · exact .inr ⟨p, ds, rfl, by rw [Mem.put_ne (fun q => hx (by rw [q]))]; exact hp, e⟩
theorem use_l_feed {m : Mem} {K : KE} {ns : List Int} {k : Nat} (h0 : k < 1000) (h1 : ∀ z ∈ ns, Builtin.Int.intBits z ≤ 1048576) (h : ∀ p c, m p = none → FOk c → K (.x p) (m.put p (fdO c))) :
    ∃ i, [Ent.d (.list (ns.map .int)), .d (.int (k : Int))] = S_feed.args i ∧ S_feed.pre i m ∧ ∀ r m', S_feed.post i m r m' → K r m' :=
  ⟨(ns, k), rfl, ⟨h0, h1⟩, fun r m' ⟨p, c, hp, hc, e1, e2⟩ => by subst e1 e2; exact h p c hp hc⟩
theorem use_l_take {m0 : Mem} {K : KE} {f : Addr} {c : Int × Int} {k : Int} (hc : FOk c) (h0 : 0 < k) (h1 : k < 2 ^ 60) (h : ∀ v c', FOk c' → 0 ≤ v → v < k → K (.d (.int v)) (m0.put f (fdO c'))) :
    ∃ i, [.x f, .d (.int k)] = S_take.args i ∧ S_take.pre i (m0.put f (fdO c)) ∧ ∀ r m', S_take.post i (m0.put f (fdO c)) r m' → K r m' :=
  ⟨(f, c, k), rfl, ⟨Mem.put_same, hc, h0, h1⟩, fun r m' ⟨v, c', hc', a, b, e1, e2⟩ => by subst e1 e2; rw [Mem.put_put]; exact h v c' hc' a b⟩
theorem use_l_pick {m0 : Mem} {K : KE} {f : Addr} {c : Int × Int} {x : Ent} {ds : List PyData} (hc : FOk c) (hx : Dat (m0.put f (fdO c)) x (.list ds)) (hf : x ≠ .x f) (h0 : 0 < ds.length) (h1 : ds.length < 2 ^ 50) (h : ∀ d c', FOk c' → d ∈ ds → K (.d d) (m0.put f (fdO c'))) :
    ∃ i, [.x f, x] = S_pick.args i ∧ S_pick.pre i (m0.put f (fdO c)) ∧ ∀ r m', S_pick.post i (m0.put f (fdO c)) r m' → K r m' :=
  ⟨(f, c, x, ds), rfl, ⟨Mem.put_same, hc, hx, hf, h0, h1⟩, fun r m' ⟨d, c', hc', a, e1, e2⟩ => by subst e1 e2; rw [Mem.put_put]; exact h d c' hc' a⟩
theorem use_l_pickD {m0 : Mem} {K : KE} {f : Addr} {c : Int × Int} {ds : List PyData} (hc : FOk c) (h0 : 0 < ds.length) (h1 : ds.length < 2 ^ 50) (h : ∀ d c', FOk c' → d ∈ ds → K (.d d) (m0.put f (fdO c'))) :
    ∃ i, [.x f, .d (.list ds)] = S_pick.args i ∧ S_pick.pre i (m0.put f (fdO c)) ∧ ∀ r m', S_pick.post i (m0.put f (fdO c)) r m' → K r m' := use_l_pick hc .d (fun e => nomatch e) h0 h1 h
theorem use_l_stretch {m0 : Mem} {K : KE} {f : Addr} {c : Int × Int} {k : Nat} (hc : FOk c) (h0 : 0 < k) (h1 : k < 2 ^ 50) (h : ∀ (a b : Nat) c', FOk c' → a < b → b ≤ k → K (.d (.tuple [.int (a : Int), .int (b : Int)])) (m0.put f (fdO c'))) :
    ∃ i, [.x f, .d (.int (k : Int))] = S_stretch.args i ∧ S_stretch.pre i (m0.put f (fdO c)) ∧ ∀ r m', S_stretch.post i (m0.put f (fdO c)) r m' → K r m' :=
  ⟨(f, c, k), rfl, ⟨Mem.put_same, hc, h0, h1⟩, fun r m' ⟨a, b, c', hc', h2, h3, e1, e2⟩ => by subst e1 e2; rw [Mem.put_put]; exact h a b c' hc' h2 h3⟩
theorem fd_of {m : Mem} {f : Addr} {c : Int × Int} (h : m f = some (fdO c)) : m = m.put f (fdO c) := by
  funext b
  by_cases hb : b = f
  · subst hb; rw [Mem.put_same, h]
  · rw [Mem.put_ne hb]
theorem bits_log {z : Int} {k : Nat} (h : Builtin.Int.intBits z ≤ k) : z.natAbs.log2 ≤ k := by
  unfold Builtin.Int.intBits at h
  split at h
  · rename_i e
    have : z.natAbs = 0 := by
      first
        | (have e' := eq_of_beq e; omega)
        | omega
        | simp_all
    rw [this]
    exact Nat.le_trans (by decide) (Nat.zero_le _)
  · omega
theorem nat_get {α : Type} {xs : List α} {k : Nat} (h : (k : Int) < (xs.length : Int)) : ∃ z, atI xs (k : Int) = some z ∧ z ∈ xs := by
  have hk : k < xs.length := by omega
  exact ⟨xs[k], atI_nat (List.getElem?_eq_getElem hk), List.getElem_mem hk⟩
theorem int_get {α : Type} {xs : List α} {k : Int} (h0 : 0 ≤ k) (h : k < (xs.length : Int)) : ∃ z, atI xs k = some z ∧ z ∈ xs := by
  obtain ⟨z, h1, h2⟩ := nat_get (xs := xs) (k := k.toNat) (by omega)
  exact ⟨z, by rw [← h1]; congr 1; omega, h2⟩

theorem atI_map {α β : Type} {f : α → β} {xs : List α} {i : Int} : atI (xs.map f) i = (atI xs i).map f := by
  unfold atI
  rw [List.length_map]
  cases ixN xs.length i with
  | none => rfl
  | some j => simp
theorem small_log {z : Int} (h : -(2 ^ 400) < z ∧ z < 2 ^ 400) : z.natAbs.log2 ≤ 1048576 := by
  have e1 : z.natAbs < 2 ^ 400 := by omega
  have a1 := PySem.Flt.log2_lt_of (by decide) e1
  omega
theorem cell_mul {z k : Int} (h : z.natAbs.log2 ≤ 1048576) (hk : k.natAbs < 2 ^ 400 := by decide) : CMulZ z k := by
  have a1 := PySem.Flt.log2_lt_of (by decide) hk
  unfold CMulZ
  omega

/-! histories: of whole numbers or of texts -/
inductive HV where
  | I (xs : List Int)
  | S (xs : List Str)
def HV.ds : HV → List PyData
  | .I xs => xs.map .int
  | .S xs => xs.map .str
def HV.cut (a b : Nat) : HV → HV
  | .I xs => .I ((xs.drop a).take (b - a))
  | .S xs => .S ((xs.drop a).take (b - a))
def HV.len : HV → Nat
  | .I xs => xs.length
  | .S xs => xs.length
theorem HV.ds_len (h : HV) : h.ds.length = h.len := by cases h <;> simp [HV.ds, HV.len]
def kinds6 : List Str := ["sum", "list", "greatest", "least", "first", "last"]
/-- the history fits the kind -/
def HV.ok (k : Str) : HV → Prop
  | .I xs => k ≠ "list" ∧ ∀ x ∈ xs, x.natAbs ≤ 10 ^ 20
  | .S xs => k = "list" ∧ ∀ x ∈ xs, x.length ≤ 3 ∧ okS x
def smI (k : Str) : List Int → Int
  | [] => 0
  | i :: t => if k = "sum" then (i :: t).sum else if k = "greatest" then t.foldl max i else if k = "least" then t.foldl min i else if k = "first" then i else (i :: t).getLast (by simp)
def HV.sm (k : Str) : HV → PyData
  | .I xs => .int (smI k xs)
  | .S xs => .str (Txt.join "" xs)
theorem sIx_lo {n a : Nat} (h : a ≤ n) (d : Nat) : HT.sIx n d (some (a : Int)) = a := by rw [HT.sIx_nat]; omega
theorem cutD_nat {α : Type} {xs : List α} {a b : Nat} (h1 : a ≤ b) (h2 : b ≤ xs.length) : cutD xs (some (a : Int)) (some (b : Int)) = (xs.drop a).take (b - a) := by
  unfold cutD
  have e1 := sIx_lo (n := xs.length) (a := a) (by omega) 0
  have e2 := sIx_lo h2 xs.length
  rw [e1, e2]
theorem HV.cut_ds {h : HV} {a b : Nat} (h1 : a ≤ b) (h2 : b ≤ h.len) : cutD h.ds (some (a : Int)) (some (b : Int)) = (h.cut a b).ds := by
  rw [cutD_nat h1 (by rw [HV.ds_len]; exact h2)]
  cases h <;> simp [HV.ds, HV.cut, List.map_take, List.map_drop]
theorem HV.cut_len {h : HV} {a b : Nat} (h2 : b ≤ h.len) : (h.cut a b).len = b - a := by
  cases h <;> simp [HV.len, HV.cut] at * <;> omega
theorem HV.cut_ok {k : Str} {h : HV} {a b : Nat} (o : h.ok k) : (h.cut a b).ok k := by
  cases h with
  | I xs => exact ⟨o.1, fun x hx => o.2 x (List.mem_of_mem_drop (List.mem_of_mem_take hx))⟩
  | S xs => exact ⟨o.1, fun x hx => o.2 x (List.mem_of_mem_drop (List.mem_of_mem_take hx))⟩
def S_history : Prm where
  I := Addr × (Int × Int) × Str × Nat
  args i := [.x i.1, .d (.str i.2.2.1), .d (.int (i.2.2.2 : Int))]
  pre i m := m i.1 = some (fdO i.2.1) ∧ FOk i.2.1 ∧ i.2.2.2 ≤ 100
  post i m r m' := ∃ (h : HV) (c : Int × Int), FOk c ∧ h.len = i.2.2.2 ∧ h.ok i.2.2.1 ∧ r = .d (.tuple h.ds) ∧ m' = m.put i.1 (fdO c)
theorem use_l_history {m0 : Mem} {K : KE} {f : Addr} {c : Int × Int} {kind : Str} {k : Nat} (hc : FOk c) (h0 : k ≤ 100) (h : ∀ (h : HV) c', FOk c' → h.len = k → h.ok kind → K (.d (.tuple h.ds)) (m0.put f (fdO c'))) :
    ∃ i, [.x f, .d (.str kind), .d (.int (k : Int))] = S_history.args i ∧ S_history.pre i (m0.put f (fdO c)) ∧ ∀ r m', S_history.post i (m0.put f (fdO c)) r m' → K r m' :=
  ⟨(f, c, kind, k), rfl, ⟨Mem.put_same, hc, h0⟩, fun r m' ⟨hv, c', hc', h1, h2, e1, e2⟩ => by subst e1 e2; rw [Mem.put_put]; exact h hv c' hc' h1 h2⟩
def S_summary : Prm where
  I := Str × HV × Nat × Nat
  args i := [.d (.str i.1), .d (.tuple i.2.1.ds), .d (.tuple [.int (i.2.2.1 : Int), .int (i.2.2.2 : Int)])]
  pre i m := i.2.1.ok i.1 ∧ i.2.2.1 < i.2.2.2 ∧ i.2.2.2 ≤ i.2.1.len ∧ i.2.1.len ≤ 100
  post i m r m' := r = .d ((i.2.1.cut i.2.2.1 i.2.2.2).sm i.1) ∧ m' = m
theorem use_summary {m : Mem} {K : KE} {kind : Str} {h : HV} {a b : Nat} (h1 : h.ok kind) (h2 : a < b) (h3 : b ≤ h.len) (h4 : h.len ≤ 100) (k : K (.d ((h.cut a b).sm kind)) m) :
    ∃ i, [.d (.str kind), .d (.tuple h.ds), .d (.tuple [.int (a : Int), .int (b : Int)])] = S_summary.args i ∧ S_summary.pre i m ∧ ∀ r m', S_summary.post i m r m' → K r m' :=
  ⟨(kind, h, a, b), rfl, ⟨h1, h2, h3, h4⟩, fun r m' ⟨e1, e2⟩ => by subst e1 e2; exact k⟩
theorem HV.int_of {k : Str} {u : HV} (o : u.ok k) (hk : k ≠ "list") (hl : 0 < u.len) : ∃ i t, u = .I (i :: t) := by
  cases u with
  | I xs =>
    cases xs with
    | nil => exact absurd hl (by simp [HV.len])
    | cons i t => exact ⟨i, t, rfl⟩
  | S xs => exact absurd o.1 hk
theorem HV.str_of {k : Str} {u : HV} (o : u.ok k) (hk : k = "list") : ∃ xs, u = .S xs ∧ ∀ x ∈ xs, x.length ≤ 3 := by
  cases u with
  | I xs => exact absurd hk o.1
  | S xs => exact ⟨xs, rfl, fun x hx => (o.2 x hx).1⟩
theorem sum_len : ∀ {xs : List Str}, (∀ x ∈ xs, x.length ≤ 3) → (xs.map (·.length)).sum ≤ 3 * xs.length
  | [], _ => by simp
  | x :: xs, h => by
    have h1 := h x List.mem_cons_self
    have h2 := sum_len (xs := xs) fun y hy => h y (List.mem_cons_of_mem _ hy)
    rw [List.map_cons, List.sum_cons, List.length_cons]
    omega
theorem join_len {a b : Nat} (h : a ≤ 1000000) : a + b * (Str.ofString "").length ≤ 16777216 := by
  have e0 : (Str.ofString "").length = 0 := by decide +kernel
  rw [e0]
  omega
theorem last_get (i : Int) (t : List Int) : atI ((i :: t).map PyData.int) (-1) = some (.int ((i :: t).getLast (by simp))) := by
  obtain ⟨l, hl⟩ : ∃ l, i :: t = l ++ [(i :: t).getLast (by simp)] := ⟨_, (List.dropLast_concat_getLast (by simp)).symm⟩
  have e : (i :: t).map PyData.int = l.map PyData.int ++ [.int ((i :: t).getLast (by simp))] := by
    have := congrArg (List.map PyData.int) hl
    rw [List.map_append] at this
    exact this
  rw [e]
  exact atI_last _ _

theorem pick_txt {d : PyData} (h : d ∈ ([.str "", .str "a", .str "b", .str "ab", .str "ba", .str "aa", .str "zyx"] : List PyData)) : ∃ x : Str, d = .str x ∧ x.length ≤ 3 ∧ okS x := by
  simp only [List.mem_cons, List.mem_nil_iff, or_false] at h
  rcases h with rfl | rfl | rfl | rfl | rfl | rfl | rfl <;> exact ⟨_, rfl, by decide +kernel, by decide +kernel⟩
theorem pick_int {d : PyData} {far : Int} (hf : far.natAbs ≤ 10 ^ 20) (hd : d ∈ ([.int 0, .int 1, .int (-1), .int 5, .int (-7), .int far, .int (0 - far), .int 2] : List PyData)) : ∃ x : Int, d = .int x ∧ x.natAbs ≤ 10 ^ 20 := by
  simp only [List.mem_cons, List.mem_nil_iff, or_false] at hd
  rcases hd with rfl | rfl | rfl | rfl | rfl | rfl | rfl | rfl <;> exact ⟨_, rfl, by omega⟩
theorem far_int {d : PyData} (hd : d ∈ ([.int (10 ^ 20), .int 3, .int 0] : List PyData)) : ∃ x : Int, d = .int x ∧ x.natAbs ≤ 10 ^ 20 := by
  simp only [List.mem_cons, List.mem_nil_iff, or_false] at hd
  rcases hd with rfl | rfl | rfl <;> exact ⟨_, rfl, by omega⟩
theorem in2 {k a b : Str} : inV (.str k) [.str a, .str b] = (decide (a = k) || decide (b = k)) := by simp [inV, eqV, Bool.beq_eq_decide_eq]
theorem is_in2 {k a b : Str} (h : (if false = true then !inV (.str k) [.str a, .str b] else inV (.str k) [.str a, .str b]) = true) : k = a ∨ k = b := by
  rw [if_neg Bool.false_ne_true, in2, Bool.or_eq_true, decide_eq_true_eq, decide_eq_true_eq] at h
  exact h.imp Eq.symm Eq.symm
theorem not_in2 {k a b : Str} (h : (if false = true then !inV (.str k) [.str a, .str b] else inV (.str k) [.str a, .str b]) = false) : k ≠ a ∧ k ≠ b := by
  rw [if_neg Bool.false_ne_true, in2, Bool.or_eq_false_iff, decide_eq_false_iff_not, decide_eq_false_iff_not] at h
  exact ⟨fun e => h.1 e.symm, fun e => h.2 e.symm⟩
theorem sm_sum {i : Int} {t : List Int} : HV.sm "sum" (.I (i :: t)) = .int (i :: t).sum := by
  simp only [HV.sm, smI]
  rw [if_pos trivial]
theorem sm_greatest {i : Int} {t : List Int} : HV.sm "greatest" (.I (i :: t)) = .int (t.foldl max i) := by
  simp only [HV.sm, smI]
  rw [if_neg (by decide +kernel), if_pos trivial]
theorem sm_least {i : Int} {t : List Int} : HV.sm "least" (.I (i :: t)) = .int (t.foldl min i) := by
  simp only [HV.sm, smI]
  rw [if_neg (by decide +kernel), if_neg (by decide +kernel), if_pos trivial]
theorem sm_first {i : Int} {t : List Int} : HV.sm "first" (.I (i :: t)) = .int i := by
  simp only [HV.sm, smI]
  rw [if_neg (by decide +kernel), if_neg (by decide +kernel), if_neg (by decide +kernel), if_pos trivial]
theorem sm_last {k : Str} {i : Int} {t : List Int} (h1 : k ≠ "sum") (h2 : k ≠ "greatest") (h3 : k ≠ "least") (h4 : k ≠ "first") : HV.sm k (.I (i :: t)) = .int ((i :: t).getLast (by simp)) := by
  simp only [HV.sm, smI]
  rw [if_neg h1, if_neg h2, if_neg h3, if_neg h4]

def jnI (k : Str) (i j : Int) : Int := if k = "sum" then i + j else if k = "greatest" then max i j else if k = "least" then min i j else if k = "first" then i else j
def jn (k : Str) : PyData → PyData → PyData
  | .int i, .int j => .int (jnI k i j)
  | .str x, .str y => .str (x ++ y)
  | _, _ => .none
/-- one value of a kind -/
def V1 (k : Str) (d : PyData) : Prop := (k ≠ "list" ∧ ∃ i, d = .int i) ∨ (k = "list" ∧ ∃ x : Str, d = .str x ∧ x.length ≤ 1000)
def S_joined : Prm where
  I := Str × PyData × PyData
  args i := [.d (.str i.1), .d i.2.1, .d i.2.2]
  pre i m := V1 i.1 i.2.1 ∧ V1 i.1 i.2.2
  post i m r m' := r = .d (jn i.1 i.2.1 i.2.2) ∧ m' = m
theorem use_l_joined {m : Mem} {K : KE} {kind : Str} {a b : PyData} (h1 : V1 kind a) (h2 : V1 kind b) (k : K (.d (jn kind a b)) m) :
    ∃ i, [.d (.str kind), .d a, .d b] = S_joined.args i ∧ S_joined.pre i m ∧ ∀ r m', S_joined.post i m r m' → K r m' :=
  ⟨(kind, a, b), rfl, ⟨h1, h2⟩, fun r m' ⟨e1, e2⟩ => by subst e1 e2; exact k⟩
theorem V1.int {k : Str} {d : PyData} (h : V1 k d) (hk : k ≠ "list") : ∃ i, d = .int i := h.elim (fun h => h.2) fun h => absurd h.1 hk
theorem V1.str {k : Str} {d : PyData} (h : V1 k d) (hk : k = "list") : ∃ x : Str, d = .str x ∧ x.length ≤ 1000 := h.elim (fun h => absurd hk h.1) fun h => h.2
theorem tl_flat (xs : List Str) : TL.tl (Txt.join "" xs) = (xs.map TL.tl).flatten := by
  have e0 : TL.tl ("" : Str) = [] := by decide +kernel
  rw [TL.join_eq, TL.tl_join, e0]
  generalize xs.map TL.tl = l
  induction l with
  | nil => rfl
  | cons p l ih =>
    cases l with
    | nil => simp [TL.joinL]
    | cons q r =>
      show p ++ ([] ++ TL.joinL [] (q :: r)) = _
      rw [ih]
      simp
theorem join_app (xs ys : List Str) : Txt.join "" (xs ++ ys) = Txt.join "" xs ++ Txt.join "" ys := by
  apply TL.ext_tl
  rw [TL.tl_append, tl_flat, tl_flat, tl_flat, List.map_append, List.flatten_append]
theorem join_one (x : Str) : Txt.join "" [x] = x := by
  apply TL.ext_tl
  rw [tl_flat]
  simp
theorem join_size {xs : List Str} (h : ∀ x ∈ xs, x.length ≤ 3) : (Txt.join "" xs).length ≤ 3 * xs.length := by
  have e : (Txt.join "" xs).length = (TL.tl (Txt.join "" xs)).length := (Array.length_toList).symm
  rw [e, tl_flat]
  clear e
  induction xs with
  | nil => simp
  | cons x xs ih =>
    have h1 := h x List.mem_cons_self
    have e1 : (TL.tl x).length = x.length := Array.length_toList
    have h2 := ih fun y hy => h y (List.mem_cons_of_mem _ hy)
    rw [List.map_cons, List.flatten_cons, List.length_append, List.length_cons, e1]
    omega
theorem HV.sm_V1 {k : Str} {u : HV} (o : u.ok k) (hl : u.len ≤ 100) : V1 k (u.sm k) := by
  cases u with
  | I xs => exact .inl ⟨o.1, _, rfl⟩
  | S xs =>
    refine .inr ⟨o.1, _, rfl, ?_⟩
    have := join_size fun x hx => (o.2 x hx).1
    have e : (HV.S xs).len = xs.length := rfl
    omega
theorem foldl_max_app (i j : Int) (s t : List Int) : (s ++ j :: t).foldl max i = max (s.foldl max i) (t.foldl max j) := by
  rw [List.foldl_append, List.foldl_cons]
  generalize s.foldl max i = a
  induction t generalizing a j with
  | nil => rfl
  | cons c t ih =>
    rw [List.foldl_cons, List.foldl_cons, ← ih]
    congr 1
    omega
theorem foldl_min_app (i j : Int) (s t : List Int) : (s ++ j :: t).foldl min i = min (s.foldl min i) (t.foldl min j) := by
  rw [List.foldl_append, List.foldl_cons]
  generalize s.foldl min i = a
  induction t generalizing a j with
  | nil => rfl
  | cons c t ih =>
    rw [List.foldl_cons, List.foldl_cons, ← ih]
    congr 1
    omega
theorem smI_cons (k : Str) (i : Int) (t : List Int) : smI k (i :: t) = if k = "sum" then (i :: t).sum else if k = "greatest" then t.foldl max i else if k = "least" then t.foldl min i else if k = "first" then i else (i :: t).getLast (by simp) := rfl
theorem smI_app (k : Str) {xs ys : List Int} (h1 : 0 < xs.length) (h2 : 0 < ys.length) : smI k (xs ++ ys) = jnI k (smI k xs) (smI k ys) := by
  cases xs with
  | nil => exact absurd h1 (by simp)
  | cons i s =>
    cases ys with
    | nil => exact absurd h2 (by simp)
    | cons j t =>
      rw [List.cons_append, smI_cons, smI_cons, smI_cons, jnI]
      by_cases c1 : k = "sum"
      · rw [if_pos c1, if_pos c1, if_pos c1, if_pos c1, ← List.cons_append, List.sum_append]
      · rw [if_neg c1, if_neg c1, if_neg c1, if_neg c1]
        by_cases c2 : k = "greatest"
        · rw [if_pos c2, if_pos c2, if_pos c2, if_pos c2]; exact foldl_max_app i j s t
        · rw [if_neg c2, if_neg c2, if_neg c2, if_neg c2]
          by_cases c3 : k = "least"
          · rw [if_pos c3, if_pos c3, if_pos c3, if_pos c3]; exact foldl_min_app i j s t
          · rw [if_neg c3, if_neg c3, if_neg c3, if_neg c3]
            by_cases c4 : k = "first"
            · rw [if_pos c4, if_pos c4, if_pos c4]
            · rw [if_neg c4, if_neg c4, if_neg c4]
              have e : i :: (s ++ j :: t) = (i :: s) ++ (j :: t) := rfl
              simp only [e, List.getLast_append_of_ne_nil _ (by simp : (j :: t) ≠ [])]
theorem drop_split {α : Type} {xs : List α} {a m b : Nat} (h1 : a ≤ m) (h2 : m ≤ b) : (xs.drop a).take (b - a) = (xs.drop a).take (m - a) ++ (xs.drop m).take (b - m) := by
  have e : b - a = (m - a) + (b - m) := by omega
  have e2 : m = a + (m - a) := by omega
  rw [e, List.take_add, List.drop_drop, ← e2]
theorem smI_one (k : Str) (i : Int) : smI k [i] = i := by
  rw [smI_cons]
  by_cases c1 : k = "sum"
  · rw [if_pos c1]; simp
  · rw [if_neg c1]
    by_cases c2 : k = "greatest"
    · rw [if_pos c2]; rfl
    · rw [if_neg c2]
      by_cases c3 : k = "least"
      · rw [if_pos c3]; rfl
      · rw [if_neg c3]
        by_cases c4 : k = "first"
        · rw [if_pos c4]
        · rw [if_neg c4]; rfl
theorem HV.sm_join {k : Str} {u : HV} {a m b : Nat} (h1 : a < m) (h2 : m < b) (h3 : b ≤ u.len) : jn k ((u.cut a m).sm k) ((u.cut m b).sm k) = (u.cut a b).sm k := by
  cases u with
  | I xs =>
    have hl : b ≤ xs.length := h3
    simp only [HV.cut, HV.sm, jn]
    rw [drop_split (by omega : a ≤ m) (by omega : m ≤ b), smI_app]
    · rw [List.length_take, List.length_drop]; omega
    · rw [List.length_take, List.length_drop]; omega
  | S xs =>
    simp only [HV.cut, HV.sm, jn]
    rw [drop_split (by omega : a ≤ m) (by omega : m ≤ b), join_app]
theorem HV.sm_one {k : Str} {u : HV} {a : Nat} (h : a < u.len) : atI u.ds (a : Int) = some ((u.cut a (a + 1)).sm k) := by
  have e1 : a + 1 - a = 1 := by omega
  cases u with
  | I xs =>
    have hl : a < xs.length := h
    have hg := List.getElem?_eq_getElem hl
    have e : (xs.drop a).take 1 = [xs[a]] := by rw [List.drop_eq_getElem_cons hl]; rfl
    simp only [HV.ds, HV.cut, HV.sm, e1, e]
    rw [smI_one]
    exact atI_nat (by rw [List.getElem?_map, hg]; rfl)
  | S xs =>
    have hl : a < xs.length := h
    have hg := List.getElem?_eq_getElem hl
    have e : (xs.drop a).take 1 = [xs[a]] := by rw [List.drop_eq_getElem_cons hl]; rfl
    simp only [HV.ds, HV.cut, HV.sm, e1, e, join_one]
    exact atI_nat (by rw [List.getElem?_map, hg]; rfl)
theorem V1.same {X : Cx} {k : Str} {d : PyData} {m : Mem} {K : KE} (h : V1 k d) (kk : K (.d (.bool false)) m) : R2W X rNe (.d d) (.d d) m K := by
  rcases h with ⟨_, i, rfl⟩ | ⟨_, x, rfl, _⟩
  · exact ne_V (v := .int i) (u := .int i) rfl rfl rfl (by simpa using kk)
  · exact ne_V (v := .str x) (u := .str x) rfl rfl rfl (by simpa using kk)


/-! draws in any memory -/
theorem use_l_takeM {m : Mem} {K : KE} {f : Addr} {c : Int × Int} {k : Int} (hm : m f = some (fdO c)) (hc : FOk c) (h0 : 0 < k) (h1 : k < 2 ^ 60) (h : ∀ v c', FOk c' → 0 ≤ v → v < k → K (.d (.int v)) (m.put f (fdO c'))) :
    ∃ i, [.x f, .d (.int k)] = S_take.args i ∧ S_take.pre i m ∧ ∀ r m', S_take.post i m r m' → K r m' :=
  ⟨(f, c, k), rfl, ⟨hm, hc, h0, h1⟩, fun r m' ⟨v, c', hc', a, b, e1, e2⟩ => by subst e1 e2; exact h v c' hc' a b⟩
theorem use_l_pickM {m : Mem} {K : KE} {f : Addr} {c : Int × Int} {x : Ent} {ds : List PyData} (hm : m f = some (fdO c)) (hc : FOk c) (hx : Dat m x (.list ds)) (hf : x ≠ .x f) (h0 : 0 < ds.length) (h1 : ds.length < 2 ^ 50) (h : ∀ d c', FOk c' → d ∈ ds → K (.d d) (m.put f (fdO c'))) :
    ∃ i, [.x f, x] = S_pick.args i ∧ S_pick.pre i m ∧ ∀ r m', S_pick.post i m r m' → K r m' :=
  ⟨(f, c, x, ds), rfl, ⟨hm, hc, hx, hf, h0, h1⟩, fun r m' ⟨d, c', hc', a, e1, e2⟩ => by subst e1 e2; exact h d c' hc' a⟩
theorem use_l_stretchM {m : Mem} {K : KE} {f : Addr} {c : Int × Int} {k : Nat} (hm : m f = some (fdO c)) (hc : FOk c) (h0 : 0 < k) (h1 : k < 2 ^ 50) (h : ∀ (a b : Nat) c', FOk c' → a < b → b ≤ k → K (.d (.tuple [.int (a : Int), .int (b : Int)])) (m.put f (fdO c'))) :
    ∃ i, [.x f, .d (.int (k : Int))] = S_stretch.args i ∧ S_stretch.pre i m ∧ ∀ r m', S_stretch.post i m r m' → K r m' :=
  ⟨(f, c, k), rfl, ⟨hm, hc, h0, h1⟩, fun r m' ⟨a, b, c', hc', h2, h3, e1, e2⟩ => by subst e1 e2; exact h a b c' hc' h2 h3⟩
/-- what is kept of the memory -/
def Kp (P : Addr → Prop) (m m' : Mem) : Prop := ∀ a o, P a → m a = some o → m' a = some o
theorem Kp.refl {P : Addr → Prop} {m : Mem} : Kp P m m := fun _ _ _ h => h
theorem Kp.put {P : Addr → Prop} {m m' : Mem} {f : Addr} {o : XO} (h : Kp P m m') (hf : P f → m f = none) : Kp P m (m'.put f o) := fun a u hp e => by
  have ha : a ≠ f := fun q => by subst q; rw [hf hp] at e; cases e
  rw [Mem.put_ne ha]
  exact h a u hp e
theorem Kp.free {P : Addr → Prop} {m m' : Mem} {q : Addr} (h : Kp P m m') (hq : m' q = none) (hp : P q) : m q = none := by
  cases e : m q with
  | none => rfl
  | some o => rw [h q o hp e] at hq; cases hq
abbrev but2 (p f : Addr) : Addr → Prop := fun a => a ≠ p ∧ a ≠ f
/-- a stretch up to a moment -/
def Stv (n : Nat) (d : PyData) : Prop := ∃ a b : Nat, a < b ∧ b ≤ n ∧ d = .tuple [.int (a : Int), .int (b : Int)]
theorem Stv.mk {n : Nat} {i j : Int} (h0 : 0 ≤ i) (h1 : i < j) (h2 : j ≤ n) : Stv n (.tuple [.int i, .int j]) :=
  ⟨i.toNat, j.toNat, by omega, by omega, by rw [Int.toNat_of_nonneg h0, Int.toNat_of_nonneg (by omega)]⟩
abbrev stD (q : Nat × Nat) : PyData := .tuple [.int (q.1 : Int), .int (q.2 : Int)]
theorem stv_list {n : Nat} : ∀ {ds : List PyData}, (∀ d ∈ ds, Stv n d) → ∃ bs : List (Nat × Nat), ds = bs.map stD ∧ ∀ q ∈ bs, q.1 < q.2 ∧ q.2 ≤ n
  | [], _ => ⟨[], rfl, fun _ h => by simp at h⟩
  | d :: ds, h => by
    obtain ⟨a, b, h1, h2, rfl⟩ := h d List.mem_cons_self
    obtain ⟨bs, rfl, hb⟩ := stv_list (ds := ds) fun e he => h e (List.mem_cons_of_mem _ he)
    refine ⟨(a, b) :: bs, rfl, fun q hq => ?_⟩
    rcases List.mem_cons.mp hq with rfl | hq
    · exact ⟨h1, h2⟩
    · exact hb q hq
def S_buckets : Prm where
  I := Addr × (Int × Int) × Nat × Nat
  args i := [.x i.1, .d (.int (i.2.2.1 : Int)), .d (.int (i.2.2.2 : Int))]
  pre i m := m i.1 = some (fdO i.2.1) ∧ FOk i.2.1 ∧ 0 < i.2.2.1 ∧ i.2.2.1 < 1000 ∧ i.2.2.2 < 1000
  post i m r m' := ∃ (p : Addr) (ds : List PyData) (c : Int × Int), m p = none ∧ FOk c ∧ ds.length = i.2.2.2 ∧ (∀ d ∈ ds, Stv i.2.2.1 d) ∧ r = .x p ∧ m' = (m.put i.1 (fdO c)).put p (.lst (List.map .d ds))
theorem use_l_buckets {m : Mem} {K : KE} {f : Addr} {c : Int × Int} {k n : Nat} (hm : m f = some (fdO c)) (hc : FOk c) (h0 : 0 < k) (h1 : k < 1000) (h2 : n < 1000) (h : ∀ p ds c', m p = none → FOk c' → ds.length = n → (∀ d ∈ ds, Stv k d) → K (.x p) ((m.put f (fdO c')).put p (.lst (List.map .d ds)))) :
    ∃ i, [.x f, .d (.int (k : Int)), .d (.int (n : Int))] = S_buckets.args i ∧ S_buckets.pre i m ∧ ∀ r m', S_buckets.post i m r m' → K r m' :=
  ⟨(f, c, k, n), rfl, ⟨hm, hc, h0, h1, h2⟩, fun r m' ⟨p, ds, c', hp, hc', h3, h4, e1, e2⟩ => by subst e1 e2; exact h p ds c' hp hc' h3 h4⟩
theorem Dat.exs {m : Mem} {p : Addr} {es : List Ent} {ds : List PyData} (h : m p = some (.lst es)) (e : es = List.map .d ds) : Dat m (.x p) (.list ds) := .ex (e ▸ h)
theorem nil_ne {ds : List PyData} : PyData.eqv (.list ds) (.list []) = decide (ds = []) := by
  cases ds with
  | nil => rfl
  | cons d ds => simp [PyData.eqv, PyData.eqvAll]
theorem sub_of2 {m m' : Mem} {f p : Addr} {a b : XO} (hf : m' f = some a) (hp : m' p = some b) (h : Kp (but2 p f) m m') : Mem.Sub ((m.put f a).put p b) m' := fun x o e => by
  by_cases h1 : x = p
  · subst h1; rw [Mem.put_same] at e; cases e; exact hp
  · rw [Mem.put_ne h1] at e
    by_cases h2 : x = f
    · subst h2; rw [Mem.put_same] at e; cases e; exact hf
    · rw [Mem.put_ne h2] at e
      exact h x o ⟨h1, h2⟩ e
theorem stv_shaped {n : Nat} {ds : List PyData} (h : ∀ d ∈ ds, Stv n d) : SeqAt.shaped (.list ds) = true ∧ nodict (.list ds) = true := by
  obtain ⟨bs, rfl, hb⟩ := stv_list h
  clear h hb
  constructor
  · refine Bool.and_eq_true_iff.mpr ⟨?_, ?_⟩
    · show PyData.canLayAll0 (bs.map stD) = true
      induction bs with
      | nil => rfl
      | cons q bs ih => simpa [PyData.canLayAll0, PyData.canLay0, stD] using ih
    · have : PyData.depthAll (bs.map stD) ≤ 1 := dep_all fun d hd => by
        obtain ⟨q, _, rfl⟩ := List.mem_map.mp hd
        exact Nat.le_refl _
      have e : (PyData.list (bs.map stD)).depth = PyData.depthAll (bs.map stD) + 1 := by simp only [PyData.depth]
      rw [e]
      exact decide_eq_true (by omega)
  · show nodictAll (bs.map stD) = true
    induction bs with
    | nil => rfl
    | cons q bs ih => simpa [nodictAll, nodict, stD] using ih
local macro_rules | `(tactic| walk_at "zkp") => `(tactic| first | assumption | (refine Kp.put ?_ (by first | assumption | (intro h; exact absurd rfl h.1) | (intro h; exact absurd rfl h.2)); walk_at "zkp"))
local macro_rules | `(tactic| walk_at "zme2") => `(tactic| walk_at "zmem")

def S_lsummary : Prm where
  I := Str × HV × Nat × Nat
  args i := [.d (.str i.1), .d (.tuple i.2.1.ds), .d (.tuple [.int (i.2.2.1 : Int), .int (i.2.2.2 : Int)])]
  pre i m := i.2.1.ok i.1 ∧ i.2.2.1 < i.2.2.2 ∧ i.2.2.2 ≤ i.2.1.len ∧ i.2.1.len ≤ 100 ∧ i.1 ∈ kinds6
  post i m r m' := r = .d ((i.2.1.cut i.2.2.1 i.2.2.2).sm i.1) ∧ m' = m
theorem use_l_summary {m : Mem} {K : KE} {kind : Str} {h : HV} {a b : Nat} (h1 : h.ok kind) (h2 : a < b) (h3 : b ≤ h.len) (h4 : h.len ≤ 100) (h5 : kind ∈ kinds6) (k : K (.d ((h.cut a b).sm kind)) m) :
    ∃ i, [.d (.str kind), .d (.tuple h.ds), .d (.tuple [.int (a : Int), .int (b : Int)])] = S_lsummary.args i ∧ S_lsummary.pre i m ∧ ∀ r m', S_lsummary.post i m r m' → K r m' :=
  ⟨(kind, h, a, b), rfl, ⟨h1, h2, h3, h4, h5⟩, fun r m' ⟨e1, e2⟩ => by subst e1 e2; exact k⟩
theorem kk_sum_list : (("sum" : Str) = "list") = False := eq_false (by decide +kernel)
theorem kk_sum_greatest : (("sum" : Str) = "greatest") = False := eq_false (by decide +kernel)
theorem kk_sum_least : (("sum" : Str) = "least") = False := eq_false (by decide +kernel)
theorem kk_sum_first : (("sum" : Str) = "first") = False := eq_false (by decide +kernel)
theorem kk_sum_last : (("sum" : Str) = "last") = False := eq_false (by decide +kernel)
theorem kk_list_sum : (("list" : Str) = "sum") = False := eq_false (by decide +kernel)
theorem kk_list_greatest : (("list" : Str) = "greatest") = False := eq_false (by decide +kernel)
theorem kk_list_least : (("list" : Str) = "least") = False := eq_false (by decide +kernel)
theorem kk_list_first : (("list" : Str) = "first") = False := eq_false (by decide +kernel)
theorem kk_list_last : (("list" : Str) = "last") = False := eq_false (by decide +kernel)
theorem kk_greatest_sum : (("greatest" : Str) = "sum") = False := eq_false (by decide +kernel)
theorem kk_greatest_list : (("greatest" : Str) = "list") = False := eq_false (by decide +kernel)
theorem kk_greatest_least : (("greatest" : Str) = "least") = False := eq_false (by decide +kernel)
theorem kk_greatest_first : (("greatest" : Str) = "first") = False := eq_false (by decide +kernel)
theorem kk_greatest_last : (("greatest" : Str) = "last") = False := eq_false (by decide +kernel)
theorem kk_least_sum : (("least" : Str) = "sum") = False := eq_false (by decide +kernel)
theorem kk_least_list : (("least" : Str) = "list") = False := eq_false (by decide +kernel)
theorem kk_least_greatest : (("least" : Str) = "greatest") = False := eq_false (by decide +kernel)
theorem kk_least_first : (("least" : Str) = "first") = False := eq_false (by decide +kernel)
theorem kk_least_last : (("least" : Str) = "last") = False := eq_false (by decide +kernel)
theorem kk_first_sum : (("first" : Str) = "sum") = False := eq_false (by decide +kernel)
theorem kk_first_list : (("first" : Str) = "list") = False := eq_false (by decide +kernel)
theorem kk_first_greatest : (("first" : Str) = "greatest") = False := eq_false (by decide +kernel)
theorem kk_first_least : (("first" : Str) = "least") = False := eq_false (by decide +kernel)
theorem kk_first_last : (("first" : Str) = "last") = False := eq_false (by decide +kernel)
theorem kk_last_sum : (("last" : Str) = "sum") = False := eq_false (by decide +kernel)
theorem kk_last_list : (("last" : Str) = "list") = False := eq_false (by decide +kernel)
theorem kk_last_greatest : (("last" : Str) = "greatest") = False := eq_false (by decide +kernel)
theorem kk_last_least : (("last" : Str) = "least") = False := eq_false (by decide +kernel)
theorem kk_last_first : (("last" : Str) = "first") = False := eq_false (by decide +kernel)
theorem kinds6_of {k : Str} (h : k ∈ kinds6) : k = "sum" ∨ k = "list" ∨ k = "greatest" ∨ k = "least" ∨ k = "first" ∨ k = "last" := by
  simpa [kinds6] using h
def isAdd (k : Str) : Prop := k = "sum" ∨ k = "list"
instance (k : Str) : Decidable (isAdd k) := inferInstanceAs (Decidable (_ ∨ _))
theorem add_jn {X : Cx} {k : Str} {x y : PyData} {m : Mem} {K : KE} (h1 : V1 k x) (h2 : V1 k y) (hk : isAdd k) (h : K (.d (jn k x y)) m) : R2W X (rAddZ X.K) (.d x) (.d y) m K := by
  rcases hk with rfl | rfl
  · obtain ⟨i, rfl⟩ := h1.int (by decide +kernel)
    obtain ⟨j, rfl⟩ := h2.int (by decide +kernel)
    refine add_I ?_
    have e : jnI "sum" i j = i + j := if_pos rfl
    simpa only [jn, e] using h
  · obtain ⟨i, rfl, hi⟩ := h1.str rfl
    obtain ⟨j, rfl, hj⟩ := h2.str rfl
    exact add_S (by omega) h
theorem jn_g {i j : Int} : jn "greatest" (.int i) (.int j) = .int (max i j) := by
  simp only [jn, jnI]; rw [if_neg (by decide +kernel), if_pos trivial]
theorem jn_l {i j : Int} : jn "least" (.int i) (.int j) = .int (min i j) := by
  simp only [jn, jnI]; rw [if_neg (by decide +kernel), if_neg (by decide +kernel), if_pos trivial]
theorem jn_f {x y : PyData} (h1 : V1 "first" x) (h2 : V1 "first" y) : jn "first" x y = x := by
  obtain ⟨i, rfl⟩ := h1.int (by decide +kernel)
  obtain ⟨j, rfl⟩ := h2.int (by decide +kernel)
  simp only [jn, jnI]; rw [if_neg (by decide +kernel), if_neg (by decide +kernel), if_neg (by decide +kernel), if_pos trivial]
theorem jn_e {x y : PyData} (h1 : V1 "last" x) (h2 : V1 "last" y) : jn "last" x y = y := by
  obtain ⟨i, rfl⟩ := h1.int (by decide +kernel)
  obtain ⟨j, rfl⟩ := h2.int (by decide +kernel)
  simp only [jn, jnI]; rw [if_neg (by decide +kernel), if_neg (by decide +kernel), if_neg (by decide +kernel), if_neg (by decide +kernel)]
/-- behind the first test, behind the second -/
def st1 (k : Str) (x y : PyData) : PyData := if isAdd k then jn k x y else x
def st2 (k : Str) (x y : PyData) : PyData := if isAdd k ∨ k = "greatest" ∨ k = "least" then jn k x y else x
theorem st1_no {k : Str} {x y : PyData} (h : k = "greatest" ∨ k = "least") : st1 k x y = x := by
  rcases h with rfl | rfl <;> exact if_neg (by unfold isAdd; decide +kernel)
theorem st2_g {i j : Int} : st2 "greatest" (.int i) (.int j) = .int (max i j) := by
  unfold st2; rw [if_pos (.inr (.inl rfl)), jn_g]
theorem st2_l {i j : Int} : st2 "least" (.int i) (.int j) = .int (min i j) := by
  unfold st2; rw [if_pos (.inr (.inr rfl)), jn_l]
theorem st2_gt {k : Str} {i j : Int} (h : k = "greatest") (h2 : decide (j > i) = true) : st2 k (.int i) (.int j) = .int j := by
  subst h; rw [st2_g, Int.max_eq_right (Int.le_of_lt (of_decide_eq_true h2))]
theorem st2_ge {k : Str} {i j : Int} (h : k = "greatest") (h2 : decide (j > i) = false) : st2 k (.int i) (.int j) = .int i := by
  subst h; rw [st2_g, Int.max_eq_left (by have := of_decide_eq_false h2; omega)]
theorem st2_lt {k : Str} {i j : Int} (h : k = "least") (h2 : decide (j < i) = true) : st2 k (.int i) (.int j) = .int j := by
  subst h; rw [st2_l, Int.min_eq_right (Int.le_of_lt (of_decide_eq_true h2))]
theorem st2_le {k : Str} {i j : Int} (h : k = "least") (h2 : decide (j < i) = false) : st2 k (.int i) (.int j) = .int i := by
  subst h; rw [st2_l, Int.min_eq_left (by have := of_decide_eq_false h2; omega)]
theorem st2_o {k : Str} {x y : PyData} (h1 : k ≠ "greatest") (h2 : k ≠ "least") : st2 k x y = st1 k x y := by
  unfold st2 st1
  by_cases h : isAdd k
  · rw [if_pos h, if_pos (.inl h)]
  · rw [if_neg h, if_neg (by rintro (q | q | q) <;> contradiction)]
theorem st3_last {k : Str} {x y : PyData} (h1 : V1 k x) (h2 : V1 k y) (h : k = "last") : y = jn k x y := by
  subst h; exact (jn_e h1 h2).symm
theorem st3_no {k : Str} {x y : PyData} (h1 : V1 k x) (h2 : V1 k y) (h6 : k ∈ kinds6) (h : k ≠ "last") : st2 k x y = jn k x y := by
  rcases kinds6_of h6 with rfl | rfl | rfl | rfl | rfl | rfl
  · exact if_pos (.inl (.inl rfl))
  · exact if_pos (.inl (.inr rfl))
  · exact if_pos (.inr (.inl rfl))
  · exact if_pos (.inr (.inr rfl))
  · rw [jn_f h1 h2]; exact if_neg (by unfold isAdd; decide +kernel)
  · exact absurd rfl h

theorem lk_hit {α : Type} {f : Str} {e : α} {r : List (Str × α)} : List.lookup f ((f, e) :: r) = some e := by simp [List.lookup]
theorem lk_miss {α : Type} {f g : Str} {x : α} {r : List (Str × α)} (h : (f == g) = false) : List.lookup f ((g, x) :: r) = List.lookup f r := by simp only [List.lookup, h]
theorem lk_nil {α : Type} {f : Str} : List.lookup f ([] : List (Str × α)) = none := rfl
theorem putE_miss {f g : Str} {e x : Ent} {r : List (Str × Ent)} (h : ¬ g = f) : putE f e ((g, x) :: r) = (g, x) :: putE f e r := if_neg h
theorem putE_hit {f : Str} {e x : Ent} {r : List (Str × Ent)} : putE f e ((f, x) :: r) = (f, e) :: r := if_pos rfl
theorem putE_nil {f : Str} {e : Ent} : putE f e [] = [(f, e)] := rfl
local macro_rules | `(tactic| walk_at "zlk") => `(tactic| first | ((refine (lk_miss (by decide +kernel)).trans ?_); walk_at "zlk") | exact lk_hit | exact lk_nil)
abbrev VO (C : Addr) (kind : Str) (bs : List (Nat × Nat)) (cs : List Int) : XO := .ins C [("kind", .d (.str kind)), ("buckets", .d (.tuple (bs.map stD))), ("costs", .d (.tuple (cs.map .int)))]
theorem DatS.put {m : Mem} {x : Ent} {ds : List PyData} {p : Addr} {o : XO} (h : DatS m x ds) (hp : ∀ es, m p ≠ some (.lst es)) : DatS (m.put p o) x ds := by
  rcases h with (rfl | ⟨q, es, rfl, hq, e⟩) | rfl
  · exact .inl .d
  · exact .inl (.inr ⟨q, es, rfl, by rw [Mem.put_ne (fun z => hp _ (z ▸ hq))]; exact hq, e⟩)
  · exact .inr rfl
def S_Vault_init (C : Addr) : Prm where
  I := Addr × Str × Ent × List (Nat × Nat)
  args i := [.x i.1, .d (.str i.2.1), i.2.2.1, .d .none]
  pre i m := m i.1 = some (.ins C []) ∧ DatS m i.2.2.1 (i.2.2.2.map stD) ∧ i.2.2.2.length ≤ 1000
  post i m r m' := r = .d .none ∧ m' = m.put i.1 (VO C i.2.1 i.2.2.2 (List.replicate i.2.2.2.length 1))
theorem use_Vault {m : Mem} {K : Mem → Prop} {C p : Addr} {kind : Str} {x : Ent} {bs : List (Nat × Nat)} (hp : m p = none) (hx : DatS m x (bs.map stD)) (hl : bs.length ≤ 1000) (h : K (m.put p (VO C kind bs (List.replicate bs.length 1)))) :
    ∃ i, [Ent.x p, .d (.str kind), x] ++ [.d .none] = (S_Vault_init C).args i ∧ (S_Vault_init C).pre i (m.put p (.ins C [])) ∧ ∀ r m', (S_Vault_init C).post i (m.put p (.ins C [])) r m' → r = .d .none ∧ K m' :=
  ⟨(p, kind, x, bs), rfl, ⟨Mem.put_same, DatS.put hx (fun es e => by rw [hp] at e; cases e), hl⟩, fun r m' ⟨e1, e2⟩ => ⟨e1, by subst e2; rw [Mem.put_put]; exact h⟩⟩
def S_Vault_summaries (C : Addr) : Prm where
  I := Addr × Str × List (Nat × Nat) × List Int × HV
  args i := [.x i.1, .d (.tuple i.2.2.2.2.ds)]
  pre i m := m i.1 = some (VO C i.2.1 i.2.2.1 i.2.2.2.1) ∧ i.2.2.2.2.ok i.2.1 ∧ i.2.2.2.2.len ≤ 100 ∧ (∀ q ∈ i.2.2.1, q.1 < q.2 ∧ q.2 ≤ i.2.2.2.2.len) ∧ i.2.2.1.length ≤ 1000
  post i m r m' := ∃ p, m p = none ∧ r = .x p ∧ m' = m.put p (.lst (List.map .d (i.2.2.1.map fun q => (i.2.2.2.2.cut q.1 q.2).sm i.2.1)))
theorem use_Vault_summaries {m : Mem} {K : KE} {C self : Addr} {kind : Str} {bs : List (Nat × Nat)} {cs : List Int} {hv : HV} (hm : m self = some (VO C kind bs cs)) (h1 : hv.ok kind) (h2 : hv.len ≤ 100) (h3 : ∀ q ∈ bs, q.1 < q.2 ∧ q.2 ≤ hv.len) (h4 : bs.length ≤ 1000)
    (h : ∀ p, m p = none → K (.x p) (m.put p (.lst (List.map .d (bs.map fun q => (hv.cut q.1 q.2).sm kind))))) :
    ∃ i, [.x self, .d (.tuple hv.ds)] = (S_Vault_summaries C).args i ∧ (S_Vault_summaries C).pre i m ∧ ∀ r m', (S_Vault_summaries C).post i m r m' → K r m' :=
  ⟨(self, kind, bs, cs, hv), rfl, ⟨hm, h1, h2, h3, h4⟩, fun r m' ⟨p, hp, e1, e2⟩ => by subst e1 e2; exact h p hp⟩
theorem st_get {bs : List (Nat × Nat)} {i : Nat} {d : PyData} (h : (bs.map stD)[i]? = some d) : ∃ q, bs[i]? = some q ∧ d = stD q := by
  rw [List.getElem?_map] at h
  cases e : bs[i]? with
  | none => rw [e] at h; cases h
  | some q => rw [e] at h; cases h; exact ⟨q, rfl, rfl⟩
theorem rep_one (n : Nat) : (List.replicate n [PyData.int 1]).flatten = (List.replicate n (1 : Int)).map .int := by
  induction n with
  | zero => rfl
  | succ n ih => rw [List.replicate_succ, List.flatten_cons, ih, List.replicate_succ]; rfl

theorem smI_bound {k : Str} {B : Nat} {xs : List Int} (h : ∀ x ∈ xs, x.natAbs ≤ B) : (smI k xs).natAbs ≤ xs.length * B + B := by
  cases xs with
  | nil => exact Nat.zero_le _
  | cons i t =>
    have hi := h i List.mem_cons_self
    have ht : ∀ x ∈ t, x.natAbs ≤ B := fun x hx => h x (List.mem_cons_of_mem _ hx)
    have hs : ∀ l : List Int, (∀ x ∈ l, x.natAbs ≤ B) → l.sum.natAbs ≤ l.length * B := fun l => by
      induction l with
      | nil => intro _; simp
      | cons a l ih =>
        intro h
        have h1 := h a List.mem_cons_self
        have h2 := ih fun x hx => h x (List.mem_cons_of_mem _ hx)
        rw [List.sum_cons, List.length_cons, Nat.succ_mul]
        omega
    have hM : ∀ (l : List Int) (a : Int), a.natAbs ≤ B → (∀ x ∈ l, x.natAbs ≤ B) → (l.foldl max a).natAbs ≤ B := fun l => by
      induction l with
      | nil => intro a ha _; exact ha
      | cons b l ih =>
        intro a ha h
        have h1 := h b List.mem_cons_self
        exact ih (max a b) (by omega) fun x hx => h x (List.mem_cons_of_mem _ hx)
    have hm : ∀ (l : List Int) (a : Int), a.natAbs ≤ B → (∀ x ∈ l, x.natAbs ≤ B) → (l.foldl min a).natAbs ≤ B := fun l => by
      induction l with
      | nil => intro a ha _; exact ha
      | cons b l ih =>
        intro a ha h
        have h1 := h b List.mem_cons_self
        exact ih (min a b) (by omega) fun x hx => h x (List.mem_cons_of_mem _ hx)
    rw [smI_cons]
    have h0 := hs (i :: t) h
    have h1 := hM t i hi ht
    have h2 := hm t i hi ht
    have h3 := h ((i :: t).getLast (by simp)) (List.getLast_mem _)
    split
    · omega
    · split
      · omega
      · split
        · omega
        · split <;> omega
theorem okS_join {xs : List Str} (h : ∀ x ∈ xs, okS x) : okS (Txt.join "" xs) := by
  have e : (Txt.join "" xs).cps.toList = (xs.map TL.tl).flatten := tl_flat xs
  unfold okS
  rw [e, List.all_eq_true]
  intro c hc
  obtain ⟨l, hl, hc⟩ := List.mem_flatten.mp hc
  obtain ⟨x, hx, rfl⟩ := List.mem_map.mp hl
  exact List.all_eq_true.mp (h x hx) c hc
theorem big_ok : 101 * 10 ^ 20 < 2 ^ 1919 := by
  have : (2 : Nat) ^ 1919 = 2 ^ 80 * 2 ^ 1839 := by rw [← Nat.pow_add]
  have h2 : 0 < (2 : Nat) ^ 1839 := Nat.two_pow_pos _
  have h3 : 2 ^ 80 * 1 ≤ (2 : Nat) ^ 80 * 2 ^ 1839 := Nat.mul_le_mul_left _ h2
  have h4 : (101 : Nat) * 10 ^ 20 < 2 ^ 80 * 1 := by decide
  omega
theorem HV.sm_sh {k : Str} {u : HV} (o : u.ok k) (hl : u.len ≤ 100) : Sh 3002 0 (u.sm k) := by
  cases u with
  | I xs =>
    have h1 := smI_bound (k := k) o.2
    have h2 : xs.length ≤ 100 := hl
    have h3 : xs.length * 10 ^ 20 ≤ 100 * 10 ^ 20 := Nat.mul_le_mul_right _ h2
    exact (Sh.int (B := 101 * 10 ^ 20) (by omega) big_ok).mono (by omega) (by omega)
  | S xs =>
    have h1 := join_size fun x hx => (o.2 x hx).1
    have h2 : xs.length ≤ 100 := hl
    exact (Sh.str (n := 300) (okS_join fun x hx => (o.2 x hx).2) (by omega)).mono (by omega) (by omega)
theorem small_ok : 10 ^ 20 < 2 ^ 1919 := by have := big_ok; omega
theorem HV.shw {k : Str} {u : HV} (o : u.ok k) (hl : u.len ≤ 100) : Shw (.tuple u.ds) := by
  have h : ∀ d ∈ u.ds, Sh 1922 0 d := by
    cases u with
    | I xs =>
      intro d hd
      obtain ⟨x, hx, rfl⟩ := List.mem_map.mp hd
      exact Sh.int (o.2 x hx) small_ok
    | S xs =>
      intro d hd
      obtain ⟨x, hx, rfl⟩ := List.mem_map.mp hd
      exact (Sh.str (n := 3) (o.2 x hx).2 (o.2 x hx).1).mono (by omega) (by omega)
  exact (Sh.tup (n := 100) h (by rw [HV.ds_len]; exact hl)).shw (by omega) (by omega)
theorem HV.sm_shw {k : Str} {u : HV} {a b : Nat} (o : u.ok k) (hl : u.len ≤ 100) (hb : b ≤ u.len) : Shw ((u.cut a b).sm k) :=
  (HV.sm_sh (HV.cut_ok o) (by rw [HV.cut_len hb]; omega)).shw (by omega) (by omega)
theorem sms_shw {k : Str} {u : HV} {bs : List (Nat × Nat)} (o : u.ok k) (hl : u.len ≤ 100) (hb : ∀ q ∈ bs, q.1 < q.2 ∧ q.2 ≤ u.len) (hn : bs.length ≤ 100) : Shw (.list (bs.map fun q => (u.cut q.1 q.2).sm k)) := by
  refine (Sh.lst (B := 3002) (D := 0) (n := 100) (fun d hd => ?_) (by rw [List.length_map]; exact hn)).shw (by omega) (by omega)
  obtain ⟨q, hq, rfl⟩ := List.mem_map.mp hd
  exact HV.sm_sh (HV.cut_ok o) (by have := hb q hq; rw [HV.cut_len this.2]; omega)
theorem cutD_le {α : Type} {xs : List α} {lo hi : Option Int} : (cutD xs lo hi).length ≤ xs.length := by
  unfold cutD
  rw [List.length_take, List.length_drop]
  omega
theorem cutD_sub {α : Type} {xs : List α} {lo hi : Option Int} {x : α} (h : x ∈ cutD xs lo hi) : x ∈ xs := by
  unfold cutD at h
  exact List.mem_of_mem_drop (List.mem_of_mem_take h)
theorem cutD_two {α : Type} {xs : List α} : cutD xs none (some 2) = xs.take (min 2 xs.length) := by
  unfold cutD
  rw [HT.sIx_none, show (some (2 : Int)) = some ((2 : Nat) : Int) from rfl, HT.sIx_nat]
  simp
theorem HV.app2 {k : Str} {u : HV} (o : u.ok k) : ∃ x : HV, x.ds = u.ds ++ cutD u.ds none (some 2) ∧ x.ok k ∧ x.len ≤ u.len + 2 ∧ u.len ≤ x.len ∧ ∀ a b, a ≤ b → b ≤ u.len → x.cut a b = u.cut a b := by
  rw [cutD_two]
  cases u with
  | I xs =>
    refine ⟨.I (xs ++ xs.take (min 2 xs.length)), by simp [HV.ds, List.map_take], ⟨o.1, fun x hx => ?_⟩, by simp only [HV.len, List.length_append, List.length_take]; omega, by simp only [HV.len, List.length_append]; omega, fun a b h1 h2 => ?_⟩
    · rcases List.mem_append.mp hx with h | h
      · exact o.2 x h
      · exact o.2 x (List.mem_of_mem_take h)
    · have h2 : b ≤ xs.length := h2
      simp only [HV.cut]
      rw [List.drop_append_of_le_length (by omega), List.take_append_of_le_length (by rw [List.length_drop]; omega)]
  | S xs =>
    refine ⟨.S (xs ++ xs.take (min 2 xs.length)), by simp [HV.ds, List.map_take], ⟨o.1, fun x hx => ?_⟩, by simp only [HV.len, List.length_append, List.length_take]; omega, by simp only [HV.len, List.length_append]; omega, fun a b h1 h2 => ?_⟩
    · rcases List.mem_append.mp hx with h | h
      · exact o.2 x h
      · exact o.2 x (List.mem_of_mem_take h)
    · have h2 : b ≤ xs.length := h2
      simp only [HV.cut]
      rw [List.drop_append_of_le_length (by omega), List.take_append_of_le_length (by rw [List.length_drop]; omega)]
theorem kinds_get {i : Nat} {d : PyData} (h : ([.str "sum", .str "list", .str "greatest", .str "least", .str "first", .str "last"] : List PyData)[i]? = some d) : ∃ k : Str, d = .str k ∧ k ∈ kinds6 := by
  have := List.mem_of_getElem? h
  simp only [List.mem_cons, List.mem_nil_iff, or_false] at this
  rcases this with rfl | rfl | rfl | rfl | rfl | rfl <;> exact ⟨_, rfl, by simp [kinds6]⟩
theorem hours_get {d : PyData} (h : d ∈ ([.int 1, .int 2, .int 7, .int 60] : List PyData)) : ∃ n : Nat, d = .int (n : Int) ∧ 0 < n ∧ n ≤ 60 := by
  simp only [List.mem_cons, List.mem_nil_iff, or_false] at h
  rcases h with rfl | rfl | rfl | rfl
  · exact ⟨1, rfl, by omega, by omega⟩
  · exact ⟨2, rfl, by omega, by omega⟩
  · exact ⟨7, rfl, by omega, by omega⟩
  · exact ⟨60, rfl, by omega, by omega⟩
theorem two_get {bs : List (Nat × Nat)} {i : Nat} {d : PyData} (h : (bs.map stD ++ cutD (bs.map stD) none (some 2))[i]? = some d) : ∃ q ∈ bs, d = stD q := by
  have := List.mem_of_getElem? h
  rcases List.mem_append.mp this with h | h
  · obtain ⟨q, hq, rfl⟩ := List.mem_map.mp h; exact ⟨q, hq, rfl⟩
  · obtain ⟨q, hq, rfl⟩ := List.mem_map.mp (cutD_sub h); exact ⟨q, hq, rfl⟩

theorem use_l_historyM {m : Mem} {K : KE} {f : Addr} {c : Int × Int} {kind : Str} {k : Nat} (hm : m f = some (fdO c)) (hc : FOk c) (h0 : k ≤ 100) (h : ∀ (h : HV) c', FOk c' → h.len = k → h.ok kind → K (.d (.tuple h.ds)) (m.put f (fdO c'))) :
    ∃ i, [.x f, .d (.str kind), .d (.int (k : Int))] = S_history.args i ∧ S_history.pre i m ∧ ∀ r m', S_history.post i m r m' → K r m' :=
  ⟨(f, c, kind, k), rfl, ⟨hm, hc, h0⟩, fun r m' ⟨hv, c', hc', h1, h2, e1, e2⟩ => by subst e1 e2; exact h hv c' hc' h1 h2⟩
section
variable {C_Vault : Addr} {P : Program} {w : World} {K : PySem.W.Frag} {mg : Str → Option Value} {base : Heap}
theorem av_l_feed (T : Txt K mg C_Vault) : Av P w K mg base 1 "_law_feed" p_l_feed S_feed := by
  obtain ⟨f, fd, Fn, hmg⟩ := T.f_l_feed
  refine ⟨f, fd, fn_G Fn sc_l_feed (fun _ => rfl) ?_, hmg, Fn.kp, Fn.binds fun _ _ _ _ _ _ us hl => match us, hl with | [_, _], _ => rfl⟩
  intro cdv A outer s H E c
  rintro ⟨ns, k⟩ m ⟨hk, hb⟩
  simp only at hk hb
  change WB _ _ [some (.d (.list (ns.map .int))), some (.d (.int (k : Int))), none, none, none] m _
  refine wb_cons ?_
  refine ws_set 2 c.nd rfl (by walk_at "zloc") ?_
  refine WE.cut (fun r m' => ∃ z : Int, r = .d (.int z) ∧ z.natAbs.log2 ≤ 1048576 ∧ m' = m) ?_ ?_
  · refine we_if ?_
    refine wt_cmp op_lt (nomark _) ?_
    refine v 1 ?_
    refine we_callB c_len rfl T.b_len (by decide +kernel) ?_
    refine wa_cons ?_
    refine v 0 ?_
    refine wa_nil ?_
    walk_at "zlen"
    refine r2_B0 ?_
    refine ⟨_, rfl, ?_⟩
    refine ⟨fun hc1 => ?_, fun hc1 => ?_⟩
    · have hkl := of_decide_eq_true hc1
      obtain ⟨z, hz1, hz2⟩ := nat_get (xs := ns) (k := k) (by simpa using hkl)
      refine we_ix ix_seq ?_
      refine v 0 ?_
      refine v 1 ?_
      refine ix_L (d := .int z) .d (by rw [show atI (ns.map PyData.int) (k : Int) = (atI ns (k : Int)).map PyData.int from atI_map, hz1]; rfl) ⟨z, rfl, bits_log (hb z hz2), rfl⟩
      skip
    · refine we_op op_addZ ?_
      refine we_op op_mulZ ?_
      refine we_int ?_
      refine v 1 ?_
      refine r2_I (by walk_at "zsm") ?_
      refine we_int ?_
      refine add_I ⟨_, rfl, ?_, rfl⟩
      exact small_log (by omega)
      skip
  · rintro r m1 ⟨z, rfl, hz, rfl⟩
    refine wb_cons ?_
    refine ws_set 3 c.nd rfl (by walk_at "zloc") ?_
    refine we_callB (c_max2 c.calm) rfl T.b_max (by decide +kernel) ?_
    refine wa_cons ?_
    refine we_int ?_
    refine wa_cons ?_
    refine we_op op_sub ?_
    refine we_callB c_abs rfl T.b_abs (by decide +kernel) ?_
    refine wa_cons ?_
    refine v 2 ?_
    refine wa_nil ?_
    walk_at "zabs"
    refine we_op op_pow ?_
    refine we_int ?_
    refine we_int ?_
    refine r2_I (by walk_at "zsm") ?_
    refine r2_I0 ?_
    refine wa_nil ?_
    refine max_II ?_
    refine wb_cons ?_
    refine ws_set 4 c.nd rfl (by walk_at "zloc") ?_
    refine we_op op_mod ?_
    refine we_op op_addZ ?_
    refine we_op op_addZ ?_
    refine we_op op_mulZ ?_
    refine v 2 ?_
    refine we_int ?_
    refine r2_I (by exact cell_mul hz) ?_
    refine we_op op_mulZ ?_
    refine we_int ?_
    refine v 1 ?_
    refine r2_I (by walk_at "zsm") ?_
    walk_at "z+"
    refine we_int ?_
    walk_at "z+"
    refine we_int ?_
    refine r2_I (by walk_at "zsm") ?_
    refine wb_cons ?_
    refine ws_ret ?_
    refine we_lstX ?_
    refine wa_cons ?_
    refine v 3 ?_
    refine wa_cons ?_
    refine v 4 ?_
    refine wa_nil ?_
    refine ⟨by simp, fun q2 nq2 => ?_⟩
    refine ⟨_, Sub.refl, _, (_, _), (by assumption), ⟨?_, ?_, ?_⟩, rfl, rfl⟩
    · exact Int.le_max_left _ _
    · exact Int.emod_nonneg _ (by decide)
    · exact Int.emod_lt_of_pos _ (by decide)
theorem av_l_take (T : Txt K mg C_Vault) : Av P w K mg base 1 "_law_take" p_l_take S_take := by
  obtain ⟨f, fd, Fn, hmg⟩ := T.f_l_take
  refine ⟨f, fd, fn_G Fn sc_l_take (fun _ => rfl) ?_, hmg, Fn.kp, Fn.binds fun _ _ _ _ _ _ us hl => match us, hl with | [_, _], _ => rfl⟩
  intro cdv A outer s H E c
  rintro ⟨f, ⟨dg, st⟩, k⟩ m ⟨hm, ⟨h1, h2, h3⟩, h4, h5⟩
  simp only at hm h1 h2 h3 h4 h5
  change WB _ _ [some (.x f), some (.d (.int k)), none] m _
  refine wb_cons ?_
  refine ws_if ?_
  refine wt_cmp op_gt (nomark _) ?_
  refine we_ix ix_seq ?_
  refine v 0 ?_
  refine we_int ?_
  walk_at "z[]"
  refine we_int ?_
  refine r2_B0 ?_
  refine ⟨_, rfl, ?_⟩
  refine ⟨fun hc1 => ?_, fun hc1 => ?_⟩
  · skip
    refine wb_cons ?_
    refine ws_set 2 c.nd rfl (by walk_at "zloc") ?_
    refine we_op op_mod ?_
    refine we_ix ix_seq ?_
    refine v 0 ?_
    refine we_int ?_
    walk_at "z[]"
    refine v 1 ?_
    refine r2_I (by walk_at "zsm") ?_
    refine wb_cons ?_
    refine ws_setix ?_
    refine we_op op_fdivW ?_
    refine we_ix ix_seq ?_
    refine v 0 ?_
    refine we_int ?_
    walk_at "z[]"
    refine v 1 ?_
    refine r2_I (by walk_at "zsm") ?_
    refine v 0 ?_
    refine we_int ?_
    refine ⟨_, _, _, _, rfl, rfl, by walk_at "zmem", rfl, ?_⟩
    refine wb_cons ?_
    refine ws_ret ?_
    refine v 2 ?_
    refine ⟨_, Sub.refl, _, (dg / k, st), ⟨?_, h2, h3⟩, ?_, ?_, rfl, rfl⟩
    · exact Int.ediv_nonneg h1 (by omega)
    · exact Int.emod_nonneg _ (by omega)
    · exact Int.emod_lt_of_pos _ h4
  · refine wb_nil ?_
    refine wb_cons ?_
    refine ws_setix ?_
    refine we_op op_mod ?_
    refine we_op op_addZ ?_
    refine we_op op_mulZ ?_
    refine we_ix ix_seq ?_
    refine v 0 ?_
    refine we_int ?_
    walk_at "z[]"
    refine we_int ?_
    refine r2_I (by walk_at "zsm") ?_
    refine we_int ?_
    walk_at "z+"
    refine we_int ?_
    refine r2_I (by walk_at "zsm") ?_
    refine v 0 ?_
    refine we_int ?_
    refine ⟨_, _, _, _, rfl, rfl, by walk_at "zmem", rfl, ?_⟩
    refine wb_cons ?_
    refine ws_ret ?_
    refine we_op op_mod ?_
    refine we_op op_fdivW ?_
    refine we_ix ix_seq ?_
    refine v 0 ?_
    refine we_int ?_
    walk_at "z[]"
    refine we_int ?_
    refine r2_I (by walk_at "zsm") ?_
    refine v 1 ?_
    refine r2_I (by walk_at "zsm") ?_
    refine ⟨_, Sub.refl, _, (dg, (st * 6364136223846793005 + 1442695040888963407) % 2305843009213693951), ⟨h1, ?_, ?_⟩, ?_, ?_, rfl, rfl⟩
    · exact Int.emod_nonneg _ (by decide)
    · exact Int.emod_lt_of_pos _ (by decide)
    · exact Int.emod_nonneg _ (by omega)
    · exact Int.emod_lt_of_pos _ h4
theorem av_l_pick (T : Txt K mg C_Vault) : Av P w K mg base 2 "_law_pick" p_l_pick S_pick := by
  obtain ⟨f, fd, Fn, hmg⟩ := T.f_l_pick
  refine ⟨f, fd, fn_G Fn sc_l_pick (fun _ => rfl) ?_, hmg, Fn.kp, Fn.binds fun _ _ _ _ _ _ us hl => match us, hl with | [_, _], _ => rfl⟩
  intro cdv A outer s H E c
  rintro ⟨f, c0, x, ds⟩ m ⟨hm, hc0, hx, hf, h0, h1⟩
  simp only at hm hc0 hx hf h0 h1
  change WB _ _ [some (.x f), some x] m _
  refine wb_cons ?_
  refine ws_ret ?_
  refine we_ix ix_seq ?_
  refine v 1 ?_
  refine we_call c (av_l_take T) (by decide) rfl ?_
  refine wa_cons ?_
  refine v 0 ?_
  refine wa_cons ?_
  refine we_callB c_len rfl T.b_len (by decide +kernel) ?_
  refine wa_cons ?_
  refine v 1 ?_
  refine wa_nil ?_
  refine len_L hx ?_
  rw [fd_of hm]
  refine wa_nil ?_
  refine use_l_take hc0 (by omega) (by omega) fun t1 c1 hc1 lo1 hi1 => ?_
  obtain ⟨d, hd1, hd2⟩ := int_get lo1 hi1
  refine ix_L (Dat.put hx hf) hd1 ?_
  exact ⟨_, Sub.refl, d, _, by assumption, hd2, rfl, Mem.put_put.symm⟩
theorem av_l_stretch (T : Txt K mg C_Vault) : Av P w K mg base 2 "_law_stretch" p_l_stretch S_stretch := by
  obtain ⟨f, fd, Fn, hmg⟩ := T.f_l_stretch
  refine ⟨f, fd, fn_G Fn sc_l_stretch (fun _ => rfl) ?_, hmg, Fn.kp, Fn.binds fun _ _ _ _ _ _ us hl => match us, hl with | [_, _], _ => rfl⟩
  intro cdv A outer s H E c
  rintro ⟨f, c0, k⟩ m ⟨hm, hc0, h0, h1⟩
  simp only at hm hc0 h0 h1
  change WB _ _ [some (.x f), some (.d (.int (k : Int))), none] m _
  rw [fd_of hm]
  refine wb_cons ?_
  refine ws_set 2 c.nd rfl (by walk_at "zloc") ?_
  refine we_call c (av_l_take T) (by decide) rfl ?_
  refine wa_cons ?_
  refine v 0 ?_
  refine wa_cons ?_
  refine v 1 ?_
  refine wa_nil ?_
  refine use_l_take (by assumption) (by omega) (by omega) fun t1 c1 hc1 lo1 hi1 => ?_
  refine wb_cons ?_
  refine ws_ret ?_
  refine we_tup ?_
  refine wa_cons ?_
  refine v 2 ?_
  refine wa_cons ?_
  refine we_op op_addZ ?_
  refine we_op op_addZ ?_
  refine v 2 ?_
  refine we_int ?_
  walk_at "z+"
  refine we_call c (av_l_take T) (by decide) rfl ?_
  refine wa_cons ?_
  refine v 0 ?_
  refine wa_cons ?_
  refine we_op op_sub ?_
  refine v 1 ?_
  refine v 2 ?_
  refine r2_I0 ?_
  refine wa_nil ?_
  refine use_l_take (by assumption) (by omega) (by omega) fun t2 c2 hc2 lo2 hi2 => ?_
  walk_at "z+"
  refine wa_nil ?_
  refine ⟨[_, _], rfl, by simp, ?_⟩
  refine ⟨_, Sub.refl, t1.toNat, (t1 + 1 + t2).toNat, c2, by assumption, by omega, (show _ ≤ k by omega), ?_, Mem.put_put.symm⟩
  · rw [Int.toNat_of_nonneg (by omega), Int.toNat_of_nonneg (by omega)]
theorem av_l_buckets (T : Txt K mg C_Vault) : Av P w K mg base 3 "_law_buckets" p_l_buckets S_buckets := by
  obtain ⟨f, fd, Fn, hmg⟩ := T.f_l_buckets
  refine ⟨f, fd, fn_G Fn sc_l_buckets (fun _ => rfl) ?_, hmg, Fn.kp, Fn.binds fun _ _ _ _ _ _ us hl => match us, hl with | [_, _, _], _ => rfl⟩
  intro cdv A outer s H E c
  rintro ⟨f, c0, k, n⟩ m ⟨hm, hc0, h0, h1, h2⟩
  simp only at hm hc0 h0 h1 h2
  change WB _ _ [some (.x f), some (.d (.int (k : Int))), some (.d (.int (n : Int))), none, none, none, none, none] m _
  refine wb_cons ?_
  refine ws_set 3 c.nd rfl (by walk_at "zloc") ?_
  refine we_lstX ?_
  refine wa_nil ?_
  refine ⟨by simp, fun q1 nq1 => ?_⟩
  have npf : q1 ≠ f := fun q => by rw [q, hm] at nq1; cases nq1
  have nfp := npf.symm
  generalize hp : q1 = p at *
  refine wb_cons ?_
  refine ws_for (vs := [4]) c.pass c.calm ?_
  refine wi_rng1 rfl T.b_range ?_
  refine wa_cons ?_
  refine v 2 ?_
  refine wa_nil ?_
  refine ⟨_, rfl, by omega, by omega, ?_⟩
  refine ⟨fun i n' m' => ∃ (c : Int × Int) (ds : List PyData) (w4 w5 w6 w7 : Option Ent), FOk c ∧ n' = [some (.x f), some (.d (.int (k : Int))), some (.d (.int (n : Int))), some (.x p), w4, w5, w6, w7] ∧ m' p = some (.lst (List.map .d ds)) ∧ m' f = some (fdO c) ∧ ds.length = i ∧ (∀ d ∈ ds, Stv k d) ∧ Kp (but2 p f) m m', ?_, ?_, ?_⟩
  · exact ⟨c0, [], _, _, _, _, hc0, rfl, Mem.put_same, by rw [Mem.put_ne nfp]; exact hm, rfl, fun _ h => by simp at h, Kp.put Kp.refl fun h => absurd rfl h.1⟩
  · intro i2 d2 n2 m2 hd2 hi2
    obtain ⟨cc2, ds2, w4, w5, w6, w7, hcc2, rfl, hmp, hmf, hl2, hs2, hkp⟩ := hi2
    obtain ⟨hlt2, rfl⟩ := intsD_get hd2
    have hl9 : ds2.length < 16777216 := by omega
    refine wg_name 4 c.nd rfl (by walk_at "zloc") ?_
    refine wb_cons ?_
    refine ws_set 5 c.nd rfl (by walk_at "zloc") ?_
    refine we_call c (av_l_stretch T) (by decide) rfl ?_
    refine wa_cons ?_
    refine v 0 ?_
    refine wa_cons ?_
    refine v 1 ?_
    refine wa_nil ?_
    refine use_l_stretchM (by walk_at "zmem") (by assumption) (by omega) (by omega) fun sa sb c3 hc3 slt sle => ?_
    refine wb_cons ?_
    refine ws_if ?_
    refine wt_ww ?_
    refine ww_and ?_
    refine wt_cmp (op_neD c.room.units) (nomark _) ?_
    refine v 3 ?_
    refine we_lst ?_
    refine wa_nil ?_
    refine ⟨[], rfl, by simp, ?_⟩
    refine ne_D (by walk_at "zdat") .d (stv_shaped hs2).1 rfl (stv_shaped hs2).2 rfl ?_
    rw [nil_ne]
    refine ⟨_, rfl, ?_⟩
    refine ⟨fun hc4 => ?_, fun hc4 => ?_⟩
    · have hne : ds2 ≠ [] := by simpa using hc4
      have hlen := List.length_pos_iff.mpr hne
      refine ww_and1 ?_
      refine wt_cmp (op_eqD c.room.units) (nomark _) ?_
      refine we_call c (av_l_take T) (by decide) rfl ?_
      refine wa_cons ?_
      refine v 0 ?_
      refine wa_cons ?_
      refine we_int ?_
      refine wa_nil ?_
      refine use_l_takeM (by walk_at "zmem") (by assumption) (by omega) (by omega) fun t5 c5 hc5 lo5 hi5 => ?_
      refine we_int ?_
      refine eq_I ?_
      refine ⟨_, rfl, ?_⟩
      refine ⟨fun hc6 => ?_, fun hc6 => ?_⟩
      · skip
        refine wb_cons ?_
        refine ws_set 6 c.nd rfl (by walk_at "zloc") ?_
        refine we_call c (av_l_pick T) (by decide) rfl ?_
        refine wa_cons ?_
        refine v 0 ?_
        refine wa_cons ?_
        refine v 3 ?_
        refine wa_nil ?_
        refine use_l_pickM (by walk_at "zmem") (by assumption) (by walk_at "zdat") (fun e => npf (by injection e)) (by omega) (by omega) fun d7 c7 hc7 mem7 => ?_
        obtain ⟨oa, ob, olt, ole, rfl⟩ := hs2 _ mem7
        refine wb_cons ?_
        refine ws_set 7 c.nd rfl (by walk_at "zloc") ?_
        refine we_lstX ?_
        refine wa_cons ?_
        refine v 6 ?_
        refine wa_cons ?_
        refine v 5 ?_
        refine wa_cons ?_
        refine we_tup ?_
        refine wa_cons ?_
        refine we_ix ix_seq ?_
        refine v 6 ?_
        refine we_int ?_
        walk_at "z[]"
        refine wa_cons ?_
        refine we_callB (c_max2 c.calm) rfl T.b_max (by decide +kernel) ?_
        refine wa_cons ?_
        refine we_op op_addZ ?_
        refine we_ix ix_seq ?_
        refine v 6 ?_
        refine we_int ?_
        walk_at "z[]"
        refine we_int ?_
        walk_at "z+"
        refine wa_cons ?_
        refine we_ix ix_seq ?_
        refine v 5 ?_
        refine we_int ?_
        walk_at "z[]"
        refine wa_nil ?_
        refine max_II ?_
        refine wa_nil ?_
        refine ⟨[_, _], rfl, by simp, ?_⟩
        refine wa_nil ?_
        refine ⟨by simp, fun q8 nq8 => ?_⟩
        have nqf : q8 ≠ f := fun q => by rw [q] at nq8; simp [Mem.put] at nq8
        have nfq := nqf.symm
        have nq : m2 q8 = none := by have h := nq8; simp only [Mem.put, if_neg nqf] at h; exact h
        have fq : but2 p f q8 → m q8 = none := Kp.free hkp nq
        have nqp : q8 ≠ p := fun q => by rw [q, hmp] at nq; cases nq
        have npq := nqp.symm
        refine wb_cons ?_
        refine ws_expr ?_
        refine we_append ?_
        refine v 7 ?_
        refine ⟨by walk_at "zty", ?_⟩
        refine wa_cons ?_
        refine we_tup ?_
        refine wa_cons ?_
        refine we_callB (c_min2 c.calm) rfl T.b_min (by decide +kernel) ?_
        refine wa_cons ?_
        refine we_op op_sub ?_
        refine we_ix ix_seq ?_
        refine v 6 ?_
        refine we_int ?_
        walk_at "z[]"
        refine we_int ?_
        refine r2_I0 ?_
        refine wa_cons ?_
        refine we_ix ix_seq ?_
        refine v 5 ?_
        refine we_int ?_
        walk_at "z[]"
        refine wa_nil ?_
        refine min_II ?_
        refine wa_cons ?_
        refine we_ix ix_seq ?_
        refine v 6 ?_
        refine we_int ?_
        walk_at "z[]"
        refine wa_nil ?_
        refine ⟨[_, _], rfl, by simp, ?_⟩
        refine wa_nil ?_
        refine app_X (by walk_at "zmem") (by simp) ?_
        refine wb_cons ?_
        refine ws_if ?_
        refine wt_cmp op_lt (nomark _) ?_
        refine we_ix ix_seq ?_
        refine v 6 ?_
        refine we_int ?_
        walk_at "z[]"
        refine v 1 ?_
        refine r2_B0 ?_
        refine ⟨_, rfl, ?_⟩
        refine ⟨fun hc9 => ?_, fun hc9 => ?_⟩
        · have hlt3 := of_decide_eq_true hc9
          refine wb_cons ?_
          refine ws_expr ?_
          refine we_append ?_
          refine v 7 ?_
          refine ⟨by walk_at "zty", ?_⟩
          refine wa_cons ?_
          refine we_tup ?_
          refine wa_cons ?_
          refine we_ix ix_seq ?_
          refine v 6 ?_
          refine we_int ?_
          walk_at "z[]"
          refine wa_cons ?_
          refine we_op op_addZ ?_
          refine we_op op_addZ ?_
          refine we_ix ix_seq ?_
          refine v 6 ?_
          refine we_int ?_
          walk_at "z[]"
          refine we_int ?_
          walk_at "z+"
          refine we_call c (av_l_take T) (by decide) rfl ?_
          refine wa_cons ?_
          refine v 0 ?_
          refine wa_cons ?_
          refine we_op op_sub ?_
          refine v 1 ?_
          refine we_ix ix_seq ?_
          refine v 6 ?_
          refine we_int ?_
          walk_at "z[]"
          refine r2_I0 ?_
          refine wa_nil ?_
          refine use_l_takeM (by walk_at "zmem") (by assumption) (by omega) (by omega) fun t10 c10 hc10 lo10 hi10 => ?_
          walk_at "z+"
          refine wa_nil ?_
          refine ⟨[_, _], rfl, by simp, ?_⟩
          refine wa_nil ?_
          refine app_X (by walk_at "zmem") (by simp) ?_
          refine wb_nil ?_
          refine wb_cons ?_
          refine ws_set 5 c.nd rfl (by walk_at "zloc") ?_
          refine we_call c (av_l_pick T) (by decide) rfl ?_
          refine wa_cons ?_
          refine v 0 ?_
          refine wa_cons ?_
          refine v 7 ?_
          refine wa_nil ?_
          first
            | refine use_l_pickM (by walk_at "zmem") (by assumption) (Dat.exs (ds := [_, _, _, _]) (by walk_at "zmem") rfl) (fun e => nqf (by injection e)) (by simp) (by simp) fun d11 c11 hc11 mem11 => ?_
            | refine use_l_pickM (by walk_at "zmem") (by assumption) (Dat.exs (ds := [_, _, _, _, _]) (by walk_at "zmem") rfl) (fun e => nqf (by injection e)) (by simp) (by simp) fun d11 c11 hc11 mem11 => ?_
          have hst11 : Stv k d11 := by
            simp only [List.mem_append, List.mem_cons, List.mem_nil_iff, or_false] at mem11
            rcases mem11 with _ | _ | _ | _ | _ <;> (subst_vars; first | exact ⟨_, _, olt, ole, rfl⟩ | exact ⟨_, _, slt, sle, rfl⟩ | exact Stv.mk (by omega) (by omega) (by omega))
          refine wb_nil ?_
          refine wb_cons ?_
          refine ws_expr ?_
          refine we_append ?_
          refine v 3 ?_
          refine ⟨by walk_at "zty", ?_⟩
          refine wa_cons ?_
          refine v 5 ?_
          refine wa_nil ?_
          refine app_X (by walk_at "zmem") (by simp; omega) ?_
          refine wb_nil ?_
          refine ⟨_, ds2 ++ [_], _, _, _, _, by assumption, rfl, by first | (rw [Mem.put_same, List.map_append]; rfl) | skip, by walk_at "zmem", by simp [hl2], ?_, by walk_at "zkp"⟩
          intro d hd
          rcases List.mem_append.mp hd with h | h
          · exact hs2 d h
          · rw [List.mem_singleton.mp h]
            first | assumption | exact ⟨_, _, slt, sle, rfl⟩
        · refine wb_nil ?_
          refine wb_cons ?_
          refine ws_set 5 c.nd rfl (by walk_at "zloc") ?_
          refine we_call c (av_l_pick T) (by decide) rfl ?_
          refine wa_cons ?_
          refine v 0 ?_
          refine wa_cons ?_
          refine v 7 ?_
          refine wa_nil ?_
          first
            | refine use_l_pickM (by walk_at "zmem") (by assumption) (Dat.exs (ds := [_, _, _, _]) (by walk_at "zmem") rfl) (fun e => nqf (by injection e)) (by simp) (by simp) fun d12 c12 hc12 mem12 => ?_
            | refine use_l_pickM (by walk_at "zmem") (by assumption) (Dat.exs (ds := [_, _, _, _, _]) (by walk_at "zmem") rfl) (fun e => nqf (by injection e)) (by simp) (by simp) fun d12 c12 hc12 mem12 => ?_
          have hst12 : Stv k d12 := by
            simp only [List.mem_append, List.mem_cons, List.mem_nil_iff, or_false] at mem12
            rcases mem12 with _ | _ | _ | _ | _ <;> (subst_vars; first | exact ⟨_, _, olt, ole, rfl⟩ | exact ⟨_, _, slt, sle, rfl⟩ | exact Stv.mk (by omega) (by omega) (by omega))
          refine wb_nil ?_
          refine wb_cons ?_
          refine ws_expr ?_
          refine we_append ?_
          refine v 3 ?_
          refine ⟨by walk_at "zty", ?_⟩
          refine wa_cons ?_
          refine v 5 ?_
          refine wa_nil ?_
          refine app_X (by walk_at "zmem") (by simp; omega) ?_
          refine wb_nil ?_
          refine ⟨_, ds2 ++ [_], _, _, _, _, by assumption, rfl, by first | (rw [Mem.put_same, List.map_append]; rfl) | skip, by walk_at "zmem", by simp [hl2], ?_, by walk_at "zkp"⟩
          intro d hd
          rcases List.mem_append.mp hd with h | h
          · exact hs2 d h
          · rw [List.mem_singleton.mp h]
            first | assumption | exact ⟨_, _, slt, sle, rfl⟩
      · refine wb_nil ?_
        refine wb_cons ?_
        refine ws_expr ?_
        refine we_append ?_
        refine v 3 ?_
        refine ⟨by walk_at "zty", ?_⟩
        refine wa_cons ?_
        refine v 5 ?_
        refine wa_nil ?_
        refine app_X (by walk_at "zmem") (by simp; omega) ?_
        refine wb_nil ?_
        refine ⟨_, ds2 ++ [_], _, _, _, _, by assumption, rfl, by first | (rw [Mem.put_same, List.map_append]; rfl) | skip, by walk_at "zmem", by simp [hl2], ?_, by walk_at "zkp"⟩
        intro d hd
        rcases List.mem_append.mp hd with h | h
        · exact hs2 d h
        · rw [List.mem_singleton.mp h]
          first | assumption | exact ⟨_, _, slt, sle, rfl⟩
    · refine ⟨fun hc13 => ?_, fun hc13 => ?_⟩
      · exact Bool.noConfusion hc13
      · refine wb_nil ?_
        refine wb_cons ?_
        refine ws_expr ?_
        refine we_append ?_
        refine v 3 ?_
        refine ⟨by walk_at "zty", ?_⟩
        refine wa_cons ?_
        refine v 5 ?_
        refine wa_nil ?_
        refine app_X (by walk_at "zmem") (by simp; omega) ?_
        refine wb_nil ?_
        refine ⟨_, ds2 ++ [_], _, _, _, _, by assumption, rfl, by first | (rw [Mem.put_same, List.map_append]; rfl) | skip, by walk_at "zmem", by simp [hl2], ?_, by walk_at "zkp"⟩
        intro d hd
        rcases List.mem_append.mp hd with h | h
        · exact hs2 d h
        · rw [List.mem_singleton.mp h]
          first | assumption | exact ⟨_, _, slt, sle, rfl⟩
  · intro n2 m2 hi2
    obtain ⟨cc2, ds2, w4, w5, w6, w7, hcc2, rfl, hmp, hmf, hl2, hs2, hkp⟩ := hi2
    rw [intsD_length] at hl2
    have hl2 : ds2.length = n := by simpa using hl2
    refine wb_cons ?_
    refine ws_ret ?_
    refine v 3 ?_
    refine ⟨(m.put f (fdO cc2)).put p (.lst (List.map .d ds2)), sub_of2 hmf hmp hkp, p, ds2, cc2, nq1, hcc2, hl2, hs2, rfl, rfl⟩
theorem av_l_history (T : Txt K mg C_Vault) : Av P w K mg base 3 "_law_history" p_l_history S_history := by
  obtain ⟨f, fd, Fn, hmg⟩ := T.f_l_history
  refine ⟨f, fd, fn_G Fn sc_l_history (fun _ => rfl) ?_, hmg, Fn.kp, Fn.binds fun _ _ _ _ _ _ us hl => match us, hl with | [_, _, _], _ => rfl⟩
  intro cdv A outer s H E c
  rintro ⟨f, c0, kind, k⟩ m ⟨hm, hc0, h0⟩
  simp only at hm hc0 h0
  change WB _ _ [some (.x f), some (.d (.str kind)), some (.d (.int (k : Int))), none, none] m _
  rw [fd_of hm]
  refine wb_cons ?_
  refine ws_if ?_
  refine wt_cmp op_eq (nomark _) ?_
  refine v 1 ?_
  refine we_str ?_
  refine eq_S ?_
  refine ⟨_, rfl, ?_⟩
  refine ⟨fun hc1 => ?_, fun hc1 => ?_⟩
  · skip
    refine wb_cons ?_
    refine ws_ret ?_
    refine we_callTy c_tuple rfl T.b_tuple (by decide +kernel) ?_
    refine wa_cons ?_
    refine we_lcD [("_law_hour", 4)] c.calm c.nd (blkOk_by (N := n_l_history) (sc := defScope s_l_history) (by decide +kernel)) ?_
    refine wi_rng1 rfl T.b_range ?_
    refine wa_cons ?_
    refine v 2 ?_
    refine wa_nil ?_
    refine ⟨_, rfl, by omega, by omega, ?_⟩
    refine ⟨fun i acc m' => ∃ (c : Int × Int) (ss : List Str), FOk c ∧ acc = (ss.map PyData.str).map .d ∧ m' = m.put f (fdO c) ∧ ss.length = i ∧ ∀ x ∈ ss, x.length ≤ 3 ∧ okS x, ?_, ?_, ?_⟩
    · exact ⟨c0, [], hc0, rfl, rfl, rfl, fun _ h => by simp at h⟩
    · intro i2 d2 acc2 m2 hd2 hi2
      obtain ⟨cc2, ss2, hcc2, rfl, rfl, hl2, hs2⟩ := hi2
      obtain ⟨hlt2, rfl⟩ := intsD_get hd2
      refine ⟨by rw [List.length_map, List.length_map, hl2]; omega, fun s0 H0 C cl fp => ?_⟩
      refine wg_name 4 c.nd rfl (by walk_at "zloc") ?_
      intro s0 H0 C cl fp
      refine ⟨fun _ s0 H0 C cl fp => ?_, fun hb => Bool.noConfusion hb⟩
      refine we_call c.blk (av_l_pick T) (by decide) rfl ?_
      refine wa_cons ?_
      refine v 0 ?_
      refine wa_cons ?_
      refine we_lst ?_
      refine wa_cons ?_
      refine we_str ?_
      refine wa_cons ?_
      refine we_str ?_
      refine wa_cons ?_
      refine we_str ?_
      refine wa_cons ?_
      refine we_str ?_
      refine wa_cons ?_
      refine we_str ?_
      refine wa_cons ?_
      refine we_str ?_
      refine wa_cons ?_
      refine we_str ?_
      refine wa_nil ?_
      refine ⟨[_, _, _, _, _, _, _], rfl, by simp, ?_⟩
      refine wa_nil ?_
      refine use_l_pickD (by assumption) (by walk_at "zln") (by walk_at "zln") fun d3 c3 hc3 mem3 => ?_
      obtain ⟨x, rfl, hx⟩ := pick_txt (by assumption)
      exact ⟨_, ss2 ++ [x], by assumption, by simp, rfl, by simp [hl2], fun y hy => by
        rcases List.mem_append.mp hy with h | h
        · exact hs2 y h
        · rw [List.mem_singleton.mp h]; exact hx⟩
    · intro acc2 m2 ⟨cc2, ss2, hcc2, e12, e22, hl2, hs2⟩
      subst e12 e22
      refine ⟨ss2.map PyData.str, rfl, ?_⟩
      rw [intsD_length] at hl2
      refine wa_nil ?_
      walk_at "ztuple"
      exact ⟨_, Sub.refl, .S ss2, _, by assumption, (by show ss2.length = k; omega), ⟨of_decide_eq_true hc1, hs2⟩, rfl, Mem.put_put.symm⟩
  · refine wb_nil ?_
    refine wb_cons ?_
    refine ws_set 3 c.nd rfl (by walk_at "zloc") ?_
    refine we_call c (av_l_pick T) (by decide) rfl ?_
    refine wa_cons ?_
    refine v 0 ?_
    refine wa_cons ?_
    refine we_lst ?_
    refine wa_cons ?_
    refine we_op op_pow ?_
    refine we_int ?_
    refine we_int ?_
    refine r2_I (by walk_at "zsm") ?_
    refine wa_cons ?_
    refine we_int ?_
    refine wa_cons ?_
    refine we_int ?_
    refine wa_nil ?_
    refine ⟨[_, _, _], rfl, by simp, ?_⟩
    refine wa_nil ?_
    refine use_l_pickD (by assumption) (by walk_at "zln") (by walk_at "zln") fun d4 c4 hc4 mem4 => ?_
    obtain ⟨far, rfl, hfar⟩ := far_int (by assumption)
    refine wb_cons ?_
    refine ws_ret ?_
    refine we_callTy c_tuple rfl T.b_tuple (by decide +kernel) ?_
    refine wa_cons ?_
    refine we_lcD [("_law_hour", 4)] c.calm c.nd (blkOk_by (N := n_l_history) (sc := defScope s_l_history) (by decide +kernel)) ?_
    refine wi_rng1 rfl T.b_range ?_
    refine wa_cons ?_
    refine v 2 ?_
    refine wa_nil ?_
    refine ⟨_, rfl, by omega, by omega, ?_⟩
    refine ⟨fun i acc m' => ∃ (c : Int × Int) (ss : List Int), FOk c ∧ acc = (ss.map PyData.int).map .d ∧ m' = m.put f (fdO c) ∧ ss.length = i ∧ ∀ x ∈ ss, x.natAbs ≤ 10 ^ 20, ?_, ?_, ?_⟩
    · exact ⟨_, [], (by assumption), rfl, rfl, rfl, fun _ h => by simp at h⟩
    · intro i5 d5 acc5 m5 hd5 hi5
      obtain ⟨cc5, ss5, hcc5, rfl, rfl, hl5, hs5⟩ := hi5
      obtain ⟨hlt5, rfl⟩ := intsD_get hd5
      refine ⟨by rw [List.length_map, List.length_map, hl5]; omega, fun s0 H0 C cl fp => ?_⟩
      refine wg_name 4 c.nd rfl (by walk_at "zloc") ?_
      intro s0 H0 C cl fp
      refine ⟨fun _ s0 H0 C cl fp => ?_, fun hb => Bool.noConfusion hb⟩
      refine we_call c.blk (av_l_pick T) (by decide) rfl ?_
      refine wa_cons ?_
      refine v 0 ?_
      refine wa_cons ?_
      refine we_lst ?_
      refine wa_cons ?_
      refine we_int ?_
      refine wa_cons ?_
      refine we_int ?_
      refine wa_cons ?_
      refine we_neg (i0 := ()) ?_
      refine we_int ?_
      refine ⟨_, rfl, ?_⟩
      refine wa_cons ?_
      refine we_int ?_
      refine wa_cons ?_
      refine we_neg (i0 := ()) ?_
      refine we_int ?_
      refine ⟨_, rfl, ?_⟩
      refine wa_cons ?_
      refine v 3 ?_
      refine wa_cons ?_
      refine we_op op_sub ?_
      refine we_int ?_
      refine v 3 ?_
      refine r2_I0 ?_
      refine wa_cons ?_
      refine we_int ?_
      refine wa_nil ?_
      refine ⟨[_, _, _, _, _, _, _, _], rfl, by simp, ?_⟩
      refine wa_nil ?_
      refine use_l_pickD (by assumption) (by walk_at "zln") (by walk_at "zln") fun d6 c6 hc6 mem6 => ?_
      obtain ⟨x, rfl, hx⟩ := pick_int hfar (by assumption)
      exact ⟨_, ss5 ++ [x], by assumption, by simp, rfl, by simp [hl5], fun y hy => by
        rcases List.mem_append.mp hy with h | h
        · exact hs5 y h
        · rw [List.mem_singleton.mp h]; exact hx⟩
    · intro acc5 m5 ⟨cc5, ss5, hcc5, e15, e25, hl5, hs5⟩
      subst e15 e25
      refine ⟨ss5.map PyData.int, rfl, ?_⟩
      rw [intsD_length] at hl5
      refine wa_nil ?_
      walk_at "ztuple"
      exact ⟨_, Sub.refl, .I ss5, _, by assumption, (by show ss5.length = k; omega), ⟨of_decide_eq_false hc1, hs5⟩, rfl, Mem.put_put.symm⟩
theorem av_summary (T : Txt K mg C_Vault) : Av P w K mg base 1 "summary" p_summary S_summary := by
  obtain ⟨f, fd, Fn, hmg⟩ := T.f_summary
  refine ⟨f, fd, fn_G Fn sc_summary (fun _ => rfl) ?_, hmg, Fn.kp, Fn.binds fun _ _ _ _ _ _ us hl => match us, hl with | [_, _, _], _ => rfl⟩
  intro cdv A outer s H E c
  rintro ⟨kind, hv, a, b⟩ m ⟨hok, hab, hb, hlen⟩
  simp only at hok hab hb hlen
  change WB _ _ [some (.d (.str kind)), some (.d (.tuple hv.ds)), some (.d (.tuple [.int (a : Int), .int (b : Int)])), none] m _
  refine wb_cons ?_
  refine ws_set 3 c.nd rfl (by walk_at "zloc") ?_
  refine we_slice sl_Z ?_
  refine v 1 ?_
  refine wo_some ?_
  refine we_ix ix_seq ?_
  refine v 2 ?_
  refine we_int ?_
  walk_at "z[]"
  refine ⟨_, rfl, ?_⟩
  refine wo_some ?_
  refine we_ix ix_seq ?_
  refine v 2 ?_
  refine we_int ?_
  walk_at "z[]"
  refine ⟨_, rfl, ?_⟩
  walk_at "z:"
  rw [HV.cut_ds (by omega) hb]
  have hok' := HV.cut_ok (a := a) (b := b) hok
  have hlen' := HV.cut_len (a := a) hb
  generalize hu : hv.cut a b = u at *
  refine wb_cons ?_
  refine ws_if ?_
  refine wt_cmp op_eq (nomark _) ?_
  refine v 0 ?_
  refine we_str ?_
  refine eq_S ?_
  refine ⟨_, rfl, ?_⟩
  refine ⟨fun hc1 => ?_, fun hc1 => ?_⟩
  · have hk := of_decide_eq_true hc1
    obtain ⟨i, t, rfl⟩ := HV.int_of hok' (by rw [hk]; decide +kernel) (by omega)
    refine wb_cons ?_
    refine ws_ret ?_
    refine we_callB (c_sumZ c.calm) rfl T.b_sum (by decide +kernel) ?_
    refine wa_cons ?_
    refine v 3 ?_
    refine wa_nil ?_
    refine sum_Z (ns := i :: t) (.inr rfl) ?_
    exact ⟨_, Sub.refl, by show _ = Ent.d ((hv.cut a b).sm kind); rw [hu]; simp [HV.sm, smI, hk], rfl⟩
  · refine wb_nil ?_
    refine wb_cons ?_
    refine ws_if ?_
    refine wt_cmp op_eq (nomark _) ?_
    refine v 0 ?_
    refine we_str ?_
    refine eq_S ?_
    refine ⟨_, rfl, ?_⟩
    refine ⟨fun hc2 => ?_, fun hc2 => ?_⟩
    · have hk := of_decide_eq_true hc2
      obtain ⟨xs, rfl, hx⟩ := HV.str_of hok' hk
      refine wb_cons ?_
      refine ws_ret ?_
      refine we_join ?_
      refine we_str ?_
      refine ⟨by walk_at "zty", ?_⟩
      refine wa_cons ?_
      refine v 3 ?_
      refine wa_nil ?_
      refine join_T (ys := xs) (by have := sum_len hx; have e : (HV.S xs).len = xs.length := rfl; exact join_len (by omega)) ?_
      exact ⟨_, Sub.refl, by show _ = Ent.d ((hv.cut a b).sm kind); rw [hu]; rfl, rfl⟩
    · have hk := of_decide_eq_false hc2
      obtain ⟨i, t, rfl⟩ := HV.int_of hok' hk (by omega)
      refine wb_nil ?_
      refine wb_cons ?_
      refine ws_if ?_
      refine wt_cmp op_in_seq rfl ?_
      refine v 0 ?_
      refine we_tup ?_
      refine wa_cons ?_
      refine we_str ?_
      refine wa_cons ?_
      refine we_str ?_
      refine wa_nil ?_
      refine ⟨[_, _], rfl, by simp, ?_⟩
      walk_at "zin"
      refine ⟨_, rfl, ?_⟩
      refine ⟨fun hc3 => ?_, fun hc3 => ?_⟩
      · have hin := is_in2 hc3
        refine wb_cons ?_
        refine ws_ret ?_
        refine we_if ?_
        refine wt_cmp op_eq (nomark _) ?_
        refine v 0 ?_
        refine we_str ?_
        refine eq_S ?_
        refine ⟨_, rfl, ?_⟩
        refine ⟨fun hc4 => ?_, fun hc4 => ?_⟩
        · have hg := of_decide_eq_true hc4
          refine we_callB (c_maxZ c) rfl T.b_max (by decide +kernel) ?_
          refine wa_cons ?_
          refine v 3 ?_
          refine wa_nil ?_
          refine max_Z (i := i) (ns := t) (.inr rfl) ?_
          refine ⟨_, Sub.refl, ?_, rfl⟩
          show _ = Ent.d ((hv.cut a b).sm kind)
          rw [hu, hg]
          first | rw [sm_greatest] | rw [sm_least]
        · have hg := (is_in2 hc3).resolve_left (of_decide_eq_false hc4)
          refine we_callB (c_minZ c) rfl T.b_min (by decide +kernel) ?_
          refine wa_cons ?_
          refine v 3 ?_
          refine wa_nil ?_
          refine min_Z (i := i) (ns := t) (.inr rfl) ?_
          refine ⟨_, Sub.refl, ?_, rfl⟩
          show _ = Ent.d ((hv.cut a b).sm kind)
          rw [hu, hg]
          first | rw [sm_greatest] | rw [sm_least]
      · have hnin := not_in2 hc3
        refine wb_nil ?_
        refine wb_cons ?_
        refine ws_ret ?_
        refine we_if ?_
        refine wt_cmp op_eq (nomark _) ?_
        refine v 0 ?_
        refine we_str ?_
        refine eq_S ?_
        refine ⟨_, rfl, ?_⟩
        refine ⟨fun hc5 => ?_, fun hc5 => ?_⟩
        · have hg := of_decide_eq_true hc5
          refine we_ix ix_seq ?_
          refine v 3 ?_
          refine we_int ?_
          refine ix_T (d := .int i) (atI_nat (j := 0) rfl) ?_
          refine ⟨_, Sub.refl, ?_, rfl⟩
          show _ = Ent.d ((hv.cut a b).sm kind)
          rw [hu]
          first | rw [hg, sm_first] | rw [sm_last (of_decide_eq_false hc1) hnin.1 hnin.2 hg]
        · have hg := of_decide_eq_false hc5
          refine we_ix ix_seq ?_
          refine v 3 ?_
          refine we_neg (i0 := ()) ?_
          refine we_int ?_
          refine ⟨_, rfl, ?_⟩
          refine ix_T (last_get i t) ?_
          refine ⟨_, Sub.refl, ?_, rfl⟩
          show _ = Ent.d ((hv.cut a b).sm kind)
          rw [hu]
          first | rw [hg, sm_first] | rw [sm_last (of_decide_eq_false hc1) hnin.1 hnin.2 hg]
theorem av_l_summary (T : Txt K mg C_Vault) : Av P w K mg base 1 "_law_summary" p_l_summary S_lsummary := by
  obtain ⟨f, fd, Fn, hmg⟩ := T.f_l_summary
  refine ⟨f, fd, fn_G Fn sc_l_summary (fun _ => rfl) ?_, hmg, Fn.kp, Fn.binds fun _ _ _ _ _ _ us hl => match us, hl with | [_, _, _], _ => rfl⟩
  intro cdv A outer s H E c
  rintro ⟨kind, hv, a, b⟩ m ⟨hok, hab, hb, hlen, h6⟩
  simp only at hok hab hb hlen h6
  change WB _ _ [some (.d (.str kind)), some (.d (.tuple hv.ds)), some (.d (.tuple [.int (a : Int), .int (b : Int)])), none, none, none] m _
  refine wb_cons ?_
  refine ws_set 3 c.nd rfl (by walk_at "zloc") ?_
  refine we_ix ix_seq ?_
  refine v 1 ?_
  refine we_ix ix_seq ?_
  refine v 2 ?_
  refine we_int ?_
  walk_at "z[]"
  refine ix_T (d := (hv.cut a (a + 1)).sm kind) (HV.sm_one (by omega)) ?_
  refine wb_cons ?_
  refine ws_for (vs := [4]) c.pass c.calm ?_
  refine wi_rng2 rfl T.b_range ?_
  refine wa_cons ?_
  refine we_op op_addZ ?_
  refine we_ix ix_seq ?_
  refine v 2 ?_
  refine we_int ?_
  walk_at "z[]"
  refine we_int ?_
  walk_at "z+"
  refine wa_cons ?_
  refine we_ix ix_seq ?_
  refine v 2 ?_
  refine we_int ?_
  walk_at "z[]"
  refine wa_nil ?_
  refine ⟨_, _, rfl, by omega, ?_⟩
  refine ⟨fun i n' m' => ∃ (w4 w5 : Option Ent), n' = [some (.d (.str kind)), some (.d (.tuple hv.ds)), some (.d (.tuple [.int (a : Int), .int (b : Int)])), some (.d ((hv.cut a (a + 1 + i)).sm kind)), w4, w5] ∧ m' = m, ?_, ?_, ?_⟩
  · exact ⟨_, _, rfl, rfl⟩
  · intro i1 d1 n1 m1 hd1 hi1
    obtain ⟨w4, w5, rfl, rfl⟩ := hi1
    obtain ⟨hlt1, rfl⟩ := intsD_get hd1
    have hlt : a + 1 + i1 < b := by omega
    have vx : V1 kind ((hv.cut a (a + 1 + i1)).sm kind) := HV.sm_V1 (HV.cut_ok hok) (by rw [HV.cut_len (by omega)]; omega)
    have vy : V1 kind ((hv.cut (a + 1 + i1) (a + 1 + i1 + 1)).sm kind) := HV.sm_V1 (HV.cut_ok hok) (by rw [HV.cut_len (by omega)]; omega)
    have hst := HV.sm_join (k := kind) (u := hv) (a := a) (m := a + 1 + i1) (b := a + 1 + i1 + 1) (by omega) (by omega) (by omega)
    have hat := HV.sm_one (k := kind) (u := hv) (a := a + 1 + i1) (by omega)
    generalize (hv.cut a (a + 1 + i1)).sm kind = x at *
    generalize (hv.cut (a + 1 + i1) (a + 1 + i1 + 1)).sm kind = y at *
    refine wg_name 4 c.nd rfl (by walk_at "zloc") ?_
    refine wb_cons ?_
    refine ws_set 5 c.nd rfl (by walk_at "zloc") ?_
    refine we_ix ix_seq ?_
    refine v 1 ?_
    refine v 4 ?_
    refine ix_T (d := y) (by rw [show (a : Int) + 1 + (i1 : Int) = ((a + 1 + i1 : Nat) : Int) from by omega]; exact hat) ?_
    refine wb_cons ?_
    refine WS.cut (fun o => o = .nx [some (.d (.str kind)), some (.d (.tuple hv.ds)), some (.d (.tuple [.int (a : Int), .int (b : Int)])), some (.d (st1 kind x y)), some (.d (.int ((a : Int) + 1 + (i1 : Int)))), some (.d y)] m1) ?_ ?_
    · refine ws_if ?_
      refine wt_ww ?_
      refine ww_or ?_
      refine wt_cmp op_eq (nomark _) ?_
      refine v 0 ?_
      refine we_str ?_
      refine eq_S ?_
      refine ⟨_, rfl, ?_⟩
      refine ⟨fun hc2 => ?_, fun hc2 => ?_⟩
      · have hk1 := of_decide_eq_false hc2
        refine ww_or1 ?_
        refine wt_cmp op_eq (nomark _) ?_
        refine v 0 ?_
        refine we_str ?_
        refine eq_S ?_
        refine ⟨_, rfl, ?_⟩
        refine ⟨fun hc3 => ?_, fun hc3 => ?_⟩
        · skip
          refine wb_cons ?_
          refine ws_set 3 c.nd rfl (by walk_at "zloc") ?_
          refine we_op op_addZ ?_
          refine v 3 ?_
          refine v 5 ?_
          first
            | refine add_jn vx vy (.inl hk) ?_
            | refine add_jn vx vy (.inr (of_decide_eq_true (by assumption))) ?_
          refine wb_nil ?_
          first
            | (show Out.nx _ _ = _; rw [st1, if_pos (by first | exact .inl hk | exact .inr (of_decide_eq_true (by assumption)))] <;> rfl)
            | (show Out.nx _ _ = _; rw [st1, if_neg (by rintro (q | q) <;> contradiction)] <;> rfl)
        · have hk2 := of_decide_eq_false hc3
          refine wb_nil ?_
          first
            | (show Out.nx _ _ = _; rw [st1, if_pos (by first | exact .inl hk | exact .inr (of_decide_eq_true (by assumption)))] <;> rfl)
            | (show Out.nx _ _ = _; rw [st1, if_neg (by rintro (q | q) <;> contradiction)] <;> rfl)
      · have hk := of_decide_eq_true hc2
        refine ⟨fun hc4 => ?_, fun hc4 => ?_⟩
        · skip
          refine wb_cons ?_
          refine ws_set 3 c.nd rfl (by walk_at "zloc") ?_
          refine we_op op_addZ ?_
          refine v 3 ?_
          refine v 5 ?_
          first
            | refine add_jn vx vy (.inl hk) ?_
            | refine add_jn vx vy (.inr (of_decide_eq_true (by assumption))) ?_
          refine wb_nil ?_
          first
            | (show Out.nx _ _ = _; rw [st1, if_pos (by first | exact .inl hk | exact .inr (of_decide_eq_true (by assumption)))] <;> rfl)
            | (show Out.nx _ _ = _; rw [st1, if_neg (by rintro (q | q) <;> contradiction)] <;> rfl)
        · exact Bool.noConfusion hc4
    · rintro o rfl
      refine wb_cons ?_
      refine WS.cut (fun o => o = .nx [some (.d (.str kind)), some (.d (.tuple hv.ds)), some (.d (.tuple [.int (a : Int), .int (b : Int)])), some (.d (st2 kind x y)), some (.d (.int ((a : Int) + 1 + (i1 : Int)))), some (.d y)] m1) ?_ ?_
      · refine ws_if ?_
        refine wt_ww ?_
        refine ww_or ?_
        refine wt_ww ?_
        refine ww_and ?_
        refine wt_cmp op_eq (nomark _) ?_
        refine v 0 ?_
        refine we_str ?_
        refine eq_S ?_
        refine ⟨_, rfl, ?_⟩
        refine ⟨fun hc5 => ?_, fun hc5 => ?_⟩
        · have hg := of_decide_eq_true hc5
          rw [st1_no (.inl hg)]
          obtain ⟨xi, rfl⟩ := vx.int (by rw [hg]; decide +kernel)
          obtain ⟨yi, rfl⟩ := vy.int (by rw [hg]; decide +kernel)
          refine ww_and1 ?_
          refine wt_cmp op_gt (nomark _) ?_
          refine v 5 ?_
          refine v 3 ?_
          refine r2_B0 ?_
          refine ⟨_, rfl, ?_⟩
          refine ⟨fun hc6 => ?_, fun hc6 => ?_⟩
          · refine ww_or1 ?_
            refine wt_ww ?_
            refine ww_and ?_
            refine wt_cmp op_eq (nomark _) ?_
            refine v 0 ?_
            refine we_str ?_
            refine eq_S ?_
            refine ⟨_, rfl, ?_⟩
            refine ⟨fun hc7 => ?_, fun hc7 => ?_⟩
            · have hl := of_decide_eq_true hc7
              try rw [st1_no (.inr hl)]
              try obtain ⟨xi, rfl⟩ := vx.int (by rw [hl]; decide +kernel)
              try obtain ⟨yi, rfl⟩ := vy.int (by rw [hl]; decide +kernel)
              refine ww_and1 ?_
              refine wt_cmp op_lt (nomark _) ?_
              refine v 5 ?_
              refine v 3 ?_
              refine r2_B0 ?_
              refine ⟨_, rfl, ?_⟩
              refine ⟨fun hc8 => ?_, fun hc8 => ?_⟩
              · skip
                refine wb_cons ?_
                refine ws_set 3 c.nd rfl (by walk_at "zloc") ?_
                refine v 5 ?_
                refine wb_nil ?_
                first
                  | exact absurd (hg.symm.trans hl) (by decide +kernel)
                  | (rw [st2_gt hg (by assumption)] <;> rfl)
                  | (rw [st2_ge hg (by assumption)] <;> rfl)
                  | (rw [st2_lt hl (by assumption)] <;> rfl)
                  | (rw [st2_le hl (by assumption)] <;> rfl)
                  | (rw [st2_o hg hl] <;> rfl)
              · refine wb_nil ?_
                first
                  | exact absurd (hg.symm.trans hl) (by decide +kernel)
                  | (rw [st2_gt hg (by assumption)] <;> rfl)
                  | (rw [st2_ge hg (by assumption)] <;> rfl)
                  | (rw [st2_lt hl (by assumption)] <;> rfl)
                  | (rw [st2_le hl (by assumption)] <;> rfl)
                  | (rw [st2_o hg hl] <;> rfl)
            · have hl := of_decide_eq_false hc7
              refine ⟨fun hc9 => ?_, fun hc9 => ?_⟩
              · exact Bool.noConfusion hc9
              · refine wb_nil ?_
                first
                  | exact absurd (hg.symm.trans hl) (by decide +kernel)
                  | (rw [st2_gt hg (by assumption)] <;> rfl)
                  | (rw [st2_ge hg (by assumption)] <;> rfl)
                  | (rw [st2_lt hl (by assumption)] <;> rfl)
                  | (rw [st2_le hl (by assumption)] <;> rfl)
                  | (rw [st2_o hg hl] <;> rfl)
          · refine ⟨fun hc10 => ?_, fun hc10 => ?_⟩
            · skip
              refine wb_cons ?_
              refine ws_set 3 c.nd rfl (by walk_at "zloc") ?_
              refine v 5 ?_
              refine wb_nil ?_
              first
                | exact absurd (hg.symm.trans hl) (by decide +kernel)
                | (rw [st2_gt hg (by assumption)] <;> rfl)
                | (rw [st2_ge hg (by assumption)] <;> rfl)
                | (rw [st2_lt hl (by assumption)] <;> rfl)
                | (rw [st2_le hl (by assumption)] <;> rfl)
                | (rw [st2_o hg hl] <;> rfl)
            · exact Bool.noConfusion hc10
        · have hg := of_decide_eq_false hc5
          refine ⟨fun hc11 => ?_, fun hc11 => ?_⟩
          · refine ww_or1 ?_
            refine wt_ww ?_
            refine ww_and ?_
            refine wt_cmp op_eq (nomark _) ?_
            refine v 0 ?_
            refine we_str ?_
            refine eq_S ?_
            refine ⟨_, rfl, ?_⟩
            refine ⟨fun hc12 => ?_, fun hc12 => ?_⟩
            · have hl := of_decide_eq_true hc12
              try rw [st1_no (.inr hl)]
              try obtain ⟨xi, rfl⟩ := vx.int (by rw [hl]; decide +kernel)
              try obtain ⟨yi, rfl⟩ := vy.int (by rw [hl]; decide +kernel)
              refine ww_and1 ?_
              refine wt_cmp op_lt (nomark _) ?_
              refine v 5 ?_
              refine v 3 ?_
              refine r2_B0 ?_
              refine ⟨_, rfl, ?_⟩
              refine ⟨fun hc13 => ?_, fun hc13 => ?_⟩
              · skip
                refine wb_cons ?_
                refine ws_set 3 c.nd rfl (by walk_at "zloc") ?_
                refine v 5 ?_
                refine wb_nil ?_
                first
                  | exact absurd (hg.symm.trans hl) (by decide +kernel)
                  | (rw [st2_gt hg (by assumption)] <;> rfl)
                  | (rw [st2_ge hg (by assumption)] <;> rfl)
                  | (rw [st2_lt hl (by assumption)] <;> rfl)
                  | (rw [st2_le hl (by assumption)] <;> rfl)
                  | (rw [st2_o hg hl] <;> rfl)
              · refine wb_nil ?_
                first
                  | exact absurd (hg.symm.trans hl) (by decide +kernel)
                  | (rw [st2_gt hg (by assumption)] <;> rfl)
                  | (rw [st2_ge hg (by assumption)] <;> rfl)
                  | (rw [st2_lt hl (by assumption)] <;> rfl)
                  | (rw [st2_le hl (by assumption)] <;> rfl)
                  | (rw [st2_o hg hl] <;> rfl)
            · have hl := of_decide_eq_false hc12
              refine ⟨fun hc14 => ?_, fun hc14 => ?_⟩
              · exact Bool.noConfusion hc14
              · refine wb_nil ?_
                first
                  | exact absurd (hg.symm.trans hl) (by decide +kernel)
                  | (rw [st2_gt hg (by assumption)] <;> rfl)
                  | (rw [st2_ge hg (by assumption)] <;> rfl)
                  | (rw [st2_lt hl (by assumption)] <;> rfl)
                  | (rw [st2_le hl (by assumption)] <;> rfl)
                  | (rw [st2_o hg hl] <;> rfl)
          · exact Bool.noConfusion hc11
      · rintro o rfl
        refine wb_cons ?_
        refine ws_if ?_
        refine wt_cmp op_eq (nomark _) ?_
        refine v 0 ?_
        refine we_str ?_
        refine eq_S ?_
        refine ⟨_, rfl, ?_⟩
        refine ⟨fun hc15 => ?_, fun hc15 => ?_⟩
        · skip
          refine wb_cons ?_
          refine ws_set 3 c.nd rfl (by walk_at "zloc") ?_
          refine v 5 ?_
          refine wb_nil ?_
          refine wb_nil ?_
          refine ⟨some (.d (.int ((a : Int) + 1 + (i1 : Int)))), some (.d y), ?_, rfl⟩
          rw [show a + 1 + (i1 + 1) = a + 1 + i1 + 1 from rfl, ← hst]
          first
            | (rw [← st3_last vx vy (of_decide_eq_true (by assumption))] <;> rfl)
            | (rw [st3_no vx vy h6 (of_decide_eq_false (by assumption))] <;> rfl)
        · refine wb_nil ?_
          refine wb_nil ?_
          refine ⟨some (.d (.int ((a : Int) + 1 + (i1 : Int)))), some (.d y), ?_, rfl⟩
          rw [show a + 1 + (i1 + 1) = a + 1 + i1 + 1 from rfl, ← hst]
          first
            | (rw [← st3_last vx vy (of_decide_eq_true (by assumption))] <;> rfl)
            | (rw [st3_no vx vy h6 (of_decide_eq_false (by assumption))] <;> rfl)
  · intro n1 m1 hi1
    obtain ⟨w4, w5, rfl, rfl⟩ := hi1
    rw [intsD_length, show a + 1 + (((b : Int) - ((a : Int) + 1)).toNat) = b from by omega]
    refine wb_cons ?_
    refine ws_ret ?_
    refine v 3 ?_
    exact ⟨_, Sub.refl, rfl, rfl⟩
theorem g_Vault_init {f : Addr} {fd : FuncData} (Fn : FunD K "__init__" "Vault.__init__" (defArgs s_Vault_init) (defBody s_Vault_init) (defScope s_Vault_init) [] [("costs", .non)] f fd) (T : Txt K mg C_Vault) : FnG P w K mg base 1 f fd p_Vault_init (spW K (S_Vault_init C_Vault)) := by
  refine fn_G Fn.fun0 sc_Vault_init (fun _ => rfl) ?_
  intro cdv A outer s H E c
  rintro ⟨self, kind, x, bs⟩ m ⟨hm, hx, hl⟩
  simp only at hm hx hl
  change WB _ _ [some (.x self), some (.d (.str kind)), some x, some (.d .none)] m _
  refine wb_cons ?_
  refine ws_fld ?_
  refine v 1 ?_
  refine v 0 ?_
  refine ⟨_, _, _, rfl, by walk_at "zmem", by walk_at "zcl", by walk_at "zna", by simp, ?_⟩
  rw [putE_nil]
  refine wb_cons ?_
  refine ws_fld ?_
  refine we_callTy c_tuple rfl T.b_tuple (by decide +kernel) ?_
  refine wa_cons ?_
  refine v 2 ?_
  refine wa_nil ?_
  refine tuple_S (DatS.put hx (fun es e => by rw [hm] at e; cases e)) ?_
  refine v 0 ?_
  refine ⟨_, _, _, rfl, by walk_at "zmem", by walk_at "zcl", by walk_at "zna", by simp, ?_⟩
  rw [Mem.put_put, putE_miss (by decide +kernel), putE_nil]
  refine wb_cons ?_
  refine ws_fld ?_
  refine we_if ?_
  refine wt_cmp op_isN0 (nomark _) ?_
  refine v 3 ?_
  refine we_non ?_
  refine is_N ?_
  refine ⟨_, rfl, ?_⟩
  refine ⟨fun hc1 => ?_, fun hc1 => ?_⟩
  · refine we_op op_repZ ?_
    refine we_tup ?_
    refine wa_cons ?_
    refine we_int ?_
    refine wa_nil ?_
    refine ⟨[_], rfl, by simp, ?_⟩
    refine we_callB c_len rfl T.b_len (by decide +kernel) ?_
    refine wa_cons ?_
    refine we_fld ?_
    refine v 0 ?_
    refine ⟨_, _, _, _, rfl, by walk_at "zmem", by walk_at "zcl", by walk_at "zna", by walk_at "zlk", ?_⟩
    refine wa_nil ?_
    walk_at "zlen"
    rw [List.length_map]
    refine mul_T (by simp) hl (by simp) ?_
    rw [rep_one]
    refine v 0 ?_
    refine ⟨_, _, _, rfl, by walk_at "zmem", by walk_at "zcl", by walk_at "zna", by simp, ?_⟩
    rw [Mem.put_put, putE_miss (by decide +kernel), putE_miss (by decide +kernel), putE_nil]
    refine wb_nil ?_
    exact ⟨_, Sub.refl, rfl, rfl⟩
  · exact Bool.noConfusion hc1
theorem avc_Vault (T : Txt K mg C_Vault) : AvC P w K mg base 1 "Vault" C_Vault (S_Vault_init C_Vault) 2 [] fun rs _ => rs ++ [.d .none] := by
  obtain ⟨f, fd, M, F⟩ := T.i_Vault
  obtain ⟨ds, hd, hb⟩ := F.binds0 (ps := p_Vault_init) 3 (by simp) rfl (fun _ _ _ _ _ _ us ks hl hk => match us, ks, hl, hk with | [_, _, _], [_], _, _ => ⟨_, _, _, _, _, _, rfl, rfl, rfl⟩)
  exact ⟨f, fd, _, M, g_Vault_init F T, T.mg_Vault, KbE.dfl hb hd (fun _ => .cons Rp.non .nil) (by rw [← hd.length]; rfl)⟩
theorem g_Vault_summaries {f : Addr} {fd : FuncData} (Fn : Fun K "summaries" "Vault.summaries" s_Vault_summaries f fd) (T : Txt K mg C_Vault) : FnG P w K mg base 2 f fd p_Vault_summaries (spW K (S_Vault_summaries C_Vault)) := by
  refine fn_G Fn sc_Vault_summaries (fun _ => rfl) ?_
  intro cdv A outer s H E c
  rintro ⟨self, kind, bs, cs, hv⟩ m ⟨hm, hok, hlen, hbs, hl⟩
  simp only at hm hok hlen hbs hl
  change WB _ _ [some (.x self), some (.d (.tuple hv.ds)), none] m _
  refine wb_cons ?_
  refine ws_ret ?_
  refine we_lcX [("bucket", 2)] c.calm c.nd (blkOk_by (N := n_Vault_summaries) (sc := defScope s_Vault_summaries) (by decide +kernel)) ?_
  refine wi_tup ?_
  refine we_fld ?_
  refine v 0 ?_
  refine ⟨_, _, _, _, rfl, by walk_at "zmem", by walk_at "zcl", by walk_at "zna", by walk_at "zlk", ?_⟩
  refine ⟨_, rfl, ?_⟩
  refine ⟨fun i acc m' => acc = List.map .d ((bs.take i).map fun q => (hv.cut q.1 q.2).sm kind) ∧ m' = m, ?_, ?_, ?_⟩
  · exact ⟨rfl, rfl⟩
  · intro i1 d1 acc1 m1 hd1 hi1
    obtain ⟨rfl, rfl⟩ := hi1
    obtain ⟨q, hq, rfl⟩ := st_get hd1
    have hq2 := hbs q (List.mem_of_getElem? hq)
    refine ⟨by simp; omega, fun s0 H0 C cl fp => ?_⟩
    refine wg_name 2 c.nd rfl (by walk_at "zloc") ?_
    intro s0 H0 C cl fp
    refine ⟨fun _ s0 H0 C cl fp => ?_, fun hb => Bool.noConfusion hb⟩
    refine we_call c.blk (av_summary T) (by decide) rfl ?_
    refine wa_cons ?_
    refine we_fld ?_
    refine v 0 ?_
    refine ⟨_, _, _, _, rfl, by walk_at "zmem", by walk_at "zcl", by walk_at "zna", by walk_at "zlk", ?_⟩
    refine wa_cons ?_
    refine v 1 ?_
    refine wa_cons ?_
    refine v 2 ?_
    refine wa_nil ?_
    refine use_summary hok hq2.1 hq2.2 hlen ?_
    exact ⟨by rw [List.take_add_one, hq]; simp, rfl⟩
  · intro acc1 m1 ⟨e11, e21⟩ p np
    subst e11 e21
    exact ⟨_, Sub.refl, p, np, rfl, by simp⟩
theorem avm_Vault_summaries (T : Txt K mg C_Vault) : AvM P w K mg base 2 C_Vault "summaries" (S_Vault_summaries C_Vault) 1 fun rs _ => rs := by
  obtain ⟨f, fd, M, F⟩ := T.m_Vault_summaries
  exact ⟨f, fd, _, T.cl_Vault, M, g_Vault_summaries F T, KbE.plain (F.binds fun _ _ _ _ _ _ us hl => match us, hl with | [_, _], _ => rfl) rfl⟩
theorem g_law {f : Addr} {fd : FuncData} (Fn : Fun K "law" "law" s_law f fd) (T : Txt K mg C_Vault) : FnG P w K mg base 5 f fd p_law (spW K (lawS 63)) := by
  refine fn_G Fn sc_law (fun _ => rfl) ?_
  intro cdv A outer s H E c
  rintro ns m ⟨hlen, hbits, _⟩
  change WB _ _ [some (.d (.list (ns.map .int))), none, none, none, none, none, none, none, none, none, none, none, none] m _
  refine wb_cons ?_
  refine ws_for (vs := [1]) c.pass c.calm ?_
  refine wi_rng1 rfl T.b_range ?_
  refine wa_cons ?_
  refine we_callB (c_max2 c.calm) rfl T.b_max (by decide +kernel) ?_
  refine wa_cons ?_
  refine we_int ?_
  refine wa_cons ?_
  refine we_callB (c_min2 c.calm) rfl T.b_min (by decide +kernel) ?_
  refine wa_cons ?_
  refine we_int ?_
  refine wa_cons ?_
  refine we_callB c_len rfl T.b_len (by decide +kernel) ?_
  refine wa_cons ?_
  refine v 0 ?_
  refine wa_nil ?_
  walk_at "zlen"
  refine wa_nil ?_
  refine min_II ?_
  refine wa_nil ?_
  refine max_II ?_
  refine wa_nil ?_
  refine ⟨_, rfl, by omega, by omega, ?_⟩
  refine ⟨fun i n' m' => ∃ (x1 x2 x3 x4 x5 x6 x7 x8 x9 x10 x11 x12 : Option Ent), n' = [some (.d (.list (ns.map .int))), x1, x2, x3, x4, x5, x6, x7, x8, x9, x10, x11, x12], ?_, ?_, ?_⟩
  · exact ⟨_, _, _, _, _, _, _, _, _, _, _, _, rfl⟩
  · intro i1 d1 n1 m1 hd1 hi1
    obtain ⟨x1, x2, x3, x4, x5, x6, x7, x8, x9, x10, x11, x12, rfl⟩ := hi1
    obtain ⟨hlt1, rfl⟩ := intsD_get hd1
    rw [Int.zero_add]
    have hk5 : i1 < 1000 := by omega
    generalize i1 = k at *
    refine wg_name 1 c.nd rfl (by walk_at "zloc") ?_
    refine wb_cons ?_
    refine ws_set 2 c.nd rfl (by walk_at "zloc") ?_
    refine we_call c (av_l_feed T) (by decide) rfl ?_
    refine wa_cons ?_
    refine v 0 ?_
    refine wa_cons ?_
    refine v 1 ?_
    refine wa_nil ?_
    refine use_l_feed (by omega) hbits fun f c2 hf2 hc2 => ?_
    refine wb_cons ?_
    refine ws_for (vs := [3]) c.pass c.calm ?_
    refine wi_list ?_
    refine we_lst ?_
    refine wa_cons ?_
    refine we_str ?_
    refine wa_cons ?_
    refine we_str ?_
    refine wa_cons ?_
    refine we_str ?_
    refine wa_cons ?_
    refine we_str ?_
    refine wa_cons ?_
    refine we_str ?_
    refine wa_cons ?_
    refine we_str ?_
    refine wa_nil ?_
    refine ⟨[_, _, _, _, _, _], rfl, by simp, ?_⟩
    refine ⟨_, rfl, ?_⟩
    refine ⟨fun i n' m' => ∃ (c : Int × Int) (x3 x4 x5 x6 x7 x8 x9 x10 x11 x12 : Option Ent), FOk c ∧ n' = [some (.d (.list (ns.map .int))), some (.d (.int (k : Int))), some (.x f), x3, x4, x5, x6, x7, x8, x9, x10, x11, x12] ∧ m' f = some (fdO c), ?_, ?_, ?_⟩
    · exact ⟨_, _, _, _, _, _, _, _, _, _, _, (by assumption), rfl, (by walk_at "zmem")⟩
    · intro i3 d3 n3 m3 hd3 hi3
      obtain ⟨c3, x3, x4, x5, x6, x7, x8, x9, x10, x11, x12, hc3, rfl, hmf3⟩ := hi3
      obtain ⟨kind, rfl, hk6⟩ := kinds_get hd3
      refine wg_name 3 c.nd rfl (by walk_at "zloc") ?_
      refine wb_cons ?_
      refine ws_set 4 c.nd rfl (by walk_at "zloc") ?_
      refine we_call c (av_l_pick T) (by decide) rfl ?_
      refine wa_cons ?_
      refine v 2 ?_
      refine wa_cons ?_
      refine we_lst ?_
      refine wa_cons ?_
      refine we_int ?_
      refine wa_cons ?_
      refine we_int ?_
      refine wa_cons ?_
      refine we_int ?_
      refine wa_cons ?_
      refine we_int ?_
      refine wa_nil ?_
      refine ⟨[_, _, _, _], rfl, by simp, ?_⟩
      refine wa_nil ?_
      refine use_l_pickM (by walk_at "zmem") (by assumption) .d (fun e => nomatch e) (by simp) (by simp) fun d4 c4 hc4 mem4 => ?_
      obtain ⟨hh, rfl, hh1, hh2⟩ := hours_get mem4
      refine wb_cons ?_
      refine ws_set 5 c.nd rfl (by walk_at "zloc") ?_
      refine we_call c (av_l_history T) (by decide) rfl ?_
      refine wa_cons ?_
      refine v 2 ?_
      refine wa_cons ?_
      refine v 3 ?_
      refine wa_cons ?_
      refine v 4 ?_
      refine wa_nil ?_
      refine use_l_historyM (by walk_at "zmem") (by assumption) (by omega) fun hv c5 hc5 hl ok => ?_
      refine wb_cons ?_
      refine ws_set 6 c.nd rfl (by walk_at "zloc") ?_
      refine we_callB (call_repr_D c) rfl T.b_repr (by decide +kernel) ?_
      refine wa_cons ?_
      refine v 5 ?_
      refine wa_nil ?_
      refine repr_D (by walk_at "zdat") (HV.shw ok (by omega)) ?_
      refine wb_cons ?_
      refine ws_set 7 c.nd rfl (by walk_at "zloc") ?_
      refine we_op op_addZ ?_
      refine we_call c (av_l_buckets T) (by decide) rfl ?_
      refine wa_cons ?_
      refine v 2 ?_
      refine wa_cons ?_
      refine v 4 ?_
      refine wa_cons ?_
      refine we_int ?_
      refine wa_nil ?_
      refine use_l_buckets (n := 6) (by walk_at "zmem") (by assumption) (by omega) (by omega) (by omega) fun pb ds0 c6 npb hc6 hl0 hs0 => ?_
      refine we_lst ?_
      refine wa_cons ?_
      refine we_tup ?_
      refine wa_cons ?_
      refine we_int ?_
      refine wa_cons ?_
      refine v 4 ?_
      refine wa_nil ?_
      refine ⟨[_, _], rfl, by simp, ?_⟩
      refine wa_cons ?_
      refine we_tup ?_
      refine wa_cons ?_
      refine we_int ?_
      refine wa_cons ?_
      refine we_int ?_
      refine wa_nil ?_
      refine ⟨[_, _], rfl, by simp, ?_⟩
      refine wa_cons ?_
      refine we_tup ?_
      refine wa_cons ?_
      refine we_op op_sub ?_
      refine v 4 ?_
      refine we_int ?_
      refine r2_I0 ?_
      refine wa_cons ?_
      refine v 4 ?_
      refine wa_nil ?_
      refine ⟨[_, _], rfl, by simp, ?_⟩
      refine wa_nil ?_
      refine ⟨[_, _, _], rfl, by simp, ?_⟩
      refine add_L (by walk_at "zdat") .d (by simp [hl0]) ?_
      obtain ⟨bs, ebs, hbs⟩ := stv_list (n := hh) (ds := ds0 ++ [.tuple [.int 0, .int hh], .tuple [.int 0, .int 1], .tuple [.int ((hh : Int) - 1), .int hh]]) (fun d hd => by
        rcases List.mem_append.mp hd with h | h
        · exact hs0 d h
        · simp only [List.mem_cons, List.mem_nil_iff, or_false] at h
          rcases h with rfl | rfl | rfl <;> exact Stv.mk (by omega) (by omega) (by omega))
      have hbl : bs.length = 9 := by have := congrArg List.length ebs; simpa [hl0] using this.symm
      rw [ebs]
      have nfb : f ≠ pb := fun q => by rw [← q] at npb; simp [Mem.put] at npb
      refine wb_cons ?_
      refine ws_for (vs := [8]) c.pass c.calm ?_
      refine wi_list ?_
      refine we_op op_addZ ?_
      refine v 7 ?_
      refine we_slice sl_Z ?_
      refine v 7 ?_
      refine wo_none ?_
      refine wo_some ?_
      refine we_int ?_
      refine ⟨_, rfl, ?_⟩
      refine sl_L .d ?_
      refine add_L .d .d (by have := cutD_le (xs := bs.map stD) (lo := none) (hi := some 2); simp at this ⊢; omega) ?_
      refine ⟨_, rfl, ?_⟩
      refine ⟨fun i n' m' => ∃ (c : Int × Int) (x8 x9 x10 x11 x12 : Option Ent), FOk c ∧ n' = [some (.d (.list (ns.map .int))), some (.d (.int (k : Int))), some (.x f), some (.d (.str kind)), some (.d (.int (hh : Int))), some (.d (.tuple hv.ds)), some (.d (.str (PyData.tuple hv.ds).shown)), some (.d (.list (bs.map stD))), x8, x9, x10, x11, x12] ∧ m' f = some (fdO c), ?_, ?_, ?_⟩
      · exact ⟨_, _, _, _, _, _, (by assumption), rfl, (by walk_at "zmem")⟩
      · intro i7 d7 n7 m7 hd7 hi7
        obtain ⟨c7, x8, x9, x10, x11, x12, hc7, rfl, hmf7⟩ := hi7
        obtain ⟨⟨a, b⟩, hq, rfl⟩ := two_get hd7
        obtain ⟨lt, le⟩ := hbs _ hq
        simp only at lt le
        refine wg_name 8 c.nd rfl (by walk_at "zloc") ?_
        refine wb_cons ?_
        refine ws_set 9 c.nd rfl (by walk_at "zloc") ?_
        refine we_call c (av_l_summary T) (by decide) rfl ?_
        refine wa_cons ?_
        refine v 3 ?_
        refine wa_cons ?_
        refine v 5 ?_
        refine wa_cons ?_
        refine v 8 ?_
        refine wa_nil ?_
        refine use_l_summary ok lt (by omega) (by omega) hk6 ?_
        refine wb_cons ?_
        refine ws_if ?_
        refine wt_cmp op_ne (nomark _) ?_
        refine we_callB (call_repr_D c) rfl T.b_repr (by decide +kernel) ?_
        refine wa_cons ?_
        refine we_call c (av_summary T) (by decide) rfl ?_
        refine wa_cons ?_
        refine v 3 ?_
        refine wa_cons ?_
        refine v 5 ?_
        refine wa_cons ?_
        refine v 8 ?_
        refine wa_nil ?_
        refine use_summary ok lt (by omega) (by omega) ?_
        refine wa_nil ?_
        refine repr_D (by walk_at "zdat") (HV.sm_shw ok (by omega) (by omega)) ?_
        refine we_callB (call_repr_D c) rfl T.b_repr (by decide +kernel) ?_
        refine wa_cons ?_
        refine v 9 ?_
        refine wa_nil ?_
        refine repr_D (by walk_at "zdat") (HV.sm_shw ok (by omega) (by omega)) ?_
        refine ne_S ?_
        rw [decide_eq_true rfl]
        refine ⟨_, rfl, ?_⟩
        refine ⟨fun hc10 => ?_, fun hc10 => ?_⟩
        · exact Bool.noConfusion hc10
        · refine wb_nil ?_
          refine wb_nil ?_
          exact ⟨_, _, _, _, _, _, (by assumption), rfl, (by walk_at "zmem")⟩
      · intro n7 m7 hi7
        obtain ⟨c7, x8, x9, x10, x11, x12, hc7, rfl, hmf7⟩ := hi7
        refine wb_cons ?_
        refine ws_set 10 c.nd rfl (by walk_at "zloc") ?_
        refine we_make c (avc_Vault T) (by decide) rfl ?_
        refine wa_cons ?_
        refine v 3 ?_
        refine wa_cons ?_
        refine v 7 ?_
        refine wa_nil ?_
        refine wk_nil ?_
        refine ⟨rfl, rfl, ?_⟩
        intro pv npv
        refine use_Vault (bs := bs) npv (.inl .d) (by omega) ?_
        have nfv : f ≠ pv := fun q => by rw [← q] at npv; simp_all
        have nvf := nfv.symm
        refine wb_cons ?_
        refine ws_for (vs := [11]) c.pass c.calm ?_
        refine wi_rng1 rfl T.b_range ?_
        refine wa_cons ?_
        refine we_int ?_
        refine wa_nil ?_
        refine ⟨_, rfl, by omega, by omega, ?_⟩
        refine ⟨fun i n' m' => ∃ (c : Int × Int) (x8 x9 x11 x12 : Option Ent), FOk c ∧ n' = [some (.d (.list (ns.map .int))), some (.d (.int (k : Int))), some (.x f), some (.d (.str kind)), some (.d (.int (hh : Int))), some (.d (.tuple hv.ds)), some (.d (.str (PyData.tuple hv.ds).shown)), some (.d (.list (bs.map stD))), x8, x9, some (.x pv), x11, x12] ∧ m' f = some (fdO c) ∧ m' pv = some (VO C_Vault kind bs (List.replicate bs.length 1)), ?_, ?_, ?_⟩
        · exact ⟨_, _, _, _, _, (by assumption), rfl, (by walk_at "zmem"), (by walk_at "zmem")⟩
        · intro i12 d12 n12 m12 hd12 hi12
          obtain ⟨cV, x8, x9, x11, x12, hcV, rfl, hmfV, hmvV⟩ := hi12
          generalize m12 = mV at *
          refine wg_name 11 c.nd rfl (by walk_at "zloc") ?_
          refine wb_cons ?_
          refine ws_set 12 c.nd rfl (by walk_at "zloc") ?_
          refine we_meth c (avm_Vault_summaries T) (by decide) ?_
          refine v 10 ?_
          refine ⟨_, _, rfl, by walk_at "zmem", by walk_at "zlk", ?_⟩
          refine wa_cons ?_
          refine we_op op_addZ ?_
          refine v 5 ?_
          refine we_slice sl_Z ?_
          refine v 5 ?_
          refine wo_none ?_
          refine wo_some ?_
          refine we_int ?_
          refine ⟨_, rfl, ?_⟩
          refine sl_T ?_
          obtain ⟨hw, ew, wok, wl1, wl2, wcut⟩ := HV.app2 ok
          refine add_T (by rw [← List.length_append, ← ew, HV.ds_len]; omega) ?_
          rw [← ew]
          refine wa_nil ?_
          refine ⟨rfl, ?_⟩
          refine use_Vault_summaries (by walk_at "zmem") wok (by omega) (fun q hq => ⟨(hbs q hq).1, by have := (hbs q hq).2; omega⟩) (by omega) fun pt npt => ?_
          have eS : (bs.map fun q => (hw.cut q.1 q.2).sm kind) = bs.map fun q => (hv.cut q.1 q.2).sm kind := List.map_congr_left fun q hq => by rw [wcut _ _ (Nat.le_of_lt (hbs q hq).1) (by have := (hbs q hq).2; omega)]
          rw [eS]
          have ntf : f ≠ pt := fun q => by rw [← q, hmfV] at npt; cases npt
          have ntv : pv ≠ pt := fun q => by rw [← q, hmvV] at npt; cases npt
          have z1 : (mV.put pt (.lst (List.map .d (bs.map fun q => (hv.cut q.1 q.2).sm kind)))) f = some (fdO cV) := (Mem.put_ne ntf).trans hmfV
          have z2 : (mV.put pt (.lst (List.map .d (bs.map fun q => (hv.cut q.1 q.2).sm kind)))) pv = _ := (Mem.put_ne ntv).trans hmvV
          have z3 : (mV.put pt (.lst (List.map .d (bs.map fun q => (hv.cut q.1 q.2).sm kind)))) pt = _ := Mem.put_same
          generalize mV.put pt (.lst (List.map .d (bs.map fun q => (hv.cut q.1 q.2).sm kind))) = M at *
          refine wb_cons ?_
          refine ws_if ?_
          refine wt_cmp op_ne (nomark _) ?_
          refine we_callB (call_repr_D c) rfl T.b_repr (by decide +kernel) ?_
          refine wa_cons ?_
          refine v 12 ?_
          refine wa_nil ?_
          refine repr_D (by walk_at "zdat") (sms_shw ok (by omega) (fun q hq => ⟨(hbs q hq).1, by have := (hbs q hq).2; omega⟩) (by omega)) ?_
          refine we_callB (call_repr_D c) rfl T.b_repr (by decide +kernel) ?_
          refine wa_cons ?_
          refine we_lcD [("_law_stretch_here", 8)] c.calm c.nd (blkOk_by (N := n_law) (sc := defScope s_law) (by decide +kernel)) ?_
          refine wi_list ?_
          refine v 7 ?_
          refine ⟨_, rfl, ?_⟩
          refine ⟨fun i acc m' => acc = List.map .d ((bs.take i).map fun q => (hv.cut q.1 q.2).sm kind) ∧ m' = M, ?_, ?_, ?_⟩
          · exact ⟨rfl, rfl⟩
          · intro i14 d14 acc14 m14 hd14 hi14
            obtain ⟨rfl, rfl⟩ := hi14
            obtain ⟨q, hq, rfl⟩ := st_get hd14
            have hq2 := hbs q (List.mem_of_getElem? hq)
            refine ⟨by simp; omega, fun s0 H0 C cl fp => ?_⟩
            refine wg_name 8 c.nd rfl (by walk_at "zloc") ?_
            intro s0 H0 C cl fp
            refine ⟨fun _ s0 H0 C cl fp => ?_, fun hb => Bool.noConfusion hb⟩
            refine we_call c.blk (av_l_summary T) (by decide) rfl ?_
            refine wa_cons ?_
            refine v 3 ?_
            refine wa_cons ?_
            refine v 5 ?_
            refine wa_cons ?_
            refine v 8 ?_
            refine wa_nil ?_
            refine use_l_summary ok hq2.1 (by omega) (by omega) hk6 ?_
            exact ⟨by rw [List.take_add_one, hq]; simp, rfl⟩
          · intro acc14 m14 ⟨e114, e214⟩
            subst e114 e214
            refine ⟨bs.map fun q => (hv.cut q.1 q.2).sm kind, by simp, ?_⟩
            refine wa_nil ?_
            refine repr_D (by walk_at "zdat") (sms_shw ok (by omega) (fun q hq => ⟨(hbs q hq).1, by have := (hbs q hq).2; omega⟩) (by omega)) ?_
            refine ne_S ?_
            rw [decide_eq_true rfl]
            refine ⟨_, rfl, ?_⟩
            refine ⟨fun hc16 => ?_, fun hc16 => ?_⟩
            · exact Bool.noConfusion hc16
            · refine wb_nil ?_
              refine wb_cons ?_
              refine ws_expr ?_
              refine we_clear ?_
              refine v 12 ?_
              refine ⟨by walk_at "zty", ?_⟩
              refine clear_X (by walk_at "zmem") ?_
              refine wb_nil ?_
              exact ⟨_, _, _, _, _, (by assumption), rfl, (by walk_at "zmem"), (by walk_at "zmem")⟩
        · intro n12 m12 hi12
          obtain ⟨c12, x8, x9, x11, x12, hc12, rfl, hmf12, hmv12⟩ := hi12
          refine wb_cons ?_
          refine ws_if ?_
          refine wt_cmp op_ne (nomark _) ?_
          refine we_callB (call_repr_D c) rfl T.b_repr (by decide +kernel) ?_
          refine wa_cons ?_
          refine v 5 ?_
          refine wa_nil ?_
          refine repr_D (by walk_at "zdat") (HV.shw ok (by omega)) ?_
          refine v 6 ?_
          refine ne_S ?_
          rw [decide_eq_true rfl]
          refine ⟨_, rfl, ?_⟩
          refine ⟨fun hc17 => ?_, fun hc17 => ?_⟩
          · exact Bool.noConfusion hc17
          · refine wb_nil ?_
            refine wb_nil ?_
            exact ⟨_, _, _, _, _, _, _, _, _, _, _, (by assumption), rfl, (by walk_at "zmem")⟩
    · intro n3 m3 hi3
      obtain ⟨c3, x3, x4, x5, x6, x7, x8, x9, x10, x11, x12, hc3, rfl, hmf3⟩ := hi3
      refine wb_nil ?_
      exact ⟨_, _, _, _, _, _, _, _, _, _, _, _, rfl⟩
  · intro n1 m1 hi1
    obtain ⟨x1, x2, x3, x4, x5, x6, x7, x8, x9, x10, x11, x12, rfl⟩ := hi1
    refine wb_cons ?_
    refine ws_ret ?_
    refine we_bl ?_
    exact ⟨_, Sub.refl, rfl⟩
end
theorem all_mk {l : PySem.W.OpenLaw} {w : World} {K : PySem.W.Frag} {h : Heap} {mg : Str → Option Value} {fa C_Vault : Addr} (X : K.In h) (G : h.Ns mainGlobals mg) (hfa : mg "law" = some (.ref fa))
    (aC_Vault : PySem.W.nsIn K mainGlobals "Vault" = some (some (.ref C_Vault)))
    (pg_Vault : PySem.W.plainGet K C_Vault Str.empty = true)
    (hd_Vault : PySem.W.hasDictIn K C_Vault = true)
    (po_Vault : PySem.W.plainOver K C_Vault = true)
    (sa_Vault : PySem.W.findIn K (.ref C_Vault) "__setattr__" = some (some (.builtin "object.__setattr__")))
    (mk_Vault : PySem.W.makesIn K C_Vault = true)
    (kc_Vault : PySem.W.keepIn K (.ref C_Vault) = true)
    (na_Vault_kind : PySem.W.findIn K (.ref C_Vault) "kind" = some none)
    (na_Vault_buckets : PySem.W.findIn K (.ref C_Vault) "buckets" = some none)
    (na_Vault_costs : PySem.W.findIn K (.ref C_Vault) "costs" = some none)
    {f0 : Addr} {od0 an0 : Option Addr} {sl0 : Array (Option Value)} {oc0 kV0 dc0 pm0 cd0 ct0 : Value}
    (a0 : PySem.W.nsIn K mainGlobals "summary" = some (some (.ref f0)))
    (l0 : K.lookup f0 = some ⟨oc0, od0, .func (PySem.W.fnOf "summary" "summary" (defArgs s_summary) (defBody s_summary) (defScope s_summary) .none kV0 dc0 pm0 an0 cd0 ct0), sl0⟩)
    (c0 : PySem.W.codeIn K cd0 "summary" = true)
    (k0 : PySem.W.keepIn K (.ref f0) = true)
    {f1 : Addr} {od1 an1 : Option Addr} {sl1 : Array (Option Value)} {oc1 dc1 pm1 cd1 ct1 : Value} {D1 : Addr}
    (a1 : PySem.W.findIn K (.ref C_Vault) "__init__" = some (some (.ref f1)))
    (i1 : PySem.W.isFn K (.ref f1) = true)
    (l1 : K.lookup f1 = some ⟨oc1, od1, .func (PySem.W.fnOf "__init__" "Vault.__init__" (defArgs s_Vault_init) (defBody s_Vault_init) (defScope s_Vault_init) .none (.ref D1) dc1 pm1 an1 cd1 ct1), sl1⟩)
    (c1 : PySem.W.codeIn K cd1 "Vault.__init__" = true)
    (k1 : PySem.W.keepIn K (.ref f1) = true)
    (q1_0 : PySem.W.nsIn K D1 "costs" = some (some Value.none))
    {f2 : Addr} {od2 an2 : Option Addr} {sl2 : Array (Option Value)} {oc2 kV2 dc2 pm2 cd2 ct2 : Value}
    (a2 : PySem.W.findIn K (.ref C_Vault) "summaries" = some (some (.ref f2)))
    (i2 : PySem.W.isFn K (.ref f2) = true)
    (l2 : K.lookup f2 = some ⟨oc2, od2, .func (PySem.W.fnOf "summaries" "Vault.summaries" (defArgs s_Vault_summaries) (defBody s_Vault_summaries) (defScope s_Vault_summaries) .none kV2 dc2 pm2 an2 cd2 ct2), sl2⟩)
    (c2 : PySem.W.codeIn K cd2 "Vault.summaries" = true)
    (k2 : PySem.W.keepIn K (.ref f2) = true)
    {f3 : Addr} {od3 an3 : Option Addr} {sl3 : Array (Option Value)} {oc3 kV3 dc3 pm3 cd3 ct3 : Value}
    (a3 : PySem.W.nsIn K mainGlobals "_law_feed" = some (some (.ref f3)))
    (l3 : K.lookup f3 = some ⟨oc3, od3, .func (PySem.W.fnOf "_law_feed" "_law_feed" (defArgs s_l_feed) (defBody s_l_feed) (defScope s_l_feed) .none kV3 dc3 pm3 an3 cd3 ct3), sl3⟩)
    (c3 : PySem.W.codeIn K cd3 "_law_feed" = true)
    (k3 : PySem.W.keepIn K (.ref f3) = true)
    {f4 : Addr} {od4 an4 : Option Addr} {sl4 : Array (Option Value)} {oc4 kV4 dc4 pm4 cd4 ct4 : Value}
    (a4 : PySem.W.nsIn K mainGlobals "_law_take" = some (some (.ref f4)))
    (l4 : K.lookup f4 = some ⟨oc4, od4, .func (PySem.W.fnOf "_law_take" "_law_take" (defArgs s_l_take) (defBody s_l_take) (defScope s_l_take) .none kV4 dc4 pm4 an4 cd4 ct4), sl4⟩)
    (c4 : PySem.W.codeIn K cd4 "_law_take" = true)
    (k4 : PySem.W.keepIn K (.ref f4) = true)
    {f5 : Addr} {od5 an5 : Option Addr} {sl5 : Array (Option Value)} {oc5 kV5 dc5 pm5 cd5 ct5 : Value}
    (a5 : PySem.W.nsIn K mainGlobals "_law_pick" = some (some (.ref f5)))
    (l5 : K.lookup f5 = some ⟨oc5, od5, .func (PySem.W.fnOf "_law_pick" "_law_pick" (defArgs s_l_pick) (defBody s_l_pick) (defScope s_l_pick) .none kV5 dc5 pm5 an5 cd5 ct5), sl5⟩)
    (c5 : PySem.W.codeIn K cd5 "_law_pick" = true)
    (k5 : PySem.W.keepIn K (.ref f5) = true)
    {f6 : Addr} {od6 an6 : Option Addr} {sl6 : Array (Option Value)} {oc6 kV6 dc6 pm6 cd6 ct6 : Value}
    (a6 : PySem.W.nsIn K mainGlobals "_law_stretch" = some (some (.ref f6)))
    (l6 : K.lookup f6 = some ⟨oc6, od6, .func (PySem.W.fnOf "_law_stretch" "_law_stretch" (defArgs s_l_stretch) (defBody s_l_stretch) (defScope s_l_stretch) .none kV6 dc6 pm6 an6 cd6 ct6), sl6⟩)
    (c6 : PySem.W.codeIn K cd6 "_law_stretch" = true)
    (k6 : PySem.W.keepIn K (.ref f6) = true)
    {f7 : Addr} {od7 an7 : Option Addr} {sl7 : Array (Option Value)} {oc7 kV7 dc7 pm7 cd7 ct7 : Value}
    (a7 : PySem.W.nsIn K mainGlobals "_law_buckets" = some (some (.ref f7)))
    (l7 : K.lookup f7 = some ⟨oc7, od7, .func (PySem.W.fnOf "_law_buckets" "_law_buckets" (defArgs s_l_buckets) (defBody s_l_buckets) (defScope s_l_buckets) .none kV7 dc7 pm7 an7 cd7 ct7), sl7⟩)
    (c7 : PySem.W.codeIn K cd7 "_law_buckets" = true)
    (k7 : PySem.W.keepIn K (.ref f7) = true)
    {f8 : Addr} {od8 an8 : Option Addr} {sl8 : Array (Option Value)} {oc8 kV8 dc8 pm8 cd8 ct8 : Value}
    (a8 : PySem.W.nsIn K mainGlobals "_law_history" = some (some (.ref f8)))
    (l8 : K.lookup f8 = some ⟨oc8, od8, .func (PySem.W.fnOf "_law_history" "_law_history" (defArgs s_l_history) (defBody s_l_history) (defScope s_l_history) .none kV8 dc8 pm8 an8 cd8 ct8), sl8⟩)
    (c8 : PySem.W.codeIn K cd8 "_law_history" = true)
    (k8 : PySem.W.keepIn K (.ref f8) = true)
    {f9 : Addr} {od9 an9 : Option Addr} {sl9 : Array (Option Value)} {oc9 kV9 dc9 pm9 cd9 ct9 : Value}
    (a9 : PySem.W.nsIn K mainGlobals "_law_summary" = some (some (.ref f9)))
    (l9 : K.lookup f9 = some ⟨oc9, od9, .func (PySem.W.fnOf "_law_summary" "_law_summary" (defArgs s_l_summary) (defBody s_l_summary) (defScope s_l_summary) .none kV9 dc9 pm9 an9 cd9 ct9), sl9⟩)
    (c9 : PySem.W.codeIn K cd9 "_law_summary" = true)
    (k9 : PySem.W.keepIn K (.ref f9) = true)
    {f10 : Addr} {od10 an10 : Option Addr} {sl10 : Array (Option Value)} {oc10 kV10 dc10 pm10 cd10 ct10 : Value}
    (a10 : PySem.W.nsIn K mainGlobals "law" = some (some (.ref f10)))
    (l10 : K.lookup f10 = some ⟨oc10, od10, .func (PySem.W.fnOf "law" "law" (defArgs s_law) (defBody s_law) (defScope s_law) .none kV10 dc10 pm10 an10 cd10 ct10), sl10⟩)
    (c10 : PySem.W.codeIn K cd10 "law" = true)
    (k10 : PySem.W.keepIn K (.ref f10) = true)
    (z_abs : PySem.W.nsIn K mainGlobals "abs" = some none)
    (z_isinstance : PySem.W.nsIn K mainGlobals "isinstance" = some none)
    (z_len : PySem.W.nsIn K mainGlobals "len" = some none)
    (z_max : PySem.W.nsIn K mainGlobals "max" = some none)
    (z_min : PySem.W.nsIn K mainGlobals "min" = some none)
    (z_range : PySem.W.nsIn K mainGlobals "range" = some none)
    (z_repr : PySem.W.nsIn K mainGlobals "repr" = some none)
    (z_str : PySem.W.nsIn K mainGlobals "str" = some none)
    (z_sum : PySem.W.nsIn K mainGlobals "sum" = some none)
    (z_tuple : PySem.W.nsIn K mainGlobals "tuple" = some none)
    (z_zip : PySem.W.nsIn K mainGlobals "zip" = some none)
    : ∃ fd : FuncData, (∀ (s : Shared) (v : Value), BindsTo s fd ⟨[v], []⟩ [("_law_script", v)]) ∧ ∀ base : Heap, K.In base → base.Ns mainGlobals mg → FnG l.prog w K mg base 5 fa fd ["_law_script"] (spW K (lawS 63)) := by
  have e := hfa.symm.trans (PySem.W.mg_of X G a10)
  cases e
  have T : Txt K mg C_Vault := ⟨PySem.W.mg_none_of X G z_abs,
    PySem.W.mg_none_of X G z_isinstance,
    PySem.W.mg_none_of X G z_len,
    PySem.W.mg_none_of X G z_max,
    PySem.W.mg_none_of X G z_min,
    PySem.W.mg_none_of X G z_range,
    PySem.W.mg_none_of X G z_repr,
    PySem.W.mg_none_of X G z_str,
    PySem.W.mg_none_of X G z_sum,
    PySem.W.mg_none_of X G z_tuple,
    PySem.W.mg_none_of X G z_zip,
    PySem.W.mg_of X G aC_Vault,
    ⟨pg_Vault, hd_Vault, po_Vault, sa_Vault⟩,
    na_Vault_kind,
    na_Vault_buckets,
    na_Vault_costs,
    ⟨_, _, ⟨mk_Vault, a1, i1, kc_Vault⟩, ⟨⟨_, _, _, _, _, _, _, _, _, _, rfl, l1, c1, .inl ⟨rfl, rfl⟩, .inr ⟨D1, rfl, fun q hq => by simp only [List.mem_cons, List.not_mem_nil, or_false] at hq; subst hq; exact ⟨_, q1_0, rfl⟩⟩⟩, k1⟩⟩,
    ⟨_, _, ⟨a2, i2, k2⟩, fun_mk (st := s_Vault_summaries) l2 c2 k2⟩,
    ⟨_, _, fun_mk (st := s_summary) l0 c0 k0, PySem.W.mg_of X G a0⟩,
    ⟨_, _, fun_mk (st := s_l_feed) l3 c3 k3, PySem.W.mg_of X G a3⟩,
    ⟨_, _, fun_mk (st := s_l_take) l4 c4 k4, PySem.W.mg_of X G a4⟩,
    ⟨_, _, fun_mk (st := s_l_pick) l5 c5 k5, PySem.W.mg_of X G a5⟩,
    ⟨_, _, fun_mk (st := s_l_stretch) l6 c6 k6, PySem.W.mg_of X G a6⟩,
    ⟨_, _, fun_mk (st := s_l_buckets) l7 c7 k7, PySem.W.mg_of X G a7⟩,
    ⟨_, _, fun_mk (st := s_l_history) l8 c8 k8, PySem.W.mg_of X G a8⟩,
    ⟨_, _, fun_mk (st := s_l_summary) l9 c9 k9, PySem.W.mg_of X G a9⟩⟩
  exact ⟨_, fun s v => .of_eq rfl, fun base _ _ => g_law (fun_mk (st := s_law) l10 c10 k10) T⟩
end T
open PySem PySem.W PyProof.Rows in
set_option maxRecDepth 100000 in
set_option maxHeartbeats 0 in
theorem PySem.Challenge.cw_spanvault_k01_summaries_holds : PySem.Challenge.rw_spanvault_k01_summaries.Holds := by
  w_on; o_law; k_head; (case hw => w_witness2)
  k_fill
  refine Z.walk_G (l := PySem.Challenge.rw_spanvault_k01_summaries) (n := 63) (k := 5) (x := "_law_script") rfl (by decide) rfl ⟨rfl, by decide, by decide⟩ (fun w h Y => PySem.W.kIn_of Y) ?F
  case F =>
    intro w mg fa h KX G hmg
    refine' T.all_mk KX G hmg ?aC_Vault ?pg_Vault ?hd_Vault ?po_Vault ?sa_Vault ?mk_Vault ?kc_Vault ?na_Vault_kind ?na_Vault_buckets ?na_Vault_costs ?a0 ?l0 ?c0 ?k0 ?a1 ?i1 ?l1 ?c1 ?k1 ?q1_0 ?a2 ?i2 ?l2 ?c2 ?k2 ?a3 ?l3 ?c3 ?k3 ?a4 ?l4 ?c4 ?k4 ?a5 ?l5 ?c5 ?k5 ?a6 ?l6 ?c6 ?k6 ?a7 ?l7 ?c7 ?k7 ?a8 ?l8 ?c8 ?k8 ?a9 ?l9 ?c9 ?k9 ?a10 ?l10 ?c10 ?k10 ?z_abs ?z_isinstance ?z_len ?z_max ?z_min ?z_range ?z_repr ?z_str ?z_sum ?z_tuple ?z_zip
    (case aC_Vault => k_is)
    (case pg_Vault => k_is)
    (case hd_Vault => k_is)
    (case po_Vault => k_is)
    (case sa_Vault => k_is)
    (case mk_Vault => k_is)
    (case kc_Vault => k_is)
    (case na_Vault_kind => k_is)
    (case na_Vault_buckets => k_is)
    (case na_Vault_costs => k_is)
    (case a0 => k_is)
    (case l0 => k_is)
    (case c0 => k_is)
    (case k0 => k_is)
    (case a1 => k_is)
    (case i1 => k_is)
    (case l1 => k_is)
    (case c1 => k_is)
    (case k1 => k_is)
    (case q1_0 => k_is)
    (case a2 => k_is)
    (case i2 => k_is)
    (case l2 => k_is)
    (case c2 => k_is)
    (case k2 => k_is)
    (case a3 => k_is)
    (case l3 => k_is)
    (case c3 => k_is)
    (case k3 => k_is)
    (case a4 => k_is)
    (case l4 => k_is)
    (case c4 => k_is)
    (case k4 => k_is)
    (case a5 => k_is)
    (case l5 => k_is)
    (case c5 => k_is)
    (case k5 => k_is)
    (case a6 => k_is)
    (case l6 => k_is)
    (case c6 => k_is)
    (case k6 => k_is)
    (case a7 => k_is)
    (case l7 => k_is)
    (case c7 => k_is)
    (case k7 => k_is)
    (case a8 => k_is)
    (case l8 => k_is)
    (case c8 => k_is)
    (case k8 => k_is)
    (case a9 => k_is)
    (case l9 => k_is)
    (case c9 => k_is)
    (case k9 => k_is)
    (case a10 => k_is)
    (case l10 => k_is)
    (case c10 => k_is)
    (case k10 => k_is)
    (case z_abs => k_is)
    (case z_isinstance => k_is)
    (case z_len => k_is)
    (case z_max => k_is)
    (case z_min => k_is)
    (case z_range => k_is)
    (case z_repr => k_is)
    (case z_str => k_is)
    (case z_sum => k_is)
    (case z_tuple => k_is)
    (case z_zip => k_is)

