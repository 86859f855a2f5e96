import PyProof.Rows.All
import Wide.All
import OpenK.AllK
import Wide.FinOn
import HandS.ForMost
import HandS.Exc
import HandS.WordsExc
import HandS.TupAny
import HandS.Wide
import HandS.EndBits
import KE.DataMinMax
import KE.KTupSum
import PySem.Challenge.RW_spanvault_k05_whole_summaries_of_parts
set_option Elab.async false
set_option maxRecDepth 100000
set_option maxHeartbeats 4000000
set_option linter.all false
/-! Z1: a calculus over values. F: the region of the objects that never change (data); Mem: the objects that may change; all else in the heap is the frame. -/
namespace Z
open PySem PySem.Spec L2
set_option linter.all false

/-- what a name holds: data that never change, an object of the memory, a raw value -/
inductive Ent where
  | d (d : PyData)
  | x (a : Addr)
  | v (v : V)

/-- an object that may change -/
inductive XO where
  | lst (es : List Ent)
  | ins (C : Addr) (fs : List (Str × Ent))
  | dct (kes : List (Key × Ent))
  | set (S : Int → Bool) (n : Nat)

abbrev Mem := Addr → Option XO
abbrev Nm := List (Option Ent)
def Mem.put (m : Mem) (a : Addr) (o : XO) : Mem := fun b => if b = a then some o else m b
theorem Mem.put_same {m : Mem} {a : Addr} {o : XO} : m.put a o a = some o := if_pos rfl
theorem Mem.put_ne {m : Mem} {a b : Addr} {o : XO} (h : b ≠ a) : m.put a o b = m b := if_neg h
theorem Mem.put_put {m : Mem} {a : Addr} {o u : XO} : (m.put a o).put a u = m.put a u := by
  funext b
  by_cases h : b = a <;> simp [Mem.put, h]
/-- an object is forgotten -/
def Mem.drop (m : Mem) (a : Addr) : Mem := fun b => if b = a then none else m b
theorem Mem.drop_put {m : Mem} {a : Addr} {o : XO} (h : m a = none) : (m.put a o).drop a = m := by
  funext b
  by_cases hb : b = a
  · subst hb; simp [Mem.put, Mem.drop, h]
  · simp [Mem.put, Mem.drop, hb]

mutual
/-- a value reads as these data, all of whose objects stand in the region -/
inductive Rp (K : PySem.W.Frag) (F : Hp) : V → PyData → Prop
  | non : Rp K F .non .none
  | bl (b : Bool) : Rp K F (.bl b) (.bool b)
  | int (i : Int) : Rp K F (.int i) (.int i)
  | str (x : Str) : Rp K F (.str x) (.str x)
  | lst {a : Addr} {xs : List V} {ds : List PyData} : SqL K F a xs → RpAll K F xs ds → Rp K F (.ref a) (.list ds)
  | tup {a : Addr} {xs : List V} {ds : List PyData} : SqT K F a xs → RpAll K F xs ds → Rp K F (.ref a) (.tuple ds)
  | nodict {a : Addr} : Rd F a (.dK []) → Rp K F (.ref a) (.dict [])
inductive RpAll (K : PySem.W.Frag) (F : Hp) : List V → List PyData → Prop
  | nil : RpAll K F [] []
  | cons {v : V} {vs : List V} {d : PyData} {ds : List PyData} : Rp K F v d → RpAll K F vs ds → RpAll K F (v :: vs) (d :: ds)
end

def EntOk (K : PySem.W.Frag) (F : Hp) (v : V) : Ent → Prop
  | .d d => Rp K F v d
  | .x a => v = .ref a
  | .v u => v = u
abbrev Ents (K : PySem.W.Frag) (F : Hp) : List V → List Ent → Prop := Paired (EntOk K F)
def XOk (K : PySem.W.Frag) (F H : Hp) (a : Addr) : XO → Prop
  | .lst es => ∃ xs, H a = some (.lst xs) ∧ Ents K F xs es
  | .ins C fs => ∃ dx ys, H a = some (.ins C dx ys) ∧ Paired (fun (p : Str × V) (q : Str × Ent) => p.1 = q.1 ∧ EntOk K F p.2 q.2) ys fs
  | .dct kes => ∃ kvs, H a = some (.dK kvs) ∧ Paired (fun (p : Key × V) (q : Key × Ent) => p.1 = q.1 ∧ EntOk K F p.2 q.2) kvs kes
  | .set S n => H a = some (.set S n)
structure MOk (K : PySem.W.Frag) (F : Hp) (m : Mem) (H : Hp) : Prop where
  sub : ∀ a o, F a = some o → H a = some o
  out : ∀ a o, m a = some o → F a = none
  obj : ∀ a o, m a = some o → XOk K F H a o
structure Step (F : Hp) (m : Mem) (H F' : Hp) (m' : Mem) (H' : Hp) : Prop where
  fr : ∀ a o, F a = some o → F' a = some o
  st : ∀ a o, H a = some o → m a = none → H' a = some o
  nf : ∀ a, F a = none → F' a ≠ none → H a = none ∨ m a ≠ none
  nm : ∀ a, m a = none → m' a ≠ none → H a = none
def Slots (K : PySem.W.Frag) (F : Hp) (σ : St) (n : Nm) : Prop := n.length = σ.length ∧ ∀ (i : Nat) (e : Ent), n[i]? = some (some e) → ∃ v, σ[i]? = some (some v) ∧ EntOk K F v e
abbrev Inc (F F' : Hp) : Prop := ∀ a o, F a = some o → F' a = some o

theorem Step.refl {F : Hp} {m : Mem} {H : Hp} : Step F m H F m H := ⟨fun _ _ h => h, fun _ _ h _ => h, fun _ h k => absurd h k, fun _ h k => absurd h k⟩
theorem Step.trans {F F1 F2 : Hp} {m m1 m2 : Mem} {H H1 H2 : Hp} (x : Step F m H F1 m1 H1) (y : Step F1 m1 H1 F2 m2 H2) : Step F m H F2 m2 H2 := by
  have nm1 : ∀ a o, H a = some o → m a = none → m1 a = none := fun a o h hm => by
    cases q : m1 a with
    | none => rfl
    | some u =>
      have := x.nm a hm (by rw [q]; exact fun z => nomatch z)
      rw [h] at this
      cases this
  have back : ∀ a, H1 a = none → H a = none ∨ m a ≠ none := fun a h => by
    cases q : m a with
    | some u => exact .inr fun z => nomatch z
    | none =>
      cases r : H a with
      | none => exact .inl rfl
      | some o =>
        rw [x.st a o r q] at h
        cases h
  refine ⟨fun a o h => y.fr a o (x.fr a o h), fun a o h hm => y.st a o (x.st a o h hm) (nm1 a o h hm), fun a h k => ?_, fun a h k => ?_⟩
  · cases q : F1 a with
    | some u => exact x.nf a h (by rw [q]; exact fun z => nomatch z)
    | none =>
      rcases y.nf a q k with z | z
      · exact back a z
      · cases r : m a with
        | some u => exact .inr fun z => nomatch z
        | none => exact .inl (x.nm a r z)
  · cases q : m1 a with
    | some u => exact x.nm a h (by rw [q]; exact fun z => nomatch z)
    | none =>
      rcases back a (y.nm a q k) with z | z
      · exact z
      · exact absurd h z

section
variable {K : PySem.W.Frag} {F F' : Hp} {m m' : Mem} {H H' : Hp}
theorem rdi {a : Addr} {u : HO} (s : Inc F F') (h : Rd F a u) : Rd F' a u := by
  rcases h with h | ⟨o, h⟩
  · exact .inl (s a _ h)
  · exact .inr ⟨o, s a _ h⟩
theorem sqLi {a : Addr} {xs : List V} (s : Inc F F') (h : SqL K F a xs) : SqL K F' a xs := h.elim (fun h => .inl (rdi s h)) .inr
theorem sqTi {a : Addr} {xs : List V} (s : Inc F F') (h : SqT K F a xs) : SqT K F' a xs := h.elim (fun h => .inl (rdi s h)) .inr
mutual
theorem Rp.inc (s : Inc F F') : ∀ {v : V} {d : PyData}, Rp K F v d → Rp K F' v d
  | _, _, .non => .non
  | _, _, .bl b => .bl b
  | _, _, .int i => .int i
  | _, _, .str x => .str x
  | _, _, .lst h r => .lst (sqLi s h) (RpAll.inc s r)
  | _, _, .tup h r => .tup (sqTi s h) (RpAll.inc s r)
  | _, _, .nodict h => .nodict (rdi s h)
theorem RpAll.inc (s : Inc F F') : ∀ {vs : List V} {ds : List PyData}, RpAll K F vs ds → RpAll K F' vs ds
  | _, _, .nil => .nil
  | _, _, .cons r t => .cons (Rp.inc s r) (RpAll.inc s t)
end
theorem EntOk.inc (s : Inc F F') {v : V} {e : Ent} (h : EntOk K F v e) : EntOk K F' v e := by
  cases e with
  | d d => exact Rp.inc s h
  | x a => exact h
  | v u => exact h
theorem Paired.imp {α β : Type} {F G : α → β → Prop} (f : ∀ a b, F a b → G a b) : ∀ {l : List α} {k : List β}, Paired F l k → Paired G l k
  | _, _, .nil => .nil
  | _, _, .cons r t => .cons (f _ _ r) (Paired.imp f t)
theorem Ents.inc (s : Inc F F') {vs : List V} {es : List Ent} (h : Ents K F vs es) : Ents K F' vs es := Paired.imp (fun _ _ r => EntOk.inc s r) h
theorem Slots.inc {σ : St} {n : Nm} (s : Inc F F') (h : Slots K F σ n) : Slots K F' σ n :=
  ⟨h.1, fun i e q => let ⟨v, h1, h2⟩ := h.2 i e q; ⟨v, h1, EntOk.inc s h2⟩⟩
theorem RpAll.length : ∀ {vs : List V} {ds : List PyData}, RpAll K F vs ds → vs.length = ds.length
  | _, _, .nil => rfl
  | _, _, .cons _ t => by rw [List.length_cons, List.length_cons, RpAll.length t]
theorem RpAll.ents : ∀ {vs : List V} {ds : List PyData}, RpAll K F vs ds → Ents K F vs (ds.map .d)
  | _, _, .nil => .nil
  | _, _, .cons r t => .cons r (RpAll.ents t)
theorem RpAll.of_ents : ∀ {ds : List PyData} {vs : List V}, Ents K F vs (ds.map .d) → RpAll K F vs ds
  | [], _, .nil => .nil
  | _ :: _, _, .cons r t => .cons r (RpAll.of_ents t)
theorem RpAll.get : ∀ {vs : List V} {ds : List PyData} {i : Nat} {d : PyData}, RpAll K F vs ds → ds[i]? = some d → ∃ v, vs[i]? = some v ∧ Rp K F v d
  | _, _, _, _, .nil, e => by simp at e
  | _, _, 0, _, .cons r _, e => by simp at e; subst e; exact ⟨_, rfl, r⟩
  | _, _, i + 1, d, .cons _ t, e => by
    obtain ⟨v, h1, h2⟩ := RpAll.get (i := i) (d := d) t (by simpa using e)
    exact ⟨v, by simpa using h1, h2⟩
theorem RpAll.get' : ∀ {vs : List V} {ds : List PyData} {i : Nat} {v : V}, RpAll K F vs ds → vs[i]? = some v → ∃ d, ds[i]? = some d ∧ Rp K F v d
  | _, _, _, _, .nil, e => by simp at e
  | _, _, 0, _, .cons r _, e => by simp at e; subst e; exact ⟨_, rfl, r⟩
  | _, _, i + 1, v, .cons _ t, e => by
    obtain ⟨d, h1, h2⟩ := RpAll.get' (i := i) (v := v) t (by simpa using e)
    exact ⟨d, by simpa using h1, h2⟩
theorem Slots.set {σ : St} {n : Nm} (h : Slots K F σ n) {i : Nat} {v : V} {e : Ent} (r : EntOk K F v e) : Slots K F (σ.set i (some v)) (n.set i (some e)) := by
  refine ⟨by rw [List.length_set, List.length_set]; exact h.1, fun j q hq => ?_⟩
  by_cases hj : i = j
  · subst hj
    have hl : i < n.length := by
      by_cases hl : i < n.length
      · exact hl
      · rw [List.getElem?_eq_none (by rw [List.length_set]; omega)] at hq
        cases hq
    rw [List.getElem?_set_self hl] at hq
    cases hq
    exact ⟨v, List.getElem?_set_self (h.1 ▸ hl), r⟩
  · rw [List.getElem?_set_ne hj] at hq
    obtain ⟨u, h1, h2⟩ := h.2 j q hq
    exact ⟨u, by rw [List.getElem?_set_ne hj]; exact h1, h2⟩
theorem Rp.sqL {v : V} {ds : List PyData} (h : Rp K F v (.list ds)) : ∃ a xs, v = .ref a ∧ SqL K F a xs ∧ RpAll K F xs ds := by
  cases h with
  | lst h r => exact ⟨_, _, rfl, h, r⟩
theorem Rp.sqT {v : V} {ds : List PyData} (h : Rp K F v (.tuple ds)) : ∃ a xs, v = .ref a ∧ SqT K F a xs ∧ RpAll K F xs ds := by
  cases h with
  | tup h r => exact ⟨_, _, rfl, h, r⟩
mutual
def nodict : PyData → Bool
  | .dict _ => false
  | .list xs => nodictAll xs
  | .tuple xs => nodictAll xs
  | _ => true
def nodictAll : List PyData → Bool
  | [] => true
  | x :: xs => nodict x && nodictAll xs
end
mutual
theorem Rp.dp : ∀ {v : V} {d : PyData}, Rp K F v d → nodict d = true → Dp K F v d
  | _, _, .non, _ => .non
  | _, _, .bl b, _ => .bl b
  | _, _, .int i, _ => .int i
  | _, _, .str x, _ => .str x
  | _, _, .lst h r, hd => .lst h (RpAll.dp r (by simpa [nodict] using hd))
  | _, _, .tup h r, hd => .tup h (RpAll.dp r (by simpa [nodict] using hd))
  | _, _, .nodict _, hd => by simp [nodict] at hd
theorem RpAll.dp : ∀ {vs : List V} {ds : List PyData}, RpAll K F vs ds → nodictAll ds = true → DpAll K F vs ds
  | _, _, .nil, _ => .nil
  | _, _, .cons r t, hd => by
    simp only [nodictAll, Bool.and_eq_true] at hd
    exact .cons (Rp.dp r hd.1) (RpAll.dp t hd.2)
end
theorem MOk.there {a : Addr} {o : XO} (h : MOk K F m H) (e : m a = some o) : ∃ u, H a = some u := by
  have q := h.obj a o e
  cases o with
  | lst es => obtain ⟨_, q, _⟩ := q; exact ⟨_, q⟩
  | ins C fs => obtain ⟨_, _, q, _⟩ := q; exact ⟨_, q⟩
  | dct kes => obtain ⟨_, q, _⟩ := q; exact ⟨_, q⟩
  | set S n => exact ⟨_, q⟩
theorem MOk.fresh {a : Addr} (h : MOk K F m H) (e : H a = none) : m a = none := by
  cases q : m a with
  | none => rfl
  | some o =>
    obtain ⟨u, hu⟩ := h.there q
    rw [e] at hu
    cases hu
theorem MOk.freshF {a : Addr} (h : MOk K F m H) (e : H a = none) : F a = none := by
  cases q : F a with
  | none => rfl
  | some o =>
    rw [h.sub a o q] at e
    cases e
theorem XOk.inc {a : Addr} {o : XO} (s : Inc F F') (hk : ∀ u, H a = some u → H' a = some u) (h : XOk K F H a o) : XOk K F' H' a o := by
  cases o with
  | lst es => obtain ⟨xs, q, r⟩ := h; exact ⟨xs, hk _ q, Ents.inc s r⟩
  | ins C fs => obtain ⟨dx, ys, q, r⟩ := h; exact ⟨dx, ys, hk _ q, Paired.imp (fun _ _ z => ⟨z.1, EntOk.inc s z.2⟩) r⟩
  | dct kes => obtain ⟨kvs, q, r⟩ := h; exact ⟨kvs, hk _ q, Paired.imp (fun _ _ z => ⟨z.1, EntOk.inc s z.2⟩) r⟩
  | set S n => exact hk _ h
theorem Inc.upd {p : Addr} {o : HO} (hp : F p = none) : Inc F (upd F p o) := fun a u e => by rw [upd_ne (ne_of_none e hp)]; exact e
/-- a new object of the region -/
theorem MOk.newF {p : Addr} {o : HO} (h : MOk K F m H) (hp : H p = none) : MOk K (upd F p o) m (upd H p o) := by
  have fp := h.freshF hp
  refine ⟨fun a u e => ?_, fun a u e => ?_, fun a u e => XOk.inc (Inc.upd fp) (fun z hz => by rw [upd_ne (ne_of_none hz hp)]; exact hz) (h.obj a u e)⟩
  · by_cases ha : a = p
    · subst ha; rw [upd_same] at e ⊢; exact e
    · rw [upd_ne ha] at e ⊢; exact h.sub a u e
  · have ha : a ≠ p := fun q => by rw [q, h.fresh hp] at e; cases e
    rw [upd_ne ha]
    exact h.out a u e
theorem Step.newF {p : Addr} {o : HO} (h : MOk K F m H) (hp : H p = none) : Step F m H (upd F p o) m (upd H p o) := by
  refine ⟨Inc.upd (h.freshF hp), fun a u e _ => by rw [upd_ne (ne_of_none e hp)]; exact e, fun a e k => ?_, fun a e k => absurd e k⟩
  by_cases ha : a = p
  · subst ha; exact .inl hp
  · rw [upd_ne ha] at k; exact absurd e k
/-- a new object of the memory -/
theorem MOk.newX {p : Addr} {o : HO} {u : XO} (h : MOk K F m H) (hp : H p = none) (r : XOk K F (upd H p o) p u) : MOk K F (m.put p u) (upd H p o) := by
  refine ⟨fun a z e => by rw [upd_ne (ne_of_none (h.sub a z e) hp)]; exact h.sub a z e, fun a z e => ?_, fun a z e => ?_⟩
  · by_cases ha : a = p
    · subst ha; exact h.freshF hp
    · rw [Mem.put_ne ha] at e; exact h.out a z e
  · by_cases ha : a = p
    · subst ha
      rw [Mem.put_same] at e
      cases e
      exact r
    · rw [Mem.put_ne ha] at e
      exact XOk.inc (fun _ _ z => z) (fun w hw => by rw [upd_ne ha]; exact hw) (h.obj a z e)
theorem Step.newX {p : Addr} {o : HO} {u : XO} (hp : H p = none) : Step F m H F (m.put p u) (upd H p o) := by
  refine ⟨fun _ _ h => h, fun a z e _ => by rw [upd_ne (ne_of_none e hp)]; exact e, fun a e k => absurd e k, fun a e k => ?_⟩
  by_cases ha : a = p
  · subst ha; exact hp
  · rw [Mem.put_ne ha] at k; exact absurd e k
/-- an object of the memory changes -/
theorem MOk.mut {p : Addr} {o : HO} {u u' : XO} (h : MOk K F m H) (hp : m p = some u) (r : XOk K F (upd H p o) p u') : MOk K F (m.put p u') (upd H p o) := by
  have np : ∀ a z, F a = some z → a ≠ p := fun a z e q => by rw [q, h.out p u hp] at e; cases e
  refine ⟨fun a z e => by rw [upd_ne (np a z e)]; exact h.sub a z e, fun a z e => ?_, fun a z e => ?_⟩
  · by_cases ha : a = p
    · subst ha; exact h.out a u hp
    · rw [Mem.put_ne ha] at e; exact h.out a z e
  · by_cases ha : a = p
    · subst ha
      rw [Mem.put_same] at e
      cases e
      exact r
    · rw [Mem.put_ne ha] at e
      exact XOk.inc (fun _ _ z => z) (fun w hw => by rw [upd_ne ha]; exact hw) (h.obj a z e)
theorem Step.mut {p : Addr} {o : HO} {u u' : XO} (hp : m p = some u) : Step F m H F (m.put p u') (upd H p o) := by
  refine ⟨fun _ _ h => h, fun a z e hm => ?_, fun a e k => absurd e k, fun a e k => ?_⟩
  · have ha : a ≠ p := fun q => by rw [q, hp] at hm; cases hm
    rw [upd_ne ha]
    exact e
  · by_cases ha : a = p
    · subst ha; rw [hp] at e; cases e
    · rw [Mem.put_ne ha] at k; exact absurd e k
/-- objects of the memory are forgotten -/
def Mem.Sub (m' m : Mem) : Prop := ∀ a o, m' a = some o → m a = some o
theorem Sub.none {a : Addr} (h : Mem.Sub m' m) (e : m a = none) : m' a = none := by
  cases q : m' a with
  | none => rfl
  | some o =>
    rw [h a o q] at e
    cases e
theorem Step.sub (h : Mem.Sub m' m) : Step F m H F m' H := ⟨fun _ _ h => h, fun _ _ e _ => e, fun _ e k => absurd e k, fun a e k => absurd (Sub.none h e) k⟩
theorem MOk.less (h : Mem.Sub m' m) (ok : MOk K F m H) : MOk K F m' H := ⟨ok.sub, fun a o e => ok.out a o (h a o e), fun a o e => ok.obj a o (h a o e)⟩
theorem Sub.refl {m : Mem} : Mem.Sub m m := fun _ _ h => h
theorem Sub.put {a : Addr} {o : XO} (h : Mem.Sub m' m) : Mem.Sub (m'.put a o) (m.put a o) := fun b u e => by
  by_cases hb : b = a
  · subst hb
    rw [Mem.put_same] at e ⊢
    exact e
  · rw [Mem.put_ne hb] at e ⊢
    exact h b u e
theorem Sub.new {a : Addr} {o : XO} (h : m a = Option.none) : Mem.Sub m (m.put a o) := fun b u e => by
  rw [Mem.put_ne (fun q => by rw [q, h] at e; cases e)]
  exact e
theorem Sub.trans {m1 m2 m3 : Mem} (a : Mem.Sub m1 m2) (b : Mem.Sub m2 m3) : Mem.Sub m1 m3 := fun c o h => b c o (a c o h)
theorem Sub.drop {m : Mem} {a : Addr} : Mem.Sub (m.drop a) m := fun b u e => by
  unfold Mem.drop at e
  by_cases hb : b = a
  · rw [if_pos hb] at e; cases e
  · rw [if_neg hb] at e; exact e
/-- a list of data in the memory becomes data -/
theorem MOk.freeze {p : Addr} {ds : List PyData} (h : MOk K F m H) (hp : m p = some (.lst (ds.map .d))) :
    ∃ F', MOk K F' (m.drop p) H ∧ Step F m H F' (m.drop p) H ∧ Rp K F' (.ref p) (.list ds) := by
  obtain ⟨xs, hx, r⟩ := h.obj p _ hp
  have fp := h.out p _ hp
  have inc : Inc F (upd F p (.lst xs)) := Inc.upd fp
  refine ⟨upd F p (.lst xs), ⟨fun a o e => ?_, fun a o e => ?_, fun a o e => XOk.inc inc (fun _ z => z) (h.obj a o (Sub.drop a o e))⟩, ⟨inc, fun _ _ e _ => e, fun a e k => ?_, fun a e k => ?_⟩, .lst (.inl (.inl upd_same)) (RpAll.inc inc (RpAll.of_ents r))⟩
  · by_cases ha : a = p
    · subst ha; rw [upd_same] at e; cases e; exact hx
    · rw [upd_ne ha] at e; exact h.sub a o e
  · have ha : a ≠ p := fun q => by
      unfold Mem.drop at e
      rw [if_pos q] at e
      cases e
    rw [upd_ne ha]
    exact h.out a o (Sub.drop a o e)
  · by_cases ha : a = p
    · subst ha; exact .inr (by rw [hp]; exact fun z => nomatch z)
    · rw [upd_ne ha] at k; exact absurd e k
  · exact absurd (Sub.none (m' := m.drop p) (m := m) Sub.drop e) k
end
end Z

/-! Z2: the judgements over values. -/
namespace Z
open PySem PySem.Spec L2
set_option linter.all false

/-! ### what is wanted of a piece of syntax, as a reading -/
def wpE (X : Cx) (e : Expr) : TE := fun σ H Q => ∀ pins s, Inv X pins σ H s → wpAny (model X.prog X.w) X.A (eval e X.env) (EP X pins σ Q) X.xe s
def wpT (X : Cx) (e : Expr) : TT := fun σ H Q => ∀ pins s, Inv X pins σ H s → wpAny (model X.prog X.w) X.A (isTrue e X.env (eval e X.env)) (TP X pins σ Q) X.xe s
def wpW (X : Cx) (e : Expr) : TT := fun σ H Q => ∀ whole pins s, Inv X pins σ H s → wpAny (model X.prog X.w) X.A (isTrue e X.env whole) (TP X pins σ Q) X.xe s
def wpA (X : Cx) (es : List Expr) : TA := fun σ H Q => ∀ pos pins s, Inv X pins σ H s → wpAny (model X.prog X.w) X.A (spliced (backTo pos (starEach es X.env))) (AP X pins σ Q) X.xe s
def wpS (X : Cx) (st : Stmt) : TS := fun D σ H => ∀ pins s, Inv X pins σ H s → wpAny (model X.prog X.w) X.A (exec st X.env) (SP X pins D) X.xe s
def wpB (X : Cx) (st : List Stmt) : TS := fun D σ H => ∀ pins s, Inv X pins σ H s → wpAny (model X.prog X.w) X.A (execs st X.env) (SP X pins D) X.xe s
def wpG (X : Cx) (tg : Expr) : TG := fun v σ H Q => ∀ pins s u, Inv X pins σ H s → RelV v u → wpAny (model X.prog X.w) X.A (assign tg X.env u) (fun _ s' => ∃ σ' H', Inv X pins σ' H' s' ∧ Q σ' H') X.xe s
def wpGs (X : Cx) (ts : List Expr) : TGs := fun vs σ H Q => ∀ pins s us, Inv X pins σ H s → Vals vs us → wpAny (model X.prog X.w) X.A (assignInOrder ((assignEach ts X.env).map (·.2)) us) (fun _ s' => ∃ σ' H', Inv X pins σ' H' s' ∧ Q σ' H') X.xe s
def wpI (X : Cx) (tg iter : Expr) : TI := fun σ H R => ∀ pins s, Inv X pins σ H s → wpAny (model X.prog X.w) X.A (eval iter X.env) (fun v s1 => wpAny (model X.prog X.w) X.A (pyIter v) (PIE X pins σ tg R) X.xe s1) X.xe s
section
variable {X : Cx} {e tg iter : Expr} {es : List Expr} {st : Stmt} {sts : List Stmt} {σ : St} {H : Hp}
theorem pe_wp : PE X e (wpE X e) := ⟨fun pins s _ _ _ I h => h pins s I⟩
theorem pt_wp : PT X e (wpT X e) := ⟨fun pins s _ _ _ I h => h pins s I⟩
theorem pw_wp : PW X e (wpW X e) := ⟨fun wh pins s _ _ _ I h => h wh pins s I⟩
theorem pa_wp : PA X es (wpA X es) := ⟨fun pos pins s _ _ _ I h => h pos pins s I⟩
theorem ps_wp : PS X st (wpS X st) := ⟨fun pins s _ _ _ I h => h pins s I⟩
theorem pb_wp : PSs X sts (wpB X sts) := ⟨fun pins s _ _ _ I h => h pins s I⟩
theorem pg_wp : PG X tg (wpG X tg) := ⟨fun pins s _ _ _ u _ I r h => h pins s u I r⟩
theorem pgs_wp : PGs X es (wpGs X es) := ⟨fun pins s _ _ _ us _ I r h => h pins s us I r⟩
theorem pi_wp : PI X tg iter (wpI X tg iter) := ⟨fun pins s _ _ _ I h => h pins s I⟩
theorem wpE.of {t : TE} {Q : VK} (h : PE X e t) (q : t σ H Q) : wpE X e σ H Q := fun pins s I => h.run pins s σ H Q I q
theorem wpT.of {t : TT} {Q} (h : PT X e t) (q : t σ H Q) : wpT X e σ H Q := fun pins s I => h.run pins s σ H Q I q
theorem wpW.of {t : TT} {Q} (h : PW X e t) (q : t σ H Q) : wpW X e σ H Q := fun wh pins s I => h.run wh pins s σ H Q I q
theorem wpA.of {t : TA} {Q} (h : PA X es t) (q : t σ H Q) : wpA X es σ H Q := fun pos pins s I => h.run pos pins s σ H Q I q
theorem wpS.of {t : TS} {D : Ends} (h : PS X st t) (q : t D σ H) : wpS X st D σ H := fun pins s I => h.run pins s σ H D I q
theorem wpB.of {t : TS} {D : Ends} (h : PSs X sts t) (q : t D σ H) : wpB X sts D σ H := fun pins s I => h.run pins s σ H D I q
theorem wpG.of {t : TG} {v : V} {Q} (h : PG X tg t) (q : t v σ H Q) : wpG X tg v σ H Q := fun pins s u I r => h.run pins s σ H v u Q I r q
theorem wpGs.of {t : TGs} {vs : List V} {Q} (h : PGs X es t) (q : t vs σ H Q) : wpGs X es vs σ H Q := fun pins s us I r => h.run pins s σ H vs us Q I r q
theorem wpI.of {t : TI} {R} (h : PI X tg iter t) (q : t σ H R) : wpI X tg iter σ H R := fun pins s I => h.run pins s σ H R I q
theorem wpE.mono {Q Q' : VK} (h : wpE X e σ H Q) (k : ∀ v H', Q v H' → Q' v H') : wpE X e σ H Q' := fun pins s I => thn (h pins s I) fun _ _ ⟨v, H', I', r, q⟩ => ⟨v, H', I', r, k v H' q⟩
theorem wpT.mono {Q Q'} (h : wpT X e σ H Q) (k : ∀ v H', Q v H' → Q' v H') : wpT X e σ H Q' := fun pins s I => thn (h pins s I) fun _ _ ⟨H', I', q⟩ => ⟨H', I', k _ H' q⟩
theorem wpW.mono {Q Q'} (h : wpW X e σ H Q) (k : ∀ v H', Q v H' → Q' v H') : wpW X e σ H Q' := fun wh pins s I => thn (h wh pins s I) fun _ _ ⟨H', I', q⟩ => ⟨H', I', k _ H' q⟩
theorem wpA.mono {Q Q'} (h : wpA X es σ H Q) (k : ∀ v H', Q v H' → Q' v H') : wpA X es σ H Q' := fun pos pins s I => thn (h pos pins s I) fun _ _ ⟨v, H', I', r, q⟩ => ⟨v, H', I', r, k v H' q⟩
theorem SP.mono {pins : List (Addr × Obj)} {D D' : Ends} (h1 : ∀ σ H, D.nx σ H → D'.nx σ H) (h2 : ∀ v H, D.rt v H → D'.rt v H) (h3 : ∀ σ H, D.bk σ H → D'.bk σ H) (h4 : ∀ σ H, D.ct σ H → D'.ct σ H) {f : Flow} {s' : Shared} (h : SP X pins D f s') : SP X pins D' f s' := by
  cases f with
  | next => obtain ⟨a, b, c, q⟩ := h; exact ⟨a, b, c, h1 _ _ q⟩
  | brk => obtain ⟨a, b, c, q⟩ := h; exact ⟨a, b, c, h3 _ _ q⟩
  | cont => obtain ⟨a, b, c, q⟩ := h; exact ⟨a, b, c, h4 _ _ q⟩
  | ret u => obtain ⟨v, a, b, c, r, q⟩ := h; exact ⟨v, a, b, c, r, h2 _ _ q⟩
theorem wpS.mono {D D' : Ends} (h : wpS X st D σ H) (h1 : ∀ σ H, D.nx σ H → D'.nx σ H) (h2 : ∀ v H, D.rt v H → D'.rt v H) (h3 : ∀ σ H, D.bk σ H → D'.bk σ H) (h4 : ∀ σ H, D.ct σ H → D'.ct σ H) : wpS X st D' σ H :=
  fun pins s I => thn (h pins s I) fun _ _ q => SP.mono h1 h2 h3 h4 q
theorem wpB.mono {D D' : Ends} (h : wpB X sts D σ H) (h1 : ∀ σ H, D.nx σ H → D'.nx σ H) (h2 : ∀ v H, D.rt v H → D'.rt v H) (h3 : ∀ σ H, D.bk σ H → D'.bk σ H) (h4 : ∀ σ H, D.ct σ H → D'.ct σ H) : wpB X sts D' σ H :=
  fun pins s I => thn (h pins s I) fun _ _ q => SP.mono h1 h2 h3 h4 q
theorem wpG.mono {v : V} {Q Q' : St → Hp → Prop} (h : wpG X tg v σ H Q) (k : ∀ σ H', Q σ H' → Q' σ H') : wpG X tg v σ H Q' := fun pins s u I r => thn (h pins s u I r) fun _ _ ⟨a, b, I', q⟩ => ⟨a, b, I', k _ _ q⟩
theorem wpGs.mono {vs : List V} {Q Q' : St → Hp → Prop} (h : wpGs X es vs σ H Q) (k : ∀ σ H', Q σ H' → Q' σ H') : wpGs X es vs σ H Q' := fun pins s u I r => thn (h pins s u I r) fun _ _ ⟨a, b, I', q⟩ => ⟨a, b, I', k _ _ q⟩
theorem wpI.mono {R R' : It → Hp → Prop} (h : wpI X tg iter σ H R) (k : ∀ J H', R J H' → R' J H') : wpI X tg iter σ H R' := fun pins s I => thn (h pins s I) fun _ _ q => thn q fun _ _ ⟨it, fp, tn, J, H', a, b, c, d, f, r⟩ => ⟨it, fp, tn, J, H', a, b, c, d, f, k J H' r⟩
end

/-! ### the judgements -/
abbrev KE := Ent → Mem → Prop
def PostE (X : Cx) (F : Hp) (m : Mem) (H : Hp) (K : KE) : VK := fun v H' => ∃ F' r m', K r m' ∧ EntOk X.K F' v r ∧ MOk X.K F' m' H' ∧ Step F m H F' m' H'
def WE (X : Cx) (e : Expr) (n : Nm) (m : Mem) (K : KE) : Prop := ∀ F σ H, MOk X.K F m H → Slots X.K F σ n → wpE X e σ H (PostE X F m H K)
def PostT (X : Cx) (F : Hp) (m : Mem) (H : Hp) (K : Bool → Mem → Prop) : Bool → Hp → Prop := fun b H' => ∃ F' m', K b m' ∧ MOk X.K F' m' H' ∧ Step F m H F' m' H'
def WT (X : Cx) (e : Expr) (n : Nm) (m : Mem) (K : Bool → Mem → Prop) : Prop := ∀ F σ H, MOk X.K F m H → Slots X.K F σ n → wpT X e σ H (PostT X F m H K)
def WW (X : Cx) (e : Expr) (n : Nm) (m : Mem) (K : Bool → Mem → Prop) : Prop := ∀ F σ H, MOk X.K F m H → Slots X.K F σ n → wpW X e σ H (PostT X F m H K)
def PostA (X : Cx) (F : Hp) (m : Mem) (H : Hp) (K : List Ent → Mem → Prop) : List V → Hp → Prop := fun vs H' => ∃ F' rs m', K rs m' ∧ Ents X.K F' vs rs ∧ MOk X.K F' m' H' ∧ Step F m H F' m' H'
def WA (X : Cx) (es : List Expr) (n : Nm) (m : Mem) (K : List Ent → Mem → Prop) : Prop := ∀ F σ H, MOk X.K F m H → Slots X.K F σ n → wpA X es σ H (PostA X F m H K)
/-- how a statement ends -/
inductive Out where
  | nx (n : Nm) (m : Mem)
  | rt (r : Ent) (m : Mem)
  | bk (n : Nm) (m : Mem)
  | ct (n : Nm) (m : Mem)
abbrev KS := Out → Prop
def PostN (X : Cx) (F : Hp) (m : Mem) (H : Hp) (K : Nm → Mem → Prop) : St → Hp → Prop := fun σ' H' => ∃ F' n' m', K n' m' ∧ Slots X.K F' σ' n' ∧ MOk X.K F' m' H' ∧ Step F m H F' m' H'
def PostS (X : Cx) (F : Hp) (m : Mem) (H : Hp) (P : KS) : Ends :=
  { nx := PostN X F m H fun n m => P (.nx n m), rt := PostE X F m H fun r m => P (.rt r m), bk := PostN X F m H fun n m => P (.bk n m), ct := PostN X F m H fun n m => P (.ct n m) }
def WS (X : Cx) (st : Stmt) (n : Nm) (m : Mem) (P : KS) : Prop := ∀ F σ H, MOk X.K F m H → Slots X.K F σ n → wpS X st (PostS X F m H P) σ H
def WB (X : Cx) (sts : List Stmt) (n : Nm) (m : Mem) (P : KS) : Prop := ∀ F σ H, MOk X.K F m H → Slots X.K F σ n → wpB X sts (PostS X F m H P) σ H
/-- only these slots differ -/
def Tou (vs : List Nat) (σ σ' : St) : Prop := σ'.length = σ.length ∧ ∀ j, j ∉ vs → σ'[j]? = σ[j]?
/-- a target takes a value: names alone are stored, in the slots vs -/
def WG (X : Cx) (tg : Expr) (vs : List Nat) (r : Ent) (n : Nm) (K : Nm → Prop) : Prop := ∀ F σ H v, Inc F H → EntOk X.K F v r → Slots X.K F σ n → wpG X tg v σ H fun σ' H' => H' = H ∧ Tou vs σ σ' ∧ ∃ n', K n' ∧ Slots X.K F σ' n'
def WGs (X : Cx) (ts : List Expr) (vs : List Nat) (rs : List PyData) (n : Nm) (K : Nm → Prop) : Prop := ∀ F σ H us, Inc F H → RpAll X.K F us rs → Slots X.K F σ n → wpGs X ts us σ H fun σ' H' => H' = H ∧ Tou vs σ σ' ∧ ∃ n', K n' ∧ Slots X.K F σ' n'

section
variable {X : Cx} {e tg iter a b c : Expr} {es : List Expr} {st : Stmt} {sts : List Stmt} {n : Nm} {m : Mem} {K K' : KE}
theorem WE.go {F : Hp} {σ : St} {H : Hp} (h : WE X e n m K) (hm : MOk X.K F m H) (hs : Slots X.K F σ n) {Q : VK}
    (k : ∀ F1 v H1 r m1, K r m1 → EntOk X.K F1 v r → MOk X.K F1 m1 H1 → Step F m H F1 m1 H1 → Slots X.K F1 σ n → Q v H1) : wpE X e σ H Q :=
  (h F σ H hm hs).mono fun v H1 ⟨F1, r, m1, k1, ok, hm1, st⟩ => k F1 v H1 r m1 k1 ok hm1 st (hs.inc st.fr)
theorem WT.go {F : Hp} {σ : St} {H : Hp} {K : Bool → Mem → Prop} (h : WT X e n m K) (hm : MOk X.K F m H) (hs : Slots X.K F σ n) {Q : Bool → Hp → Prop}
    (k : ∀ F1 b H1 m1, K b m1 → MOk X.K F1 m1 H1 → Step F m H F1 m1 H1 → Slots X.K F1 σ n → Q b H1) : wpT X e σ H Q :=
  (h F σ H hm hs).mono fun b H1 ⟨F1, m1, k1, hm1, st⟩ => k F1 b H1 m1 k1 hm1 st (hs.inc st.fr)
theorem WW.go {F : Hp} {σ : St} {H : Hp} {K : Bool → Mem → Prop} (h : WW X e n m K) (hm : MOk X.K F m H) (hs : Slots X.K F σ n) {Q : Bool → Hp → Prop}
    (k : ∀ F1 b H1 m1, K b m1 → MOk X.K F1 m1 H1 → Step F m H F1 m1 H1 → Slots X.K F1 σ n → Q b H1) : wpW X e σ H Q :=
  (h F σ H hm hs).mono fun b H1 ⟨F1, m1, k1, hm1, st⟩ => k F1 b H1 m1 k1 hm1 st (hs.inc st.fr)
theorem WA.go {F : Hp} {σ : St} {H : Hp} {K : List Ent → Mem → Prop} (h : WA X es n m K) (hm : MOk X.K F m H) (hs : Slots X.K F σ n) {Q : List V → Hp → Prop}
    (k : ∀ F1 vs H1 rs m1, K rs m1 → Ents X.K F1 vs rs → MOk X.K F1 m1 H1 → Step F m H F1 m1 H1 → Slots X.K F1 σ n → Q vs H1) : wpA X es σ H Q :=
  (h F σ H hm hs).mono fun v H1 ⟨F1, r, m1, k1, ok, hm1, st⟩ => k F1 v H1 r m1 k1 ok hm1 st (hs.inc st.fr)
/-- without a step -/
theorem PostE.here {F : Hp} {H : Hp} {r : Ent} {v : V} (k : K r m) (ok : EntOk X.K F v r) (hm : MOk X.K F m H) : PostE X F m H K v H := ⟨F, r, m, k, ok, hm, .refl⟩
theorem PostE.after {F F1 : Hp} {m1 : Mem} {H H1 H2 : Hp} {v : V} (s : Step F m H F1 m1 H1) (h : PostE X F1 m1 H1 K v H2) : PostE X F m H K v H2 :=
  let ⟨F', r, m', k, ok, hm, st⟩ := h
  ⟨F', r, m', k, ok, hm, s.trans st⟩
theorem PostT.after {F F1 : Hp} {m1 : Mem} {H H1 H2 : Hp} {K : Bool → Mem → Prop} {v : Bool} (s : Step F m H F1 m1 H1) (h : PostT X F1 m1 H1 K v H2) : PostT X F m H K v H2 :=
  let ⟨F', m', k, hm, st⟩ := h
  ⟨F', m', k, hm, s.trans st⟩
theorem PostA.after {F F1 : Hp} {m1 : Mem} {H H1 H2 : Hp} {K : List Ent → Mem → Prop} {v : List V} (s : Step F m H F1 m1 H1) (h : PostA X F1 m1 H1 K v H2) : PostA X F m H K v H2 :=
  let ⟨F', r, m', k, ok, hm, st⟩ := h
  ⟨F', r, m', k, ok, hm, s.trans st⟩
theorem PostN.after {F F1 : Hp} {m1 : Mem} {H H1 H2 : Hp} {σ : St} {K : Nm → Mem → Prop} (s : Step F m H F1 m1 H1) (h : PostN X F1 m1 H1 K σ H2) : PostN X F m H K σ H2 :=
  let ⟨F', n', m', k, ok, hm, st⟩ := h
  ⟨F', n', m', k, ok, hm, s.trans st⟩
theorem wpS.after {F F1 : Hp} {m1 : Mem} {H H1 : Hp} {σ : St} {P : KS} (s : Step F m H F1 m1 H1) (h : wpS X st (PostS X F1 m1 H1 P) σ H1) : wpS X st (PostS X F m H P) σ H1 :=
  h.mono (fun _ _ => PostN.after s) (fun _ _ => PostE.after s) (fun _ _ => PostN.after s) fun _ _ => PostN.after s
theorem wpB.after {F F1 : Hp} {m1 : Mem} {H H1 : Hp} {σ : St} {P : KS} (s : Step F m H F1 m1 H1) (h : wpB X sts (PostS X F1 m1 H1 P) σ H1) : wpB X sts (PostS X F m H P) σ H1 :=
  h.mono (fun _ _ => PostN.after s) (fun _ _ => PostE.after s) (fun _ _ => PostN.after s) fun _ _ => PostN.after s
theorem WE.mono (h : WE X e n m K) (k : ∀ r m', K r m' → K' r m') : WE X e n m K' := fun F σ H hm hs => (h F σ H hm hs).mono fun _ _ ⟨F', r, m', q, z⟩ => ⟨F', r, m', k r m' q, z⟩
/-- by a middle word -/
theorem WE.cut (K : KE) (h : WE X e n m K) (k : ∀ r m', K r m' → K' r m') : WE X e n m K' := h.mono k
theorem WT.mono {K K' : Bool → Mem → Prop} (h : WT X e n m K) (k : ∀ r m', K r m' → K' r m') : WT X e n m K' := fun F σ H hm hs => (h F σ H hm hs).mono fun _ _ ⟨F', m', q, z⟩ => ⟨F', m', k _ m' q, z⟩
theorem WA.mono {K K' : List Ent → Mem → Prop} (h : WA X es n m K) (k : ∀ r m', K r m' → K' r m') : WA X es n m K' := fun F σ H hm hs => (h F σ H hm hs).mono fun _ _ ⟨F', r, m', q, z⟩ => ⟨F', r, m', k r m' q, z⟩
theorem WB.mono {P P' : KS} (h : WB X sts n m P) (k : ∀ o, P o → P' o) : WB X sts n m P' := fun F σ H hm hs =>
  (h F σ H hm hs).mono (fun _ _ ⟨F', n', m', q, z⟩ => ⟨F', n', m', k _ q, z⟩) (fun _ _ ⟨F', n', m', q, z⟩ => ⟨F', n', m', k _ q, z⟩) (fun _ _ ⟨F', n', m', q, z⟩ => ⟨F', n', m', k _ q, z⟩) fun _ _ ⟨F', n', m', q, z⟩ => ⟨F', n', m', k _ q, z⟩
theorem WS.mono {P P' : KS} (h : WS X st n m P) (k : ∀ o, P o → P' o) : WS X st n m P' := fun F σ H hm hs =>
  (h F σ H hm hs).mono (fun _ _ ⟨F', n', m', q, z⟩ => ⟨F', n', m', k _ q, z⟩) (fun _ _ ⟨F', n', m', q, z⟩ => ⟨F', n', m', k _ q, z⟩) (fun _ _ ⟨F', n', m', q, z⟩ => ⟨F', n', m', k _ q, z⟩) fun _ _ ⟨F', n', m', q, z⟩ => ⟨F', n', m', k _ q, z⟩
theorem WB.cut (P : KS) {P' : KS} (h : WB X sts n m P) (k : ∀ o, P o → P' o) : WB X sts n m P' := h.mono k
theorem WS.cut (P : KS) {P' : KS} (h : WS X st n m P) (k : ∀ o, P o → P' o) : WS X st n m P' := h.mono k
/-- forgetting objects of the memory -/
theorem WB.less {m' : Mem} {P : KS} (s : Mem.Sub m' m) (h : WB X sts n m' P) : WB X sts n m P := fun F σ H hm hs => wpB.after (Step.sub s) (h F σ H (hm.less s) hs)
theorem WE.less {m' : Mem} (s : Mem.Sub m' m) (h : WE X e n m' K) : WE X e n m K := fun F σ H hm hs => (h F σ H (hm.less s) hs).mono fun _ _ q => PostE.after (Step.sub s) q

/-! ### names, constants -/
theorem we_var (i : Nat) {x : Str} {pos : Pos} {r : Ent} (hN : X.N[i]? = some x) (hv : Vis X.env.scope x) (hn : n[i]? = some (some r)) (k : K r m)
    (hd : (x == ("__debug__" : Str)) = false := by decide) (hcd : (x == ("__classdict__" : Str)) = false := by decide) : WE X (.Name x pos) n m K := fun F σ H hm hs =>
  let ⟨v, h1, h2⟩ := hs.2 i r hn
  wpE.of (pe_var hN hv hd hcd) ⟨v, h1, PostE.here k h2 hm⟩
theorem we_int {i : Int} {j pos} (k : K (.d (.int i)) m) : WE X (.Constant (.int i) j pos) n m K := fun F σ H hm _ => wpE.of pe_int (PostE.here k (Rp.int i) hm)
theorem we_bl {i : Bool} {j pos} (k : K (.d (.bool i)) m) : WE X (.Constant (.bool i) j pos) n m K := fun F σ H hm _ => wpE.of pe_bl (PostE.here k (Rp.bl i) hm)
theorem we_non {j pos} (k : K (.d .none) m) : WE X (.Constant .none j pos) n m K := fun F σ H hm _ => wpE.of pe_non (PostE.here k Rp.non hm)
theorem we_str {i : Str} {j pos} (k : K (.d (.str i)) m) : WE X (.Constant (.str i) j pos) n m K := fun F σ H hm _ => wpE.of pe_str (PostE.here k (Rp.str i) hm)

theorem v (i : Nat) {x : Str} {pos : Pos} {r : Ent} (k : K r m) (hn : n[i]? = some (some r) := by rfl) (hN : X.N[i]? = some x := by rfl) (hv : Vis X.env.scope x := by first | exact Or.inl rfl | exact Or.inr (Or.inl rfl) | exact Or.inr (Or.inr rfl))
    (hd : (x == ("__debug__" : Str)) = false := by decide) (hcd : (x == ("__classdict__" : Str)) = false := by decide) : WE X (.Name x pos) n m K := we_var i hN hv hn k hd hcd

/-! ### operators -/
/-- what a rule upon two values is asked for -/
def R2W (X : Cx) (r : R2) (x y : Ent) (m : Mem) (K : KE) : Prop := ∀ F H v u, MOk X.K F m H → EntOk X.K F v x → EntOk X.K F u y → ∀ Q : VK, (∀ z H', PostE X F m H K z H' → Q z H') → r v u H Q
/-- what a call upon values is asked for -/
def RCW (X : Cx) (r : List V → Hp → VK → Prop) (as : List Ent) (m : Mem) (K : KE) : Prop := ∀ F H vs, MOk X.K F m H → Ents X.K F vs as → ∀ Q : VK, (∀ z H', PostE X F m H K z H' → Q z H') → r vs H Q
theorem we_op {op : Operator} {r : R2} {pos : Pos} (ho : OpR X (binaryOp op) r) (h : WE X a n m fun x m1 => WE X b n m1 fun y m2 => R2W X r x y m2 K) : WE X (.BinOp a op b pos) n m K := fun F σ H hm hs =>
  wpE.of (pe_op ho pe_wp pe_wp) (h.go hm hs fun F1 v H1 x m1 h1 ok1 hm1 st1 hs1 => h1.go hm1 hs1 fun F2 u H2 y m2 h2 ok2 hm2 st2 hs2 =>
    h2 F2 H2 v u hm2 (ok1.inc st2.fr) ok2 _ fun z H' q => PostE.after (st1.trans st2) q)
theorem we_cmp {op : CmpOp} {r : R2} {pos : Pos} (ho : OpR X (compareOp op) r) (hb : behindInMarks op b = false) (h : WE X a n m fun x m1 => WE X b n m1 fun y m2 => R2W X r x y m2 K) : WE X (.Compare a [op] [b] pos) n m K := fun F σ H hm hs =>
  wpE.of (pe_cmpR ho pe_wp pe_wp hb) (h.go hm hs fun F1 v H1 x m1 h1 ok1 hm1 st1 hs1 => h1.go hm1 hs1 fun F2 u H2 y m2 h2 ok2 hm2 st2 hs2 =>
    h2 F2 H2 v u hm2 (ok1.inc st2.fr) ok2 _ fun z H' q => PostE.after (st1.trans st2) q)
theorem EntOk.int {K : PySem.W.Frag} {F : Hp} {v : V} {i : Int} (h : EntOk K F v (.d (.int i))) : v = .int i := by cases h; rfl
theorem EntOk.bl {K : PySem.W.Frag} {F : Hp} {v : V} {i : Bool} (h : EntOk K F v (.d (.bool i))) : v = .bl i := by cases h; rfl
theorem EntOk.str {K : PySem.W.Frag} {F : Hp} {v : V} {i : Str} (h : EntOk K F v (.d (.str i))) : v = .str i := by cases h; rfl
theorem EntOk.non {K : PySem.W.Frag} {F : Hp} {v : V} (h : EntOk K F v (.d .none)) : v = .non := by cases h; rfl
/-- a test by its value -/
def KTst (K : Bool → Mem → Prop) : KE := fun z m => ∃ b, z = .d (.bool b) ∧ K b m
theorem PostT.of {F F1 : Hp} {m1 : Mem} {H H1 : Hp} {K : Bool → Mem → Prop} {v : V} (q : PostE X F1 m1 H (KTst K) v H1) : ∃ b, v = .bl b ∧ PostT X F1 m1 H K b H1 := by
  obtain ⟨F', r, m', ⟨b, rfl, k⟩, ok, hm, st⟩ := q
  exact ⟨b, ok.bl, F', m', k, hm, st⟩
theorem wt_cmp {op : CmpOp} {r : R2} {pos : Pos} {K : Bool → Mem → Prop} (ho : OpR X (compareOp op) r) (hb : behindInMarks op b = false) (h : WE X a n m fun x m1 => WE X b n m1 fun y m2 => R2W X r x y m2 (KTst K)) : WT X (.Compare a [op] [b] pos) n m K := fun F σ H hm hs =>
  wpT.of (pt_cmpR ho pe_wp pe_wp hb) (h.go hm hs fun F1 v H1 x m1 h1 ok1 hm1 st1 hs1 => h1.go hm1 hs1 fun F2 u H2 y m2 h2 ok2 hm2 st2 hs2 =>
    h2 F2 H2 v u hm2 (ok1.inc st2.fr) ok2 _ fun z H' q => by
      obtain ⟨b, e, q⟩ := PostT.of (F := F2) q
      exact ⟨b, e, PostT.after (st1.trans st2) q⟩)
theorem wt_val {K : Bool → Mem → Prop} (h : WE X e n m (KTst K)) (he : ∀ whole, isTrue e X.env whole = (do let v ← whole; standAt e.pos; holding [v] (truthy v)) := by intro _; rfl) : WT X e n m K := fun F σ H hm hs =>
  wpT.of (pt_val pe_wp he) ((h F σ H hm hs).mono fun v H' q => PostT.of (F := F) q)

/-! ### and, or, not, if -/
variable {rest : List Expr} {pos : Pos}
theorem wt_ww {K : Bool → Mem → Prop} (h : WW X e n m K) : WT X e n m K := fun F σ H hm hs => wpT.of (PW.pt pw_wp) (h F σ H hm hs)
theorem ww_and1 {K : Bool → Mem → Prop} (h : WT X a n m K) : WW X (.BoolOp .And [a] pos) n m K := fun F σ H hm hs => wpW.of (pw_and1 pt_wp) (h F σ H hm hs)
theorem ww_or1 {K : Bool → Mem → Prop} (h : WT X a n m K) : WW X (.BoolOp .Or [a] pos) n m K := fun F σ H hm hs => wpW.of (pw_or1 pt_wp) (h F σ H hm hs)
theorem ww_and {K : Bool → Mem → Prop} (h : WT X a n m fun c m1 => (c = true → WW X (.BoolOp .And (b :: rest) pos) n m1 K) ∧ (c = false → K false m1)) : WW X (.BoolOp .And (a :: b :: rest) pos) n m K := fun F σ H hm hs =>
  wpW.of (pw_and pt_wp pw_wp) (h.go hm hs fun F1 c H1 m1 h1 hm1 st1 hs1 => by
    cases c with
    | true => exact iteT ((h1.1 rfl F1 σ H1 hm1 hs1).mono fun _ _ => PostT.after st1)
    | false => exact iteF ⟨F1, m1, h1.2 rfl, hm1, st1⟩)
theorem ww_or {K : Bool → Mem → Prop} (h : WT X a n m fun c m1 => (c = false → WW X (.BoolOp .Or (b :: rest) pos) n m1 K) ∧ (c = true → K true m1)) : WW X (.BoolOp .Or (a :: b :: rest) pos) n m K := fun F σ H hm hs =>
  wpW.of (pw_or pt_wp pw_wp) (h.go hm hs fun F1 c H1 m1 h1 hm1 st1 hs1 => by
    cases c with
    | false => exact iteF ((h1.1 rfl F1 σ H1 hm1 hs1).mono fun _ _ => PostT.after st1)
    | true => exact iteT ⟨F1, m1, h1.2 rfl, hm1, st1⟩)
theorem wt_not {K : Bool → Mem → Prop} (h : WT X a n m fun c m1 => K (!c) m1) : WT X (.UnaryOp .Not a pos) n m K := fun F σ H hm hs => wpT.of (pt_not pt_wp) (h F σ H hm hs)
theorem we_one {op} (h : WE X a n m K) : WE X (.BoolOp op [a] pos) n m K := fun F σ H hm hs => wpE.of (pe_one pe_wp) (h F σ H hm hs)
theorem we_and (h : WE X a n m fun x m1 => ∃ c, x = .d (.bool c) ∧ (c = true → WE X (.BoolOp .And (b :: rest) pos) n m1 K) ∧ (c = false → K (.d (.bool false)) m1)) : WE X (.BoolOp .And (a :: b :: rest) pos) n m K := fun F σ H hm hs =>
  wpE.of (pe_and pe_wp pe_wp) (h.go hm hs fun F1 v H1 x m1 h1 ok hm1 st1 hs1 => by
    obtain ⟨c, rfl, h1, h2⟩ := h1
    refine ⟨c, ok.bl, ?_⟩
    cases c with
    | true => exact iteT ((h1 rfl F1 σ H1 hm1 hs1).mono fun _ _ => PostE.after st1)
    | false => exact iteF ⟨F1, _, m1, h2 rfl, Rp.bl false, hm1, st1⟩)
theorem we_or (h : WE X a n m fun x m1 => ∃ c, x = .d (.bool c) ∧ (c = false → WE X (.BoolOp .Or (b :: rest) pos) n m1 K) ∧ (c = true → K (.d (.bool true)) m1)) : WE X (.BoolOp .Or (a :: b :: rest) pos) n m K := fun F σ H hm hs =>
  wpE.of (pe_or pe_wp pe_wp) (h.go hm hs fun F1 v H1 x m1 h1 ok hm1 st1 hs1 => by
    obtain ⟨c, rfl, h1, h2⟩ := h1
    refine ⟨c, ok.bl, ?_⟩
    cases c with
    | false => exact iteF ((h1 rfl F1 σ H1 hm1 hs1).mono fun _ _ => PostE.after st1)
    | true => exact iteT ⟨F1, _, m1, h2 rfl, Rp.bl true, hm1, st1⟩)
theorem we_not (h : WE X a n m fun x m1 => ∃ c, x = .d (.bool c) ∧ K (.d (.bool (!c))) m1) : WE X (.UnaryOp .Not a pos) n m K := fun F σ H hm hs =>
  wpE.of (pe_not pe_wp) (h.go hm hs fun F1 v H1 x m1 h1 ok hm1 st1 hs1 => by
    obtain ⟨c, rfl, h1⟩ := h1
    exact ⟨c, ok.bl, F1, _, m1, h1, Rp.bl _, hm1, st1⟩)
theorem we_if {c : Expr} (h : WT X c n m fun t m1 => (t = true → WE X a n m1 K) ∧ (t = false → WE X b n m1 K)) : WE X (.IfExp c a b pos) n m K := fun F σ H hm hs =>
  wpE.of (pe_ifExp pt_wp pe_wp pe_wp) (h.go hm hs fun F1 t H1 m1 h1 hm1 st1 hs1 => by
    cases t with
    | true => exact iteT ((h1.1 rfl F1 σ H1 hm1 hs1).mono fun _ _ => PostE.after st1)
    | false => exact iteF ((h1.2 rfl F1 σ H1 hm1 hs1).mono fun _ _ => PostE.after st1))

/-! ### argument lists, displays -/
theorem wa_nil {K : List Ent → Mem → Prop} (k : K [] m) : WA X [] n m K := fun F σ H hm hs => wpA.of pa_nil ⟨F, [], m, k, .nil, hm, .refl⟩
theorem wa_cons {K : List Ent → Mem → Prop} (h : WE X a n m fun x m1 => WA X es n m1 fun xs m2 => K (x :: xs) m2) (hs0 : starEach (a :: es) X.env = (false, eval a X.env) :: starEach es X.env := by rfl) : WA X (a :: es) n m K := fun F σ H hm hs =>
  wpA.of (pa_cons pe_wp pa_wp hs0) (h.go hm hs fun F1 v H1 x m1 h1 ok1 hm1 st1 hs1 => h1.go hm1 hs1 fun F2 vs H2 xs m2 h2 ok2 hm2 st2 hs2 =>
    ⟨F2, x :: xs, m2, h2, .cons (ok1.inc st2.fr) ok2, hm2, st1.trans st2⟩)
/-- a new list, a new tuple of data; a new list that may change -/
theorem post_L {F : Hp} {H : Hp} {p : Addr} {xs : List V} {ds : List PyData} (hm : MOk X.K F m H) (hp : H p = none) (r : RpAll X.K F xs ds) (k : K (.d (.list ds)) m) : PostE X F m H K (.ref p) (upd H p (.lst xs)) :=
  ⟨upd F p (.lst xs), _, m, k, .lst (.inl (.inl upd_same)) (r.inc (Inc.upd (hm.freshF hp))), hm.newF hp, Step.newF hm hp⟩
theorem post_T {F : Hp} {H : Hp} {p : Addr} {xs : List V} {ds : List PyData} (hm : MOk X.K F m H) (hp : H p = none) (r : RpAll X.K F xs ds) (k : K (.d (.tuple ds)) m) : PostE X F m H K (.ref p) (upd H p (.tup xs)) :=
  ⟨upd F p (.tup xs), _, m, k, .tup (.inl (.inl upd_same)) (r.inc (Inc.upd (hm.freshF hp))), hm.newF hp, Step.newF hm hp⟩
theorem post_X {F : Hp} {H : Hp} {p : Addr} {xs : List V} {es : List Ent} (hm : MOk X.K F m H) (hp : H p = none) (r : Ents X.K F xs es) (k : ∀ p, m p = none → K (.x p) (m.put p (.lst es))) : PostE X F m H K (.ref p) (upd H p (.lst xs)) :=
  ⟨F, .x p, _, k p (hm.fresh hp), rfl, hm.newX hp ⟨xs, upd_same, r⟩, Step.newX hp⟩
theorem we_tup {x1} (h : WA X es n m fun as m1 => ∃ ds, as = ds.map .d ∧ ds.length ≤ 100000 ∧ K (.d (.tuple ds)) m1) : WE X (.Tuple es x1 pos) n m K := fun F σ H hm hs =>
  wpE.of (pe_tup pa_wp) (h.go hm hs fun F1 vs H1 as m1 h1 ok1 hm1 st1 hs1 => by
    obtain ⟨ds, rfl, hl, k⟩ := h1
    have r := RpAll.of_ents ok1
    exact ⟨Nat.le_trans (by rw [r.length]; exact hl) (by decide), fun p hp => PostE.after st1 (post_T hm1 hp r k)⟩)
theorem we_lst (h : WA X es n m fun as m1 => ∃ ds, as = ds.map .d ∧ ds.length ≤ 100000 ∧ K (.d (.list ds)) m1) : WE X (.List es pos) n m K := fun F σ H hm hs =>
  wpE.of (pe_lst pa_wp) (h.go hm hs fun F1 vs H1 as m1 h1 ok1 hm1 st1 hs1 => by
    obtain ⟨ds, rfl, hl, k⟩ := h1
    have r := RpAll.of_ents ok1
    exact ⟨Nat.le_trans (by rw [r.length]; exact hl) (by decide), fun p hp => PostE.after st1 (post_L hm1 hp r k)⟩)
/-- a list that may change -/
theorem we_lstX (h : WA X es n m fun as m1 => as.length ≤ 100000 ∧ ∀ p, m1 p = none → K (.x p) (m1.put p (.lst as))) : WE X (.List es pos) n m K := fun F σ H hm hs =>
  wpE.of (pe_lst pa_wp) (h.go hm hs fun F1 vs H1 as m1 h1 ok1 hm1 st1 hs1 =>
    ⟨Nat.le_trans (by rw [Paired.length ok1]; exact h1.1) (by decide), fun p hp => PostE.after st1 (post_X hm1 hp ok1 h1.2)⟩)

/-! ### calls of what is built in -/
variable {x : Str} {p : Pos} {id T : String} {r : List V → Hp → VK → Prop}
theorem we_callB (hc : CallR X (.builtin id) r) (hg : Gl X x) (hmg : X.mg x = none) (hv : bootBuiltins x = some (.builtin id)) (h : WA X (e :: es) n m fun as m1 => RCW X r as m1 K) (hn : x ≠ "__name__" := by decide) (hdb : (x == ("__debug__" : Str)) = false := by decide)
    (he : starEach (e :: es) X.env = (false, eval e X.env) :: starEach es X.env := by rfl) (hpl : (backTo pos (starEach es X.env)).any (·.1) = false := by rfl) : WE X (.Call (.Name x p) (e :: es) [] pos) n m K := fun F σ H hm hs =>
  wpE.of (pe_callB hc hg hmg hv pa_wp hn hdb he hpl) (h.go hm hs fun F1 vs H1 as m1 h1 ok1 hm1 st1 hs1 => h1 F1 H1 vs hm1 ok1 _ fun z H' q => PostE.after st1 q)
theorem we_callTy (hc : CallR X (.type T) r) (hg : Gl X x) (hmg : X.mg x = none) (hv : bootBuiltins x = some (.type T)) (h : WA X (e :: es) n m fun as m1 => RCW X r as m1 K) (hn : x ≠ "__name__" := by decide) (hdb : (x == ("__debug__" : Str)) = false := by decide)
    (he : starEach (e :: es) X.env = (false, eval e X.env) :: starEach es X.env := by rfl) (hpl : (backTo pos (starEach es X.env)).any (·.1) = false := by rfl) : WE X (.Call (.Name x p) (e :: es) [] pos) n m K := fun F σ H hm hs =>
  wpE.of (pe_callTy hc hg hmg hv pa_wp hn hdb he hpl) (h.go hm hs fun F1 vs H1 as m1 h1 ok1 hm1 st1 hs1 => h1 F1 H1 vs hm1 ok1 _ fun z H' q => PostE.after st1 q)

/-! ### data that are read, whether they may change or not -/
def Dat (m : Mem) (x : Ent) (d : PyData) : Prop := x = .d d ∨ ∃ p ds, x = .x p ∧ m p = some (.lst (List.map .d ds)) ∧ d = .list ds
theorem Dat.d {d : PyData} : Dat m (.d d) d := .inl rfl
theorem Dat.ex {p : Addr} {ds : List PyData} (h : m p = some (.lst (List.map .d ds))) : Dat m (.x p) (.list ds) := .inr ⟨p, ds, rfl, h, rfl⟩
theorem Dat.sqL {K : PySem.W.Frag} {F : Hp} {H : Hp} {v : V} {x : Ent} {ds : List PyData} (h : Dat m x (.list ds)) (hm : MOk K F m H) (ok : EntOk K F v x) : ∃ a xs, v = .ref a ∧ SqL K H a xs ∧ RpAll K F xs ds := by
  rcases h with rfl | ⟨p, es, rfl, hp, e⟩
  · obtain ⟨a, xs, e, s, r⟩ := Rp.sqL ok
    exact ⟨a, xs, e, sqLi hm.sub s, r⟩
  · cases e
    obtain ⟨xs, hx, r⟩ := hm.obj p _ hp
    exact ⟨p, xs, ok, .inl (.inl hx), RpAll.of_ents r⟩
theorem dat_sqT {K : PySem.W.Frag} {F : Hp} {H : Hp} {v : V} {ds : List PyData} (hm : MOk K F m H) (ok : EntOk K F v (.d (.tuple ds))) : ∃ a xs, v = .ref a ∧ SqT K H a xs ∧ RpAll K F xs ds := by
  obtain ⟨a, xs, e, s, r⟩ := Rp.sqT ok
  exact ⟨a, xs, e, sqTi hm.sub s, r⟩
theorem Dat.dp {K : PySem.W.Frag} {F : Hp} {H : Hp} {v : V} {x : Ent} {d : PyData} (h : Dat m x d) (hm : MOk K F m H) (ok : EntOk K F v x) (hn : nodict d = true) : Dp K H v d := by
  rcases h with rfl | ⟨p, es, rfl, hp, rfl⟩
  · exact Rp.dp (Rp.inc hm.sub ok) hn
  · obtain ⟨xs, hx, r⟩ := hm.obj p _ hp
    have e : v = .ref p := ok
    subst e
    exact .lst (.inl (.inl hx)) (RpAll.dp ((RpAll.of_ents r).inc hm.sub) (by simpa [nodict] using hn))
end
end Z

/-! Z3: statements, loops, comprehensions, defs. -/
namespace Z
open PySem PySem.Spec L2
set_option linter.all false

section
variable {X : Cx} {e tg iter a b c : Expr} {es : List Expr} {st : Stmt} {sts body : List Stmt} {n : Nm} {m : Mem} {P : KS} {pos : Pos}
/-! ### blocks and small statements -/
theorem wb_nil (k : P (.nx n m)) : WB X [] n m P := fun F σ H hm hs => wpB.of pss_nil (show PostN X F m H _ σ H from ⟨F, n, m, k, hs, hm, .refl⟩)
def seqP (X : Cx) (sts : List Stmt) (P : KS) : KS := fun o => match o with
  | .nx n m => WB X sts n m P
  | o => P o
theorem wb_cons (h : WS X st n m (seqP X sts P)) : WB X (st :: sts) n m P := fun F σ H hm hs =>
  wpB.of (pss_cons ps_wp pb_wp) ((h F σ H hm hs).mono (fun σ' H' ⟨F', n', m', w, hs', hm', st'⟩ => wpB.after st' (w F' σ' H' hm' hs')) (fun _ _ q => q) (fun _ _ q => q) fun _ _ q => q)
theorem ws_pass (k : P (.nx n m)) : WS X (.Pass pos) n m P := fun F σ H hm hs => wpS.of ps_pass (show PostN X F m H _ σ H from ⟨F, n, m, k, hs, hm, .refl⟩)
theorem ws_break (k : P (.bk n m)) : WS X (.Break pos) n m P := fun F σ H hm hs => wpS.of ps_break (show PostN X F m H _ σ H from ⟨F, n, m, k, hs, hm, .refl⟩)
theorem ws_continue (k : P (.ct n m)) : WS X (.Continue pos) n m P := fun F σ H hm hs => wpS.of ps_continue (show PostN X F m H _ σ H from ⟨F, n, m, k, hs, hm, .refl⟩)
theorem ws_doc {x j pos'} (k : P (.nx n m)) : WS X (.Expr (.Constant (.str x) j pos) pos') n m P := fun F σ H hm hs => wpS.of ps_doc (show PostN X F m H _ σ H from ⟨F, n, m, k, hs, hm, .refl⟩)
theorem ws_expr (h : WE X e n m fun _ m1 => P (.nx n m1)) (hsw : swapsWith e none pos.line X.env = pure false := by rfl) : WS X (.Expr e pos) n m P := fun F σ H hm hs =>
  wpS.of (ps_expr pe_wp hsw) (h.go hm hs fun F1 v H1 r m1 k ok hm1 st1 hs1 => (show PostN X F m H _ σ H1 from ⟨F1, n, m1, k, hs1, hm1, st1⟩))
theorem ws_ret (h : WE X e n m fun r m1 => P (.rt r m1)) : WS X (.Return (some e) pos) n m P := fun F σ H hm hs => wpS.of (ps_ret pe_wp) (h F σ H hm hs)
theorem ws_retN (k : P (.rt (.d .none) m)) : WS X (.Return none pos) n m P := fun F σ H hm hs => wpS.of ps_retN (show PostE X F m H _ .non H from PostE.here k Rp.non hm)
theorem ws_if (h : WT X c n m fun t m1 => (t = true → WB X sts n m1 P) ∧ (t = false → WB X body n m1 P)) : WS X (.If c sts body pos) n m P := fun F σ H hm hs =>
  wpS.of (ps_if pt_wp pb_wp pb_wp) (h.go hm hs fun F1 t H1 m1 h1 hm1 st1 hs1 => by
    cases t with
    | true => exact iteT (wpB.after st1 (h1.1 rfl F1 σ H1 hm1 hs1))
    | false => exact iteF (wpB.after st1 (h1.2 rfl F1 σ H1 hm1 hs1)))

/-! ### targets -/
theorem Tou.set {σ : St} {vs : List Nat} {i : Nat} {v : Option V} (h : i ∈ vs) : Tou vs σ (σ.set i v) := ⟨List.length_set, fun j hj => List.getElem?_set_ne fun e => hj (by rw [← e]; exact h)⟩
theorem Tou.refl {σ : St} {vs : List Nat} : Tou vs σ σ := ⟨rfl, fun _ _ => rfl⟩
theorem Tou.trans {σ σ1 σ2 : St} {vs : List Nat} (h : Tou vs σ σ1) (k : Tou vs σ1 σ2) : Tou vs σ σ2 := ⟨k.1.trans h.1, fun j hj => (k.2 j hj).trans (h.2 j hj)⟩
theorem wg_name {x : Str} {vs : List Nat} {r : Ent} {K : Nm → Prop} (i : Nat) (hN : X.N.Nodup) (hi : X.N[i]? = some x) (hx : Loc X.env.scope x) (k : K (n.set i (some r))) (hv : i ∈ vs := by simp) (hf : X.fn x = true ∨ X.env.scope.names.lookup x = some .local := by first | exact .inl rfl | exact .inr rfl | assumption) : WG X (.Name x pos) vs r n K := fun F σ H v hi0 ok hs =>
  wpG.of (pg_name hN hi hx hf) (show _ ∧ _ from ⟨rfl, Tou.set hv, _, k, hs.set ok⟩)
theorem wgs_nil {vs : List Nat} {K : Nm → Prop} (k : K n) : WGs X [] vs [] n K := fun F σ H us _ r hs => wpGs.of pgs_nil (by
  cases r
  exact ⟨rfl, rfl, Tou.refl, n, k, hs⟩)
theorem wgs_cons {vs : List Nat} {d : PyData} {ds : List PyData} {K : Nm → Prop} (h : WG X e vs (.d d) n fun n1 => WGs X es vs ds n1 K) (h0 : (assignEach (e :: es) X.env).map (·.2) = assign e X.env :: (assignEach es X.env).map (·.2) := by rfl) : WGs X (e :: es) vs (d :: ds) n K := fun F σ H us hi r hs =>
  wpGs.of (pgs_cons pg_wp pgs_wp h0) (by
    cases r with
    | cons r1 rr =>
      refine ⟨_, _, rfl, (h F σ H _ hi r1 hs).mono fun σ1 H1 ⟨e1, t1, n1, k1, hs1⟩ => ?_⟩
      subst e1
      exact (k1 F σ1 H1 _ hi rr hs1).mono fun σ2 H2 ⟨e2, t2, n2, k2, hs2⟩ => ⟨e2, t1.trans t2, n2, k2, hs2⟩)
theorem wg_tup {vs : List Nat} {ds : List PyData} {k0 : Nat} {K : Nm → Prop} (hc : X.calm = true) (h : WGs X es vs ds n K) (hl : ds.length = es.length)
    (hn : (assignEach es X.env).length = es.length := by rfl) (hst : (assignEach es X.env).findIdx? (·.1) = none := by rfl) : WG X (.Tuple es k0 pos) vs (.d (.tuple ds)) n K := fun F σ H v hi ok hs =>
  wpG.of (pg_tup hc pgs_wp hn hst) (by
    obtain ⟨a, xs, e, sq, r⟩ := Rp.sqT ok
    exact ⟨a, xs, e, sqTi hi sq, by rw [r.length, hl], h F σ H xs hi r hs⟩)
theorem ws_asg {vs : List Nat} (h : WE X e n m fun r m1 => WG X tg vs r n fun n' => P (.nx n' m1)) (h1 : swapsWithSole [tg] e pos.line X.env = pure false := by rfl) (h2 : swappedStores [tg] e X.env = pure none := by rfl)
    (h3 : (assignEach [tg] X.env).map (·.2) = [assign tg X.env] := by rfl) : WS X (.Assign [tg] e pos) n m P := fun F σ H hm hs =>
  wpS.of (ps_asg pe_wp pg_wp h1 h2 h3) (h.go hm hs fun F1 v H1 r m1 k ok hm1 st1 hs1 => (k F1 σ H1 v hm1.sub ok hs1).mono fun σ' H' ⟨e1, _, n', k', hs'⟩ => by
    subst e1
    exact (show PostN X F m H _ σ' H' from ⟨F1, n', m1, k', hs', hm1, st1⟩))
theorem ws_set {x : Str} {pos' : Pos} (i : Nat) (hN : X.N.Nodup) (hi : X.N[i]? = some x) (hx : Loc X.env.scope x) (h : WE X e n m fun r m1 => P (.nx (n.set i (some r)) m1)) (hsw : swapsWith e (some (.Name x pos')) pos.line X.env = pure false := by rfl)
    (hf : X.fn x = true ∨ X.env.scope.names.lookup x = some .local := by first | exact .inl rfl | exact .inr rfl | assumption) : WS X (.Assign [.Name x pos'] e pos) n m P := fun F σ H hm hs =>
  wpS.of (ps_set hN hi hx pe_wp hsw hf) (h.go hm hs fun F1 v H1 r m1 k ok hm1 st1 hs1 => (show PostN X F m H _ (σ.set i (some v)) H1 from ⟨F1, _, m1, k, hs1.set ok, hm1, st1⟩))
theorem ws_par {x y : Str} {px py pt : Pos} {kt k2 pt2} (i j : Nat) (hc : X.calm = true) (hN : X.N.Nodup) (hi : X.N[i]? = some x) (hj : X.N[j]? = some y) (hij : i ≠ j) (hx : X.env.scope.names.lookup x = some .local) (hy : X.env.scope.names.lookup y = some .local)
    (h : WA X [a, b] n m fun rs m1 => ∃ r u, rs = [r, u] ∧ P (.nx ((n.set i (some r)).set j (some u)) m1))
    (hw : swappedStores [.Tuple [.Name x px, .Name y py] kt pt] (.Tuple [a, b] k2 pt2) X.env = pure (some [x, y]))
    (hs1 : swapsWithSole [.Tuple [.Name x px, .Name y py] kt pt] (.Tuple [a, b] k2 pt2) pos.line X.env = pure false := by rfl) : WS X (.Assign [.Tuple [.Name x px, .Name y py] kt pt] (.Tuple [a, b] k2 pt2) pos) n m P := fun F σ H hm hs =>
  wpS.of (ps_par hc hN hi hj hij hx hy pa_wp hw hs1) (h.go hm hs fun F1 vs H1 rs m1 k ok hm1 st1 hs1 => by
    obtain ⟨r, u, rfl, k⟩ := k
    cases ok with
    | cons o1 t =>
      cases t with
      | cons o2 t =>
        cases t
        exact ⟨_, _, rfl, (show PostN X F m H _ _ H1 from ⟨F1, _, m1, k, (hs1.set o1).set o2, hm1, st1⟩)⟩)

/-! ### what is walked -/
/-- the iterator gives these data, one after another, whatever changes in the memory meanwhile -/
def Yld (X : Cx) (J : It) (ds : List PyData) (F : Hp) (m : Mem) (H : Hp) : Prop :=
  ∀ F2 m2 H2, MOk X.K F2 m2 H2 → Step F m H F2 m2 H2 → ∀ i, (∀ d, ds[i]? = some d → J.go i H2 ∧ ∀ x H3, J.yld i H2 x H3 → ∃ F3, Rp X.K F3 x d ∧ MOk X.K F3 m2 H3 ∧ Step F2 m2 H2 F3 m2 H3) ∧ (ds.length ≤ i → J.stop i H2)
def WI (X : Cx) (tg iter : Expr) (n : Nm) (m : Mem) (K : List PyData → Mem → Prop) : Prop := ∀ F σ H, MOk X.K F m H → Slots X.K F σ n → wpI X tg iter σ H fun J H1 => ∃ F1 m1 ds, K ds m1 ∧ MOk X.K F1 m1 H1 ∧ Step F m H F1 m1 H1 ∧ Yld X J ds F1 m1 H1
theorem wi_list {K : List PyData → Mem → Prop} (h : WE X iter n m fun r m1 => ∃ ds, r = .d (.list ds) ∧ K ds m1) : WI X tg iter n m K := fun F σ H hm hs =>
  wpI.of (pi_list pe_wp) (h.go hm hs fun F1 v H1 r m1 k ok hm1 st1 hs1 => by
    obtain ⟨ds, rfl, k⟩ := k
    obtain ⟨a, xs, e, sq, rr⟩ := Rp.sqL ok
    refine ⟨a, e, ⟨xs, sqLi hm1.sub sq⟩, F1, m1, ds, k, hm1, st1, fun F2 m2 H2 hm2 st2 i => ⟨fun d hd => ?_, fun hl => ⟨xs, sqLi hm2.sub (sqLi st2.fr sq), by rw [rr.length]; exact hl⟩⟩⟩
    obtain ⟨x, hx, rx⟩ := rr.get hd
    refine ⟨⟨xs, x, sqLi hm2.sub (sqLi st2.fr sq), hx⟩, fun y H3 hy => ?_⟩
    obtain ⟨rfl, hy⟩ := hy
    have := hy xs (sqLi hm2.sub (sqLi st2.fr sq))
    rw [hx] at this
    cases this
    exact ⟨F2, rx.inc st2.fr, hm2, .refl⟩)
theorem wi_tup {K : List PyData → Mem → Prop} (h : WE X iter n m fun r m1 => ∃ ds, r = .d (.tuple ds) ∧ K ds m1) : WI X tg iter n m K := fun F σ H hm hs =>
  wpI.of (pi_tup pe_wp) (h.go hm hs fun F1 v H1 r m1 k ok hm1 st1 hs1 => by
    obtain ⟨ds, rfl, k⟩ := k
    obtain ⟨a, xs, e, sq, rr⟩ := Rp.sqT ok
    refine ⟨a, e, ⟨xs, sqTi hm1.sub sq⟩, F1, m1, ds, k, hm1, st1, fun F2 m2 H2 hm2 st2 i => ⟨fun d hd => ?_, fun hl => ⟨xs, sqTi hm2.sub (sqTi st2.fr sq), by rw [rr.length]; exact hl⟩⟩⟩
    obtain ⟨x, hx, rx⟩ := rr.get hd
    refine ⟨⟨xs, x, sqTi hm2.sub (sqTi st2.fr sq), hx⟩, fun y H3 hy => ?_⟩
    obtain ⟨rfl, hy⟩ := hy
    have := hy xs (sqTi hm2.sub (sqTi st2.fr sq))
    rw [hx] at this
    cases this
    exact ⟨F2, rx.inc st2.fr, hm2, .refl⟩)
/-- lo, lo + 1, .. -/
def intsD (lo : Int) (k : Nat) : List PyData := (List.range k).map fun (i : Nat) => .int (lo + (i : Int))
theorem intsD_length {lo : Int} {k : Nat} : (intsD lo k).length = k := by unfold intsD; rw [List.length_map, List.length_range]
theorem intsD_get {lo : Int} {k i : Nat} {d : PyData} (h : (intsD lo k)[i]? = some d) : i < k ∧ d = .int (lo + (i : Int)) := by
  unfold intsD at h
  rw [List.getElem?_map] at h
  by_cases hi : i < k
  · rw [List.getElem?_range hi] at h
    cases h
    exact ⟨hi, rfl⟩
  · rw [List.getElem?_eq_none (by rw [List.length_range]; omega)] at h
    cases h
theorem yld_range {lo : Int} {k : Nat} {F : Hp} {H : Hp} : Yld X (Itr lo k) (intsD lo k) F m H := fun F2 m2 H2 hm2 st2 i => ⟨fun d hd => by
    obtain ⟨hi, rfl⟩ := intsD_get hd
    exact ⟨hi, fun x H3 ⟨e1, e2⟩ => by subst e1 e2; exact ⟨F2, .int _, hm2, .refl⟩⟩, fun hl => by rw [intsD_length] at hl; exact hl⟩
theorem wi_rng1 {p : Pos} {K : List PyData → Mem → Prop} (hg : Gl X "range") (hmg : X.mg "range" = none) (h : WA X [a] n m fun rs m1 => ∃ j : Int, rs = [.d (.int j)] ∧ j ≤ 1000000000000 ∧ -1000000000000 ≤ j ∧ K (intsD 0 j.toNat) m1)
    (hs0 : starEach [a] X.env = [(false, eval a X.env)] := by rfl) : WI X tg (.Call (.Name "range" p) [a] [] pos) n m K := fun F σ H hm hs =>
  wpI.of (pi_range1 hg hmg pa_wp hs0) (h.go hm hs fun F1 vs H1 rs m1 k ok hm1 st1 hs1 => by
    obtain ⟨j, rfl, h1, h2, k⟩ := k
    cases ok with
    | cons o t =>
      cases t
      have e := EntOk.int o
      subst e
      exact ⟨j, rfl, by omega, by omega, F1, m1, _, k, hm1, st1, yld_range⟩)
theorem wi_rng2 {p : Pos} {K : List PyData → Mem → Prop} (hg : Gl X "range") (hmg : X.mg "range" = none) (h : WA X [a, b] n m fun rs m1 => ∃ i j : Int, rs = [.d (.int i), .d (.int j)] ∧ (i ≤ 10 ^ 18 ∧ -(10 ^ 18) ≤ i ∧ j ≤ 10 ^ 18 ∧ -(10 ^ 18) ≤ j) ∧ K (intsD i (j - i).toNat) m1)
    (hs0 : starEach [a, b] X.env = [(false, eval a X.env), (false, eval b X.env)] := by rfl) (hs2 : starEach [b] X.env = [(false, eval b X.env)] := by rfl) : WI X tg (.Call (.Name "range" p) [a, b] [] pos) n m K := fun F σ H hm hs =>
  wpI.of (pi_range2 hg hmg pa_wp hs0 hs2) (h.go hm hs fun F1 vs H1 rs m1 k ok hm1 st1 hs1 => by
    obtain ⟨i, j, rfl, ⟨h1, h2, h3, h4⟩, k⟩ := k
    cases ok with
    | cons o t =>
      cases t with
      | cons o2 t =>
        cases t
        have e := EntOk.int o
        have e2 := EntOk.int o2
        subst e e2
        exact ⟨i, j, rfl, ⟨by omega, by omega, by omega, by omega⟩, F1, m1, _, k, hm1, st1, yld_range⟩)

/-! ### for -/
def loopP (I : Nat → Nm → Mem → Prop) (j : Nat) (P : KS) : KS := fun o => match o with
  | .nx n m => I j n m
  | .ct n m => I j n m
  | .bk n m => P (.nx n m)
  | .rt r m => P (.rt r m)
theorem ws_for {vs : List Nat} (hp : PassesOwn (model X.prog X.w) X.A X.env X.xe) (hc : X.calm = true)
    (h : WI X tg iter n m fun ds m1 => ∃ I : Nat → Nm → Mem → Prop, I 0 n m1 ∧ (∀ i d n' m', ds[i]? = some d → I i n' m' → WG X tg vs (.d d) n' fun n2 => WB X body n2 m' (loopP I (i + 1) P)) ∧ ∀ n' m', I ds.length n' m' → P (.nx n' m'))
    (hf : ∀ x, foldedSetIterable iter X.env x = pure x := by intro _; rfl) : WS X (.For tg iter body [] pos) n m P := fun F σ H hm hs => by
  refine wpS.of (ps_for hp hc pi_wp pg_wp pb_wp hf) ((h F σ H hm hs).mono fun J H1 ⟨F1, m1, ds, ⟨I, i0, turn, fin⟩, hm1, st1, yl⟩ => ?_)
  refine ⟨fun i mm σ' H' => mm = ds.length - i ∧ i ≤ ds.length ∧ PostN X F1 m1 H1 (I i) σ' H', ⟨_, rfl, Nat.zero_le _, F1, n, m1, i0, hs.inc st1.fr, hm1, .refl⟩, ?_⟩
  rintro i mm σ' H' ⟨rfl, hi, F', n', m', inv, hs', hm', st'⟩
  obtain ⟨y1, y2⟩ := yl F' m' H' hm' st' i
  by_cases hlt : i < ds.length
  · obtain ⟨go, y1⟩ := y1 ds[i] (List.getElem?_eq_getElem hlt)
    refine .inr ⟨go, PostN X F1 m1 H1 (I (i + 1)), fun σ2 H2 q => ⟨_, by omega, rfl, hlt, q⟩, fun x H3 hy => ?_⟩
    obtain ⟨F3, rx, hm3, st3⟩ := y1 x H3 hy
    refine (turn i ds[i] n' m' (List.getElem?_eq_getElem hlt) inv F3 σ' H3 x hm3.sub rx (hs'.inc st3.fr)).mono fun σ2 H2 ⟨e, _, n2, w, hs2⟩ => ?_
    subst e
    have s2 := st'.trans st3
    exact (w F3 σ2 H2 hm3 hs2).mono (fun _ _ q => PostN.after s2 q) (fun _ _ q => PostE.after (st1.trans s2) q) (fun _ _ q => PostN.after (st1.trans s2) q) fun _ _ q => PostN.after s2 q
  · have e : i = ds.length := by omega
    subst e
    exact .inl ⟨y2 (Nat.le_refl _), F', n', m', fin n' m' inv, hs', hm', st1.trans st'⟩
/-- while, by a measure -/
theorem ws_while (hp : PassesOwn (model X.prog X.w) X.A X.env X.xe) (I : Nat → Nm → Mem → Prop) (h0 : ∃ k, I k n m)
    (h : ∀ k n' m', I k n' m' → WT X c n' m' fun t m1 => (t = true → WB X body n' m1 fun o => match o with
      | .nx n2 m2 => ∃ k', k' < k ∧ I k' n2 m2
      | .ct n2 m2 => ∃ k', k' < k ∧ I k' n2 m2
      | .bk n2 m2 => P (.nx n2 m2)
      | .rt r m2 => P (.rt r m2)) ∧ (t = false → P (.nx n' m1))) : WS X (.While c body [] pos) n m P := fun F σ H hm hs => by
  obtain ⟨k0, i0⟩ := h0
  refine wpS.of (ps_while hp pt_wp pb_wp) ⟨fun k σ' H' => PostN X F m H (I k) σ' H', ⟨k0, F, n, m, i0, hs, hm, .refl⟩, ?_⟩
  rintro k σ' H' ⟨F', n', m', inv, hs', hm', st'⟩
  refine (h k n' m' inv).go hm' hs' fun F1 t H1 m1 h1 hm1 st1 hs1 => ?_
  have s1 := st'.trans st1
  cases t with
  | true =>
    refine iteT ⟨fun σ2 H2 => ∃ k', k' < k ∧ PostN X F m H (I k') σ2 H2, fun _ _ q => q, ?_⟩
    exact (h1.1 rfl F1 σ' H1 hm1 hs1).mono (fun _ _ ⟨F2, n2, m2, ⟨k', hk, q⟩, z1, z2, z3⟩ => ⟨k', hk, F2, n2, m2, q, z1, z2, s1.trans z3⟩) (fun _ _ q => PostE.after s1 q) (fun _ _ q => PostN.after s1 q) fun _ _ ⟨F2, n2, m2, ⟨k', hk, q⟩, z1, z2, z3⟩ => ⟨k', hk, F2, n2, m2, q, z1, z2, s1.trans z3⟩
  | false => exact iteF ⟨F1, n', m1, h1.2 rfl, hs1, hm1, s1⟩

/-! ### list comprehensions -/
def wipeN (n : Nm) : List Nat → Nm
  | [] => n
  | v :: vs => (wipeN n vs).set v none
theorem slots_none {K : PySem.W.Frag} {F : Hp} {σ : St} {n : Nm} (h : Slots K F σ n) (i : Nat) : Slots K F (σ.set i none) (n.set i none) := by
  refine ⟨by rw [List.length_set, List.length_set]; exact h.1, fun j q hq => ?_⟩
  by_cases hj : i = j
  · subst hj
    by_cases hl : i < n.length
    · rw [List.getElem?_set_self hl] at hq; cases hq
    · rw [List.getElem?_eq_none (by rw [List.length_set]; omega)] at hq; cases hq
  · rw [List.getElem?_set_ne hj] at hq
    obtain ⟨u, h1, h2⟩ := h.2 j q hq
    exact ⟨u, by rw [List.getElem?_set_ne hj]; exact h1, h2⟩
theorem slots_wipe {K : PySem.W.Frag} {F : Hp} {σ : St} {n : Nm} (h : Slots K F σ n) : ∀ vs, Slots K F (wipe σ vs) (wipeN n vs)
  | [] => h
  | v :: vs => slots_none (slots_wipe h vs) v
theorem wipe_in {σ : St} {i : Nat} : ∀ {vs : List Nat}, i ∈ vs → i < σ.length → (wipe σ vs)[i]? = some none
  | v :: vs, h, hl => by
    unfold wipe
    by_cases hv : v = i
    · subst hv
      rw [List.getElem?_set_self (by rw [wipe_length]; exact hl)]
    · rw [List.getElem?_set_ne hv]
      exact wipe_in (by simpa [Ne.symm hv] using h) hl
theorem wipe_tou {σ σ' : St} {vs : List Nat} (h : Tou vs (wipe σ vs) σ') : wipe σ' vs = wipe σ vs := by
  have hl : σ'.length = σ.length := h.1.trans (wipe_length σ vs)
  apply List.ext_getElem?
  intro j
  by_cases hj : j ∈ vs
  · by_cases hs : j < σ.length
    · rw [wipe_in hj (by rw [hl]; exact hs), wipe_in hj hs]
    · rw [List.getElem?_eq_none (by rw [wipe_length, hl]; omega), List.getElem?_eq_none (by rw [wipe_length]; omega)]
  · rw [wipe_out hj, h.2 j hj]
theorem MOk.frame {K : PySem.W.Frag} {F H : Hp} {m : Mem} {D : Addr} {o : HO} (h : MOk K F m H) (hF : F D = none) (hD : m D = none) : MOk K F m (upd H D o) :=
  ⟨fun a u e => by rw [upd_ne (ne_of_none e hF)]; exact h.sub a u e, h.out, fun a u e => XOk.inc (fun _ _ z => z) (fun w hw => by
    have ha : a ≠ D := fun q => by rw [q, hD] at e; cases e
    rw [upd_ne ha]; exact hw) (h.obj a u e)⟩
theorem Step.off {F H F' H' : Hp} {m m' : Mem} {D : Addr} (s : Step F m H F' m' H') (h1 : H D ≠ none) (h2 : F D = none) (h3 : m D = none) : F' D = none ∧ m' D = none := by
  constructor
  · cases q : F' D with
    | none => rfl
    | some u =>
      rcases s.nf D h2 (by rw [q]; exact fun z => nomatch z) with z | z
      · exact absurd z h1
      · exact absurd h3 z
  · cases q : m' D with
    | none => rfl
    | some u => exact absurd (s.nm D h3 (by rw [q]; exact fun z => nomatch z)) h1
/-- the block's context -/
abbrev Bk (X : Cx) (scope : Scope) (s : Shared) (H : Hp) (C : Addr) (cl : List (Str × Addr)) (fp : List Addr) : Cx := X.blk s H scope (compEnvC scope cl C X.env) fp
def WTs (X : Cx) (ifs : List Expr) (n : Nm) (m : Mem) (K : Bool → Mem → Prop) : Prop := match ifs with
  | [] => K true m
  | [c] => WT X c n m K
  | _ => False
/-- the words of a comprehension: I by the turn, the list so far and the memory -/
def LcW (X : Cx) (tg elt : Expr) (ifs : List Expr) (scope : Scope) (vs : List Nat) (n : Nm) (ds : List PyData) (I : Nat → List Ent → Mem → Prop) : Prop :=
  ∀ i d acc m', ds[i]? = some d → I i acc m' → acc.length < 16777216 ∧ ∀ s0 H0 C cl fp, WG (Bk X scope s0 H0 C cl fp) tg vs (.d d) (wipeN n vs) fun n2 => ∀ s0 H0 C cl fp, WTs (Bk X scope s0 H0 C cl fp) ifs n2 m' fun b m2 =>
    (b = true → ∀ s0 H0 C cl fp, WE (Bk X scope s0 H0 C cl fp) elt n2 m2 fun r m3 => I (i + 1) (acc ++ [r]) m3) ∧ (b = false → I (i + 1) acc m2)
def tgB (X : Cx) (scope : Scope) (tg : Expr) : TG := fun v σ H Q => ∀ s0 H0 C cl fp, wpG (Bk X scope s0 H0 C cl fp) tg v σ H Q
def teB (X : Cx) (scope : Scope) (e : Expr) : TE := fun σ H Q => ∀ s0 H0 C cl fp, wpE (Bk X scope s0 H0 C cl fp) e σ H Q
def ttB (X : Cx) (scope : Scope) (ifs : List Expr) : TT := fun σ H Q => match ifs with
  | [] => Q true H
  | [c] => ∀ s0 H0 C cl fp, wpT (Bk X scope s0 H0 C cl fp) c σ H Q
  | _ => False
theorem pts_B {scope : Scope} {ifs : List Expr} (s0 : Shared) (H0 : Hp) (C : Addr) (cl : List (Str × Addr)) (fp : List Addr) : PTs (Bk X scope s0 H0 C cl fp) ifs (ttB X scope ifs) := by
  match ifs with
  | [] => exact pts_nil
  | [c] => exact pts_one ⟨fun pins s _ _ _ I h => h s0 H0 C cl fp pins s I⟩
  | _ :: _ :: _ => exact ⟨fun _ _ _ _ _ _ h => h.elim⟩
end
end Z

/-! Z4: comprehensions, defs and their calls, the end. -/
namespace Z
open PySem PySem.Spec L2
set_option linter.all false
section
variable {X : Cx} {tg iter elt : Expr} {ifs : List Expr} {scope : Scope} {own : List (Str × Nat)} {vs : List Nat} {n : Nm} {m : Mem} {K : KE} {pos : Pos}
/-- an invariant's end -/
def LcEnd (X : Cx) (tg elt : Expr) (ifs : List Expr) (scope : Scope) (vs : List Nat) (n : Nm) (Z : List Ent → Mem → Prop) (ds : List PyData) (m1 : Mem) : Prop :=
  ∃ I : Nat → List Ent → Mem → Prop, I 0 [] m1 ∧ LcW X tg elt ifs scope vs n ds I ∧ ∀ acc m', I ds.length acc m' → Z acc m'
theorem lc_go {F : Hp} {σ : St} {H : Hp} {Z : List Ent → Mem → Prop} (hm : MOk X.K F m H) (hs : Slots X.K F σ n) (h : WI X tg iter n m (LcEnd X tg elt ifs scope vs n Z)) {Q : VK}
    (k : ∀ D H' F' m' acc xs, Z acc m' → MOk X.K F' m' H' → Step F m H F' m' H' → H' D = some (.lst xs) → Ents X.K F' xs acc → F' D = none → m' D = none → (H D = none ∨ m D ≠ none) → Q (.ref D) H') :
    tLc (wpI X tg iter) (tgB X scope tg) (ttB X scope ifs) (teB X scope elt) vs σ H Q := by
  refine (h F σ H hm hs).mono fun J H1 ⟨F1, m1, ds, ⟨I, i0, turn, fin⟩, hm1, st1, yl⟩ D hD => ?_
  have hs1 := hs.inc st1.fr
  have fD := hm1.freshF hD
  have mD := hm1.fresh hD
  have HD : H D = none ∨ m D ≠ none := by
    cases q : H D with
    | none => exact .inl rfl
    | some o =>
      refine .inr fun z => ?_
      rw [st1.st D o q z] at hD
      cases hD
  refine ⟨fun i mm H' => mm = ds.length - i ∧ i ≤ ds.length ∧ ∃ F' m' acc xs, I i acc m' ∧ MOk X.K F' m' H' ∧ Step F1 m1 H1 F' m' H' ∧ H' D = some (.lst xs) ∧ Ents X.K F' xs acc ∧ F' D = none ∧ m' D = none, ⟨_, rfl, Nat.zero_le _, F1, m1, [], [], i0, hm1.frame fD mD, ⟨fun _ _ z => z, fun a o e _ => by rw [upd_ne (ne_of_none e hD)]; exact e, fun _ e z => absurd e z, fun _ e z => absurd e z⟩, upd_same, .nil, fD, mD⟩, ?_⟩
  rintro i mm H' ⟨rfl, hi, F', m', acc, xs, inv, hm', st', hx, rx, fD', mD'⟩
  obtain ⟨y1, y2⟩ := yl F' m' H' hm' st' i
  by_cases hlt : i < ds.length
  · have hg := List.getElem?_eq_getElem hlt
    obtain ⟨go, y1⟩ := y1 ds[i] hg
    refine .inr ⟨go, fun H2 => ∃ F' m' acc xs, I (i + 1) acc m' ∧ MOk X.K F' m' H2 ∧ Step F1 m1 H1 F' m' H2 ∧ H2 D = some (.lst xs) ∧ Ents X.K F' xs acc ∧ F' D = none ∧ m' D = none, fun H2 q => ⟨_, by omega, rfl, hlt, q⟩, fun x H3 hy => ?_⟩
    obtain ⟨F3, rd, hm3, st3⟩ := y1 x H3 hy
    obtain ⟨hl, tgw⟩ := turn i ds[i] acc m' hg inv
    have hxn : H' D ≠ none := by rw [hx]; exact fun z => nomatch z
    have hx3 := st3.st D _ hx mD'
    obtain ⟨fD3, mD3⟩ := st3.off hxn fD' mD'
    intro s0 H0 C cl fp
    refine (tgw s0 H0 C cl fp F3 (wipe σ vs) H3 x hm3.sub rd (slots_wipe (hs1.inc (fun a o e => st3.fr a o (st'.fr a o e))) vs)).mono fun σ2 H2 ⟨e, tou, n2, w2, hs2⟩ => ?_
    subst e
    refine ⟨wipe_tou tou, ?_⟩
    have s3 := st'.trans st3
    have elem : ∀ F4 b H4 m4, (b = true → ∀ s0 H0 C cl fp, WE (Bk X scope s0 H0 C cl fp) elt n2 m4 fun r m3 => I (i + 1) (acc ++ [r]) m3) ∧ (b = false → I (i + 1) acc m4) → MOk X.K F4 m4 H4 → Step F3 m' H2 F4 m4 H4 → Slots X.K F4 σ2 n2 →
        if b = true then teB X scope elt σ2 H4 (fun y H5 => ∃ acc, H5 D = some (.lst acc) ∧ acc.length < sizeLine ∧ ∃ F' m' acc', ∃ xs, I (i + 1) acc' m' ∧ MOk X.K F' m' (upd H5 D (.lst (acc ++ [y]))) ∧ Step F1 m1 H1 F' m' (upd H5 D (.lst (acc ++ [y]))) ∧ (upd H5 D (.lst (acc ++ [y]))) D = some (.lst xs) ∧ Ents X.K F' xs acc' ∧ F' D = none ∧ m' D = none)
        else ∃ F' m' acc xs, I (i + 1) acc m' ∧ MOk X.K F' m' H4 ∧ Step F1 m1 H1 F' m' H4 ∧ H4 D = some (.lst xs) ∧ Ents X.K F' xs acc ∧ F' D = none ∧ m' D = none := by
      intro F4 b H4 m4 hb hm4 st4 hs4
      have hx3n : H2 D ≠ none := by rw [hx3]; exact fun z => nomatch z
      have hx4 := st4.st D _ hx3 mD3
      obtain ⟨fD4, mD4⟩ := st4.off hx3n fD3 mD3
      have s4 := s3.trans st4
      cases b with
      | false => exact iteF ⟨F4, m4, acc, xs, hb.2 rfl, hm4, s4, hx4, rx.inc (fun a o e => st4.fr a o (st3.fr a o e)), fD4, mD4⟩
      | true =>
        refine iteT fun s0 H0 C cl fp => ?_
        refine (hb.1 rfl s0 H0 C cl fp F4 σ2 H4 hm4 hs4).mono fun y H5 ⟨F5, r, m5, k5, ok5, hm5, st5⟩ => ?_
        have hx4n : H4 D ≠ none := by rw [hx4]; exact fun z => nomatch z
        have hx5 := st5.st D _ hx4 mD4
        obtain ⟨fD5, mD5⟩ := st5.off hx4n fD4 mD4
        have s5 := s4.trans st5
        have rx5 := rx.inc (F' := F5) (fun a o e => st5.fr a o (st4.fr a o (st3.fr a o e)))
        refine ⟨xs, hx5, by rw [Paired.length rx, sizeLine_eq]; exact hl, F5, m5, acc ++ [r], xs ++ [y], k5, hm5.frame fD5 mD5, ?_, upd_same, Paired.snoc rx5 ok5, fD5, mD5⟩
        refine ⟨s5.fr, fun a o e hma => ?_, s5.nf, s5.nm⟩
        rw [upd_ne (ne_of_none e hD)]
        exact s5.st a o e hma
    match ifs, w2 with
    | [], w2 =>
      exact elem F3 true H2 m' (w2 s0 H0 C cl fp) hm3 .refl hs2
    | [c], w2 =>
      intro s0 H0 C cl fp
      have w3 : WT (Bk X scope s0 H0 C cl fp) c n2 m' _ := w2 s0 H0 C cl fp
      exact w3.go hm3 hs2 fun F4 b H4 m4 hb hm4 st4 hs4 => elem F4 b H4 m4 hb hm4 st4 hs4
    | _ :: _ :: _, w2 => exact (w2 s0 H0 C cl fp).elim
  · have e : i = ds.length := by omega
    subst e
    exact .inl ⟨y2 (Nat.le_refl _), k D H' F' m' acc xs (fin acc m' inv) hm' (st1.trans st') hx rx fD' mD' HD⟩
theorem lc_data {F : Hp} {H : Hp} {D : Addr} {H' F' : Hp} {m' : Mem} {ds : List PyData} {xs : List V} (k : K (.d (.list ds)) m') (hm' : MOk X.K F' m' H') (st' : Step F m H F' m' H') (hx : H' D = some (.lst xs)) (rx : Ents X.K F' xs (ds.map .d)) (fD : F' D = none) (mD : m' D = none) (hD : H D = none ∨ m D ≠ none) :
    PostE X F m H K (.ref D) H' := by
  have inc : Inc F' (upd F' D (.lst xs)) := Inc.upd fD
  refine ⟨upd F' D (.lst xs), _, m', k, .lst (.inl (.inl upd_same)) ((RpAll.of_ents rx).inc inc), ⟨fun a o e => ?_, fun a o e => ?_, fun a o e => XOk.inc inc (fun _ z => z) (hm'.obj a o e)⟩, ⟨fun a o e => inc a o (st'.fr a o e), st'.st, fun a e z => ?_, st'.nm⟩⟩
  · by_cases ha : a = D
    · subst ha; rw [upd_same] at e; cases e; exact hx
    · rw [upd_ne ha] at e; exact hm'.sub a o e
  · have ha : a ≠ D := fun q => by rw [q, mD] at e; cases e
    rw [upd_ne ha]
    exact hm'.out a o e
  · by_cases ha : a = D
    · subst ha; exact hD
    · rw [upd_ne ha] at z; exact st'.nf a e z
theorem lc_mem {F : Hp} {H : Hp} {D : Addr} {H' F' : Hp} {m' : Mem} {es : List Ent} {xs : List V} (k : K (.x D) (m'.put D (.lst es))) (hm' : MOk X.K F' m' H') (st' : Step F m H F' m' H') (hx : H' D = some (.lst xs)) (rx : Ents X.K F' xs es) (fD : F' D = none) (mD : m' D = none) (hD : H D = none ∨ m D ≠ none) :
    PostE X F m H K (.ref D) H' := by
  refine ⟨F', .x D, _, k, rfl, ⟨hm'.sub, fun a o e => ?_, fun a o e => ?_⟩, ⟨st'.fr, st'.st, st'.nf, fun a e z => ?_⟩⟩
  · by_cases ha : a = D
    · subst ha; exact fD
    · rw [Mem.put_ne ha] at e; exact hm'.out a o e
  · by_cases ha : a = D
    · subst ha; rw [Mem.put_same] at e; cases e; exact ⟨xs, hx, rx⟩
    · rw [Mem.put_ne ha] at e; exact hm'.obj a o e
  · by_cases ha : a = D
    · subst ha
      rcases hD with q | q
      · exact q
      · exact absurd e q
    · rw [Mem.put_ne ha] at z; exact st'.nm a e z
/-- [e for ..], data -/
theorem we_lcD (own : List (Str × Nat)) (hc : X.calm = true) (hN : X.N.Nodup) (ok : BlkOk X.N X.env.scope scope own)
    (h : WI X tg iter n m (LcEnd X tg elt ifs scope (own.map (·.2)) n fun acc m' => ∃ ds, acc = ds.map .d ∧ K (.d (.list ds)) m')) (hf : ∀ x, foldedSetIterable iter X.env x = pure x := by intro _; rfl) : WE X (.ListComp elt [⟨tg, iter, ifs, 0⟩] scope pos) n m K := fun F σ H hm hs =>
  wpE.of (pe_lc hc hN pi_wp ok (g := tgB X scope tg) (tt := ttB X scope ifs) (te := teB X scope elt) (fun s0 H0 C cl fp => ⟨fun pins s _ _ _ u _ I r q => q s0 H0 C cl fp pins s u I r⟩) (fun s0 H0 C cl fp => pts_B s0 H0 C cl fp) (fun s0 H0 C cl fp => ⟨fun pins s _ _ _ I q => q s0 H0 C cl fp pins s I⟩) hf)
    (lc_go hm hs h fun D H' F' m' acc xs ⟨ds, e, k⟩ hm' st' hx rx fD mD hD => by
      subst e
      exact lc_data k hm' st' hx rx fD mD hD)
/-- [e for ..], a list that may change -/
theorem we_lcX (own : List (Str × Nat)) (hc : X.calm = true) (hN : X.N.Nodup) (ok : BlkOk X.N X.env.scope scope own)
    (h : WI X tg iter n m (LcEnd X tg elt ifs scope (own.map (·.2)) n fun acc m' => ∀ p, m' p = none → K (.x p) (m'.put p (.lst acc)))) (hf : ∀ x, foldedSetIterable iter X.env x = pure x := by intro _; rfl) : WE X (.ListComp elt [⟨tg, iter, ifs, 0⟩] scope pos) n m K := fun F σ H hm hs =>
  wpE.of (pe_lc hc hN pi_wp ok (g := tgB X scope tg) (tt := ttB X scope ifs) (te := teB X scope elt) (fun s0 H0 C cl fp => ⟨fun pins s _ _ _ u _ I r q => q s0 H0 C cl fp pins s u I r⟩) (fun s0 H0 C cl fp => pts_B s0 H0 C cl fp) (fun s0 H0 C cl fp => ⟨fun pins s _ _ _ I q => q s0 H0 C cl fp pins s I⟩) hf)
    (lc_go hm hs h fun D H' F' m' acc xs k hm' st' hx rx fD mD hD => lc_mem (k D mD) hm' st' hx rx fD mD hD)
/-- name = [e for ..] on one line -/
theorem ws_lcD {y : Str} {py spos : Pos} (own : List (Str × Nat)) (i : Nat) (hc : X.calm = true) (hN : X.N.Nodup) (hy : X.N[i]? = some y) (hyl : X.env.scope.names.lookup y = some .local) (ok : BlkOk X.N X.env.scope scope own)
    (hsw : swapsWith (.ListComp elt [⟨tg, iter, ifs, 0⟩] scope pos) (some (.Name y py)) spos.line X.env = pure true) {P : KS}
    (h : WI X tg iter n m (LcEnd X tg elt ifs scope (own.map (·.2)) n fun acc m' => ∃ ds, acc = ds.map .d ∧ P (.nx (n.set i (some (.d (.list ds)))) m'))) (hf : ∀ x, foldedSetIterable iter X.env x = pure x := by intro _; rfl) : WS X (.Assign [.Name y py] (.ListComp elt [⟨tg, iter, ifs, 0⟩] scope pos) spos) n m P := fun F σ H hm hs =>
  wpS.of (ps_setLc hc hN hy hyl hsw pi_wp ok (g := tgB X scope tg) (tt := ttB X scope ifs) (te := teB X scope elt) (fun s0 H0 C cl fp => ⟨fun pins s _ _ _ u _ I r q => q s0 H0 C cl fp pins s u I r⟩) (fun s0 H0 C cl fp => pts_B s0 H0 C cl fp) (fun s0 H0 C cl fp => ⟨fun pins s _ _ _ I q => q s0 H0 C cl fp pins s I⟩) hf)
    (lc_go hm hs h fun D H' F' m' acc xs ⟨ds, e, k⟩ hm' st' hx rx fD mD hD => by
      subst e
      obtain ⟨F2, r, m2, ⟨rfl, rfl⟩, ok2, hm2, st2⟩ := lc_data (K := fun r m2 => r = .d (.list ds) ∧ m2 = m') ⟨rfl, rfl⟩ hm' st' hx rx fD mD hD
      exact (show PostN X F m H _ (σ.set i (some (.ref D))) H' from ⟨F2, _, m2, k, (hs.inc st2.fr).set ok2, hm2, st2⟩))
theorem ws_lcX {y : Str} {py spos : Pos} (own : List (Str × Nat)) (i : Nat) (hc : X.calm = true) (hN : X.N.Nodup) (hy : X.N[i]? = some y) (hyl : X.env.scope.names.lookup y = some .local) (ok : BlkOk X.N X.env.scope scope own)
    (hsw : swapsWith (.ListComp elt [⟨tg, iter, ifs, 0⟩] scope pos) (some (.Name y py)) spos.line X.env = pure true) {P : KS}
    (h : WI X tg iter n m (LcEnd X tg elt ifs scope (own.map (·.2)) n fun acc m' => ∀ p, m' p = none → P (.nx (n.set i (some (.x p))) (m'.put p (.lst acc))))) (hf : ∀ x, foldedSetIterable iter X.env x = pure x := by intro _; rfl) : WS X (.Assign [.Name y py] (.ListComp elt [⟨tg, iter, ifs, 0⟩] scope pos) spos) n m P := fun F σ H hm hs =>
  wpS.of (ps_setLc hc hN hy hyl hsw pi_wp ok (g := tgB X scope tg) (tt := ttB X scope ifs) (te := teB X scope elt) (fun s0 H0 C cl fp => ⟨fun pins s _ _ _ u _ I r q => q s0 H0 C cl fp pins s u I r⟩) (fun s0 H0 C cl fp => pts_B s0 H0 C cl fp) (fun s0 H0 C cl fp => ⟨fun pins s _ _ _ I q => q s0 H0 C cl fp pins s I⟩) hf)
    (lc_go hm hs h fun D H' F' m' acc xs k hm' st' hx rx fD mD hD => by
      obtain ⟨F2, r, m2, ⟨rfl, rfl⟩, ok2, hm2, st2⟩ := lc_mem (K := fun r m2 => r = .x D ∧ m2 = m'.put D (.lst acc)) ⟨rfl, rfl⟩ hm' st' hx rx fD mD hD
      exact (show PostN X F m H _ (σ.set i (some (.ref D))) H' from ⟨F2, _, _, k D mD, (hs.inc st2.fr).set ok2, hm2, st2⟩))
end

/-! ### defs -/
/-- what a def promises: the arguments by i, what is needed of the memory, what is told behind; what it raises: the class, the fields, the memory -/
structure Prm where
  I : Type
  args : I → List Ent
  pre : I → Mem → Prop
  post : I → Mem → Ent → Mem → Prop
def spW (K : PySem.W.Frag) (S : Prm) : Sp := fun vs H Q _ => ∃ (i : S.I) (F : Hp) (m : Mem), Ents K F vs (S.args i) ∧ MOk K F m H ∧ S.pre i m ∧
  ∀ F' r m' v H', S.post i m r m' → EntOk K F' v r → MOk K F' m' H' → Step F m H F' m' H' → Q v H'
/-- the def at f keeps the promise; as FnOk, where nothing but the frames is under way -/
structure FnG (P : Program) (w : World) (K : PySem.W.Frag) (mg : Str → Option Value) (base : Heap) (k : Nat) (f : Addr) (fd : FuncData) (ps : List Str) (sp : Sp) : Prop where
  len : ∀ vs H Q E, sp vs H Q E → vs.length = ps.length
  run : ∀ (A : Around) (outer : List Env) (s : Shared) (H : Hp) (args : Args) (us : List Value) (vs : List V) (Q : VK) (E : XK), Room k A → A.guards = some [] → Env0 P w K mg base A outer s H → BindsTo s fd args (ps.zip us) → Vals vs us → sp vs H Q E →
    codeAny (model P w) A (.call (.ref f) args) (CR (CX P w) outer P w H s Q E) s
/-- a def by its name -/
def Av (P : Program) (w : World) (K : PySem.W.Frag) (mg : Str → Option Value) (base : Heap) (k : Nat) (x : Str) (ps : List Str) (S : Prm) : Prop :=
  ∃ f fd, FnG P w K mg base k f fd ps (spW K S) ∧ mg x = some (.ref f) ∧ PySem.W.keepIn K (.ref f) = true ∧ Binds K fd ps []
/-- what a body's rules lean on -/
structure XC (X : Cx) (k : Nat) : Prop where
  calm : X.calm = true
  nd : X.N.Nodup
  room : Room k X.A
  guards : X.A.guards = some []
  pass : PassesOwn (model X.prog X.w) X.A X.env X.xe
theorem XC.blk {k : Nat} (c : XC X k) {scope : Scope} {s : Shared} {H : Hp} {C : Addr} {cl : List (Str × Addr)} {fp : List Addr} : XC (Bk X scope s H C cl fp) k := ⟨c.calm, c.nd, c.room, c.guards, PassesOwn.never⟩
section
variable {X : Cx} {k k' : Nat} {x : Str} {p pos : Pos} {e : Expr} {es : List Expr} {n : Nm} {m : Mem} {K : KE} {S : Prm} {ps : List Str}
theorem run_G {f : Addr} {fd : FuncData} {pins : List (Addr × Obj)} {σ : St} {F H : Hp} {s : Shared} {us : List Value} {vs : List V} {rs : List Ent} (G : FnG X.prog X.w X.K X.mg X.base k' f fd ps (spW X.K S)) (c : XC X k) (hk : k' ≤ k) (hb : Binds X.K fd ps []) (I : Inv X pins σ H s) (r : Vals vs us)
    (hm : MOk X.K F m H) (hr : Ents X.K F vs rs) (h : ∃ i, rs = S.args i ∧ S.pre i m ∧ ∀ r m', S.post i m r m' → K r m') : wpAny (model X.prog X.w) X.A (call (.ref f) us) (EP X pins σ (PostE X F m H K)) X.xe s := by
  obtain ⟨i, rfl, pre, post⟩ := h
  have sp : spW X.K S vs H (PostE X F m H K) E0 := ⟨i, F, m, hr, hm, pre, fun F' r m' v H' q ok hm' st => ⟨F', r, m', post r m' q, ok, hm', st⟩⟩
  have hl : us.length = ps.length := by rw [← r.length]; exact G.len _ _ _ _ sp
  have bt := hb s us I.kIn (by rw [List.append_nil]; exact hl)
  rw [List.append_nil] at bt
  refine wpAny_call (codeAny_mono (G.run X.A X.stack s H ⟨us, []⟩ us vs _ E0 (c.room.mono hk) c.guards I.env0 bt r sp) fun r s' hq => ?_)
  match r, hq with
  | .error e, hq => exact passL pins σ H s e s' I hq
  | .ok (.ret u), hq => exact I.after hq
theorem we_call (c : XC X k) (av : Av X.prog X.w X.K X.mg X.base k' x ps S) (hk : k' ≤ k) (hg : Gl X x) (h : WA X (e :: es) n m fun rs m1 => ∃ i, rs = S.args i ∧ S.pre i m1 ∧ ∀ r m', S.post i m1 r m' → K r m')
    (hdb : (x == ("__debug__" : Str)) = false := by decide) (he : starEach (e :: es) X.env = (false, eval e X.env) :: starEach es X.env := by rfl) (hpl : (backTo pos (starEach es X.env)).any (·.1) = false := by rfl) : WE X (.Call (.Name x p) (e :: es) [] pos) n m K := fun F σ H hm hs pins s I => by
  obtain ⟨f, fd, G, hmg, hkp, hb⟩ := av
  refine wpAny_Call_Name_kw (ld_glob I hg hmg ?_ hdb)
  refine PySem.W.callWith_K (h₀ := X.base) I.ok.mod.kin hkp (thn (h F σ H hm hs pos pins s I) fun us s1 ⟨vs, H1, I1, r, F1, rs, m1, k1, ok1, hm1, st1⟩ => ⟨I1.kIn, ?_⟩) he hpl
  exact thn (run_G (K := K) G c hk hb I1 r hm1 ok1 k1) fun u s2 ⟨v, H2, I2, r2, q⟩ => ⟨v, H2, I2, r2, PostE.after st1 q⟩
theorem we_call0 (c : XC X k) (av : Av X.prog X.w X.K X.mg X.base k' x ps S) (hk : k' ≤ k) (hg : Gl X x) (h : ∃ i, [] = S.args i ∧ S.pre i m ∧ ∀ r m', S.post i m r m' → K r m')
    (hdb : (x == ("__debug__" : Str)) = false := by decide) : WE X (.Call (.Name x p) [] [] pos) n m K := fun F σ H hm hs pins s I => by
  obtain ⟨f, fd, G, hmg, hkp, hb⟩ := av
  refine wpAny_Call_Name_kw (ld_glob I hg hmg ?_ hdb)
  exact PySem.W.callWith_K0 I.kIn hkp (run_G (us := []) (vs := []) (K := K) G c hk hb I .nil hm .nil h)
end
/-- the names at a def's entry -/
def startN (k : Nat) (rs : List Ent) : Nm := rs.map some ++ List.replicate (k - rs.length) none
theorem ents_get {K : PySem.W.Frag} {F : Hp} : ∀ {vs : List V} {rs : List Ent} {i : Nat} {r : Ent}, Ents K F vs rs → rs[i]? = some r → ∃ v, vs[i]? = some v ∧ EntOk K F v r
  | _, _, _, _, .nil, e => by simp at e
  | _, _, 0, _, .cons q _, e => by simp at e; subst e; exact ⟨_, rfl, q⟩
  | _, _, i + 1, r, .cons _ t, e => by
    obtain ⟨v, h1, h2⟩ := ents_get (i := i) (r := r) t (by simpa using e)
    exact ⟨v, by simpa using h1, h2⟩
theorem slots_start {K : PySem.W.Frag} {F : Hp} {N : List Str} {vs : List V} {rs : List Ent} (h : Ents K F vs rs) : Slots K F (L2.start N vs) (startN N.length rs) := by
  have hl := Paired.length h
  refine ⟨?_, fun i r e => ?_⟩
  · unfold L2.start startN
    simp only [List.length_append, List.length_map, List.length_replicate, hl]
  · unfold startN at e
    by_cases hi : i < rs.length
    · rw [List.getElem?_append_left (by simpa using hi), List.getElem?_map] at e
      cases q : rs[i]? with
      | none => rw [q] at e; cases e
      | some u =>
        rw [q] at e
        cases e
        obtain ⟨v, h1, h2⟩ := ents_get h q
        refine ⟨v, ?_, h2⟩
        unfold L2.start
        rw [List.getElem?_append_left (by rw [List.length_map, hl]; exact hi), List.getElem?_map, h1]
        rfl
    · rw [List.getElem?_append_right (by simpa using hi), List.getElem?_replicate] at e
      split at e <;> cases e
/-- a body's context -/
abbrev BX (P : Program) (w : World) (K : PySem.W.Frag) (mg : Str → Option Value) (base : Heap) (N : List Str) (qual : Str) (st : Stmt) (f : Addr) (cdv : Value) (A : Around) (outer : List Env) (s : Shared) (H : Hp) (E : XK) : Cx :=
  (cxOf (CX P w) P w K mg base N qual (defScope st) f cdv A outer s H E).nox
/-- a body's end, by the promise -/
def retP (S : Prm) (i : S.I) (m : Mem) : KS := fun o => match o with
  | .rt r m' => ∃ m2, Mem.Sub m2 m' ∧ S.post i m r m2
  | .nx _ m' => ∃ m2, Mem.Sub m2 m' ∧ S.post i m (.d .none) m2
  | _ => False
section
variable {P : Program} {w : World} {K : PySem.W.Frag} {mg : Str → Option Value} {base : Heap}
/-- THE RULE for a def that raises nothing -/
theorem fn_G {x qual : Str} {st : Stmt} {f : Addr} {fd : FuncData} {N ps : List Str} {k : Nat} {S : Prm} (Fn : Fun K x qual st f fd) (sc : FnScope N ps (defScope st)) (len : ∀ i, (S.args i).length = ps.length)
    (hbody : ∀ (cdv : Value) (A : Around) (outer : List Env) (s : Shared) (H : Hp) (E : XK), XC (BX P w K mg base N qual st f cdv A outer s H E) k → ∀ (i : S.I) (m : Mem), S.pre i m → WB (BX P w K mg base N qual st f cdv A outer s H E) (defBody st) (startN N.length (S.args i)) m (retP S i m)) : FnG P w K mg base (k + 1) f fd ps (spW K S) := by
  obtain ⟨oc, od, kV, doc, pm, an, cdv, ct, osl, rfl, lk, hcd⟩ := Fn.ex
  have hlen : ∀ vs H Q E, spW K S vs H Q E → vs.length = ps.length := fun vs H Q E ⟨i, F, m, h, _⟩ => by rw [Paired.length h]; exact len i
  refine ⟨hlen, fun A outer s H args us vs Q E hr hg e0 hb r hsp => ?_⟩
  have KX : K.In s.heap := e0.mod.kin.keeps fun b o e => (e0.bs b o e).1
  have lim : s.heap.NoLimit := e0.mod.nolimit.keeps fun b o e => (e0.bs b o e).1
  refine codeAny_call_function hr.depth (KX _ _ lk) rfl sc.co sc.gen rfl (PySem.W.codeRec_of KX hcd) (hb _ _ _ _ (wpAny_newFunctionEnv_cells sc.kind (fun ⟨y, v⟩ hy => ?_) fun env he s1 x => ?_))
  · rcases sc.par y (List.of_mem_zip hy).1 with q | q
    · exact .inl q
    · exact .inr ⟨q, PySem.W.cellsFrom_some _ _ _ (.inl q)⟩
  · subst he
    refine ⟨lim.keeps x.toInCall.keep, codeAny_func ?_⟩
    obtain ⟨i, F, m, hA, hm, pre, post⟩ := hsp
    have I : Inv (cxOf (CX P w) P w K mg base N qual (defScope st) f cdv A outer s H E) [] (L2.start N vs) H s1 := inv_start sc hr.hd e0 (by rw [Paired.length hA]; exact len i) r x
    have body := hbody cdv A outer s H E ⟨rfl, sc.nd, hr.deeper _, hg, PassesOwn.never⟩ i m pre F (L2.start N vs) H hm (slots_start hA) [] s1 (I.wish _)
    refine wpAny_mono body (fun fl s' hs => ?_) fun _ _ z => z.elim
    have fin : ∀ {σ' : St} {H' : Hp} {v : V} {u : Value} {F' : Hp} {r : Ent} {m' : Mem}, Inv (cxOf (CX P w) P w K mg base N qual (defScope st) f cdv A outer s H E).nox [] σ' H' s' → RelV v u → (∃ m2, Mem.Sub m2 m' ∧ S.post i m r m2) → EntOk K F' v r → MOk K F' m' H' → Step F m H F' m' H' → CE outer P w H s Q u s' :=
      fun {σ' H' v u F' r m'} J rv ⟨m2, sub, q⟩ ok hm' st => ⟨v, H', J.os, J.bare, J.unwish.base, J.hok, rv, post F' r m2 v H' q ok (hm'.less sub) (st.trans (Step.sub sub))⟩
    match fl, hs with
    | .ret u, ⟨v, σ', H', J, rv, F', r, m', q, ok, hm', st⟩ => exact fin J rv q ok hm' st
    | .next, ⟨σ', H', J, F', n', m', q, hs', hm', st⟩ => exact fin (v := .non) (u := Value.none) J rfl q Rp.non hm' st
    | .brk, ⟨_, _, _, _, _, _, q, _⟩ => exact q.elim
    | .cont, ⟨_, _, _, _, _, _, q, _⟩ => exact q.elim
end
end Z

/-! Z5: operators, subscripts, what is built in. -/
namespace Z
open PySem PySem.Spec L2
set_option linter.all false
section
variable {X : Cx} {e o a b : Expr} {es : List Expr} {n : Nm} {m : Mem} {K : KE} {pos : Pos} {x y : Ent}
/-! ### whole numbers -/
theorem r2_I {C : Int → Int → Prop} {g : Int → Int → Int} {i j : Int} (hc : C i j) (k : K (.d (.int (g i j))) m) : R2W X (rI C fun i j => .int (g i j)) (.d (.int i)) (.d (.int j)) m K := fun F H v u hm h1 h2 Q q =>
  ⟨i, j, h1.int, h2.int, hc, q _ _ (PostE.here k (Rp.int _) hm)⟩
theorem r2_I0 {g : Int → Int → Int} {i j : Int} (k : K (.d (.int (g i j))) m) : R2W X (rI0 fun i j => .int (g i j)) (.d (.int i)) (.d (.int j)) m K := fun F H v u hm h1 h2 Q q =>
  ⟨i, j, h1.int, h2.int, q _ _ (PostE.here k (Rp.int _) hm)⟩
theorem r2_B0 {g : Int → Int → Bool} {i j : Int} (k : K (.d (.bool (g i j))) m) : R2W X (rI0 fun i j => .bl (g i j)) (.d (.int i)) (.d (.int j)) m K := fun F H v u hm h1 h2 Q q =>
  ⟨i, j, h1.int, h2.int, q _ _ (PostE.here k (Rp.bl _) hm)⟩
/-! ### + -/
def rCatS (K : PySem.W.Frag) : R2 := fun x y H Q => ∃ l b xs zs, x = .ref l ∧ y = .ref b ∧ SqL K H l xs ∧ SqL K H b zs ∧ xs.length + zs.length ≤ sizeLine ∧ ∀ p, H p = none → Q (.ref p) (upd H p (.lst (xs ++ zs)))
theorem op_catS : OpR X (binaryOp .Add) (rCatS X.K) := by
  intro pins s σ H x y v u Q I rx ry ⟨l, b, xs, zs, ex, ey, hl, hb, hz, q⟩
  subst ex ey
  cases rx
  cases ry
  obtain ⟨i1, r1, p1, z1⟩ := I.list hl
  obtain ⟨i2, r2, p2, z2⟩ := I.list hb
  obtain ⟨⟨c1, d1, t1, s1⟩, o1, k1, n1, e1⟩ := p1.isList
  obtain ⟨⟨c2, d2, t2, s2⟩, o2, k2, n2, e2⟩ := p2.isList
  simp only at k1 e1 k2 e2
  subst k1 e1 k2 e2
  have len1 := r1.length
  have len2 := r2.length
  refine concat_meets ⟨_, o1, rfl⟩ ⟨_, o2, rfl⟩ noFill_list_add seq_list_add PySem.F.slot_list_add PySem.F.entry_list_add (PySem.F.args_list_add_2 _ _) (PyProof.Rows.list_addW l b i1.toArray i2.toArray n1 n2 d1 d2 s1 s2 ?_) ⟨o1, o2, ?_⟩
  · rw [List.size_toArray, List.size_toArray]; omega
  · rw [List.append_toArray]
    exact ⟨.ref _, _, I.lnew (t' := s.toks) (r1.append r2) (by rw [List.length_append]; omega), rfl, q _ I.fresh⟩
def rAddStr : R2 := fun x y H Q => ∃ i j, x = .str i ∧ y = .str j ∧ i.length + j.length ≤ sizeLine ∧ Q (.str (i ++ j)) H
def rAddZ (K : PySem.W.Frag) : R2 := fun x y H Q => rI0 (fun i j => .int (i + j)) x y H Q ∨ rAddStr x y H Q ∨ rCatS K x y H Q ∨ rCatA K x y H Q
theorem op_addZ : OpR X (binaryOp .Add) (rAddZ X.K) := op_add.or (OpR.or (r := rAddStr) op_add_str (op_catS.or op_catA))
theorem add_I {i j : Int} (k : K (.d (.int (i + j))) m) : R2W X (rAddZ X.K) (.d (.int i)) (.d (.int j)) m K := fun F H v u hm h1 h2 Q q =>
  .inl ⟨i, j, h1.int, h2.int, q _ _ (PostE.here k (Rp.int _) hm)⟩
theorem add_S {i j : Str} (hl : i.length + j.length ≤ 16777216) (k : K (.d (.str (i ++ j))) m) : R2W X (rAddZ X.K) (.d (.str i)) (.d (.str j)) m K := fun F H v u hm h1 h2 Q q =>
  .inr (.inl ⟨i, j, h1.str, h2.str, by rw [sizeLine_eq]; exact hl, q _ _ (PostE.here k (Rp.str _) hm)⟩)
theorem RpAll.append {K : PySem.W.Frag} {F : Hp} : ∀ {xs ys : List V} {ds es : List PyData}, RpAll K F xs ds → RpAll K F ys es → RpAll K F (xs ++ ys) (ds ++ es)
  | _, _, _, _, .nil, s => s
  | _, _, _, _, .cons r t, s => .cons r (RpAll.append t s)
theorem add_L {ds es : List PyData} (hx : Dat m x (.list ds)) (hy : Dat m y (.list es)) (hl : ds.length + es.length ≤ 16777216) (k : K (.d (.list (ds ++ es))) m) : R2W X (rAddZ X.K) x y m K := fun F H v u hm h1 h2 Q q => by
  obtain ⟨p1, xs, rfl, s1, r1⟩ := hx.sqL hm h1
  obtain ⟨p2, ys, rfl, s2, r2⟩ := hy.sqL hm h2
  exact .inr (.inr (.inl ⟨p1, p2, xs, ys, rfl, rfl, s1, s2, by rw [r1.length, r2.length, sizeLine_eq]; exact hl, fun p hp => q _ _ (post_L hm hp (r1.append r2) k)⟩))
/-- .. a list that may change -/
theorem add_LX {ds es : List PyData} (hx : Dat m x (.list ds)) (hy : Dat m y (.list es)) (hl : ds.length + es.length ≤ 16777216) (k : ∀ p, m p = none → K (.x p) (m.put p (.lst (List.map .d (ds ++ es))))) : R2W X (rAddZ X.K) x y m K := fun F H v u hm h1 h2 Q q => by
  obtain ⟨p1, xs, rfl, s1, r1⟩ := hx.sqL hm h1
  obtain ⟨p2, ys, rfl, s2, r2⟩ := hy.sqL hm h2
  exact .inr (.inr (.inl ⟨p1, p2, xs, ys, rfl, rfl, s1, s2, by rw [r1.length, r2.length, sizeLine_eq]; exact hl, fun p hp => q _ _ (post_X hm hp (r1.append r2).ents k)⟩))
theorem add_T {ds es : List PyData} (hl : ds.length + es.length ≤ 16777216) (k : K (.d (.tuple (ds ++ es))) m) : R2W X (rAddZ X.K) (.d (.tuple ds)) (.d (.tuple es)) m K := fun F H v u hm h1 h2 Q q => by
  obtain ⟨p1, xs, rfl, s1, r1⟩ := dat_sqT hm h1
  obtain ⟨p2, ys, rfl, s2, r2⟩ := dat_sqT hm h2
  refine .inr (.inr (.inr ⟨p1, p2, xs, ys, rfl, rfl, s1, s2, by rw [r1.length, r2.length, sizeLine_eq]; exact hl, fun e => ?_, fun _ e => ?_, fun _ _ p hp => q _ _ (post_T hm hp (r1.append r2) k)⟩))
  · subst e
    cases r1
    exact q _ _ (PostE.here k h2 hm)
  · subst e
    cases r2
    rw [List.append_nil] at k
    exact q _ _ (PostE.here k h1 hm)

theorem we_neg {i0 : Unit} (h : WE X a n m fun x m1 => ∃ i, x = .d (.int i) ∧ K (.d (.int (-i))) m1) : WE X (.UnaryOp .USub a pos) n m K := fun F σ H hm hs =>
  wpE.of (pe_un un_neg pe_wp) (h.go hm hs fun F1 v H1 x m1 ⟨i, ex, k⟩ ok hm1 st1 hs1 => by
    subst ex
    exact ⟨i, ok.int, PostE.after st1 (PostE.here k (Rp.int _) hm1)⟩)
def rIsN0 : R2 := fun x y H Q => y = .non ∧ Q (.bl (decide (x = .non))) H
def rNotN0 : R2 := fun x y H Q => y = .non ∧ Q (.bl (!decide (x = .non))) H
theorem op_isN0 : OpR X (compareOp .Is) rIsN0 := op_isN
theorem op_notN0 : OpR X (compareOp .IsNot) rNotN0 := op_notN
def isNone : Ent → Bool
  | .d .none => true
  | .v .non => true
  | _ => false
theorem isNone_ok {K : PySem.W.Frag} {F : Hp} {v : V} {r : Ent} (h : EntOk K F v r) : decide (v = .non) = isNone r := by
  cases r with
  | d d =>
    cases d with
    | none => rw [h.non]; rfl
    | bool b => rw [h.bl]; rfl
    | int b => rw [h.int]; rfl
    | str b => rw [h.str]; rfl
    | list xs => cases h; rfl
    | tuple xs => cases h; rfl
    | dict xs => cases h; rfl
  | x a => have e : v = .ref a := h; rw [e]; rfl
  | v u =>
    have e : v = u := h
    subst e
    cases v <;> rfl
theorem is_N (k : K (.d (.bool (isNone x))) m) : R2W X rIsN0 x (.d .none) m K := fun F H v u hm h1 h2 Q q => ⟨h2.non, by rw [isNone_ok h1]; exact q _ _ (PostE.here k (Rp.bl _) hm)⟩
theorem not_N (k : K (.d (.bool (!isNone x))) m) : R2W X rNotN0 x (.d .none) m K := fun F H v u hm h1 h2 Q q => ⟨h2.non, by rw [isNone_ok h1]; exact q _ _ (PostE.here k (Rp.bl _) hm)⟩

/-! ### == != of data -/
theorem eq_D {d d' : PyData} (hx : Dat m x d) (hy : Dat m y d') (s1 : SeqAt.shaped d = true) (s2 : SeqAt.shaped d' = true) (n1 : nodict d = true) (n2 : nodict d' = true) (k : K (.d (.bool (PyData.eqv d d'))) m) : R2W X (rEqD X.K) x y m K := fun F H v u hm h1 h2 Q q =>
  ⟨d, d', hx.dp hm h1 n1, hy.dp hm h2 n2, s1, s2, q _ _ (PostE.here k (Rp.bl _) hm)⟩
theorem ne_D {d d' : PyData} (hx : Dat m x d) (hy : Dat m y d') (s1 : SeqAt.shaped d = true) (s2 : SeqAt.shaped d' = true) (n1 : nodict d = true) (n2 : nodict d' = true) (k : K (.d (.bool (!PyData.eqv d d'))) m) : R2W X (rNeD X.K) x y m K := fun F H v u hm h1 h2 Q q =>
  ⟨d, d', hx.dp hm h1 n1, hy.dp hm h2 n2, s1, s2, q _ _ (PostE.here k (Rp.bl _) hm)⟩
theorem eqv_int (i j : Int) : PyData.eqv (.int i) (.int j) = decide (i = j) := by rw [PyData.eqv]; exact Bool.beq_eq_decide_eq i j
theorem eqv_str (i j : Str) : PyData.eqv (.str i) (.str j) = decide (i = j) := by rw [PyData.eqv]; exact Bool.beq_eq_decide_eq i j
theorem eqv_bl (i j : Bool) : PyData.eqv (.bool i) (.bool j) = decide (i = j) := by rw [PyData.eqv]; exact Bool.beq_eq_decide_eq i j
theorem sh_int (i : Int) : SeqAt.shaped (.int i) = true := by simp [SeqAt.shaped, PyData.canLay0, PyData.depth]
theorem eq_I {i j : Int} (k : K (.d (.bool (decide (i = j)))) m) : R2W X (rEqD X.K) (.d (.int i)) (.d (.int j)) m K := eq_D .d .d (sh_int i) (sh_int j) rfl rfl (by rw [eqv_int]; exact k)
theorem ne_I {i j : Int} (k : K (.d (.bool (!decide (i = j)))) m) : R2W X (rNeD X.K) (.d (.int i)) (.d (.int j)) m K := ne_D .d .d (sh_int i) (sh_int j) rfl rfl (by rw [eqv_int]; exact k)
/-- of numbers, texts, bools, None: by the scalar rule -/
def sV : PyData → Option V
  | .none => some .non
  | .bool b => some (.bl b)
  | .int i => some (.int i)
  | .str x => some (.str x)
  | _ => none
theorem sV_ok {K : PySem.W.Frag} {F : Hp} {v u : V} {d : PyData} (h : EntOk K F v (.d d)) (e : sV d = some u) : v = u := by
  cases d with
  | none => cases h; cases e; rfl
  | bool b => cases h; cases e; rfl
  | int b => cases h; cases e; rfl
  | str b => cases h; cases e; rfl
  | list xs => cases e
  | tuple xs => cases e
  | dict xs => cases e
theorem eq_V {d d' : PyData} {v u : V} (h1 : sV d = some v) (h2 : sV d' = some u) (hs : scal v u = true) (k : K (.d (.bool (decide (v = u)))) m) : R2W X rEq (.d d) (.d d') m K := fun F H v' u' hm o1 o2 Q q => by
  rw [sV_ok o1 h1, sV_ok o2 h2]
  exact ⟨hs, q _ _ (PostE.here k (Rp.bl _) hm)⟩
theorem ne_V {d d' : PyData} {v u : V} (h1 : sV d = some v) (h2 : sV d' = some u) (hs : scal v u = true) (k : K (.d (.bool (!decide (v = u)))) m) : R2W X rNe (.d d) (.d d') m K := fun F H v' u' hm o1 o2 Q q => by
  rw [sV_ok o1 h1, sV_ok o2 h2]
  exact ⟨hs, q _ _ (PostE.here k (Rp.bl _) hm)⟩
theorem eq_S {i j : Str} (k : K (.d (.bool (decide (i = j)))) m) : R2W X rEq (.d (.str i)) (.d (.str j)) m K := eq_V (v := .str i) (u := .str j) rfl rfl rfl (by
  have e : decide (V.str i = V.str j) = decide (i = j) := by simp
  rw [e]; exact k)
theorem ne_S {i j : Str} (k : K (.d (.bool (!decide (i = j)))) m) : R2W X rNe (.d (.str i)) (.d (.str j)) m K := ne_V (v := .str i) (u := .str j) rfl rfl rfl (by
  have e : decide (V.str i = V.str j) = decide (i = j) := by simp
  rw [e]; exact k)

/-! ### in -/
def sVs : List PyData → Option (List V)
  | [] => some []
  | d :: ds => match sV d, sVs ds with
    | some v, some vs => some (v :: vs)
    | _, _ => none
theorem RpAll.scals {K : PySem.W.Frag} {F : Hp} : ∀ {xs vs : List V} {ds : List PyData}, RpAll K F xs ds → sVs ds = some vs → xs = vs
  | _, _, _, .nil, e => by cases e; rfl
  | _, _, _, .cons (d := d) (ds := ds) r t, e => by
    unfold sVs at e
    cases e1 : sV d with
    | none => rw [e1] at e; simp at e
    | some v =>
      cases e2 : sVs ds with
      | none => rw [e1, e2] at e; simp at e
      | some ws =>
        rw [e1, e2] at e
        simp at e
        subst e
        rw [sV_ok r e1, RpAll.scals t e2]
theorem in_L {neg : Bool} {d : PyData} {ds : List PyData} {v : V} {vs : List V} (hy : Dat m y (.list ds)) (h1 : sV d = some v) (h2 : sVs ds = some vs) (f1 : flatV v = true) (f2 : vs.all flatV = true) (k : K (.d (.bool (if neg then !inV v vs else inV v vs))) m) : R2W X (rIn X.K neg) (.d d) y m K := fun F H v' u' hm o1 o2 Q q => by
  obtain ⟨p, xs, rfl, s, r⟩ := hy.sqL hm o2
  rw [sV_ok o1 h1]
  have e := r.scals h2
  subst e
  exact ⟨p, xs, rfl, .inl s, f1, f2, q _ _ (PostE.here k (Rp.bl _) hm)⟩
theorem in_T {neg : Bool} {d : PyData} {ds : List PyData} {v : V} {vs : List V} (h1 : sV d = some v) (h2 : sVs ds = some vs) (f1 : flatV v = true) (f2 : vs.all flatV = true) (k : K (.d (.bool (if neg then !inV v vs else inV v vs))) m) : R2W X (rIn X.K neg) (.d d) (.d (.tuple ds)) m K := fun F H v' u' hm o1 o2 Q q => by
  obtain ⟨p, xs, rfl, s, r⟩ := dat_sqT hm o2
  rw [sV_ok o1 h1]
  have e := r.scals h2
  subst e
  exact ⟨p, xs, rfl, .inr s, f1, f2, q _ _ (PostE.here k (Rp.bl _) hm)⟩

/-! ### items -/
theorem we_ix {r : R2} (hr : IxR X r) (h : WE X a n m fun x m1 => WE X b n m1 fun y m2 => R2W X r x y m2 K) (hp : PlainIx b := by exact fun _ _ => rfl) : WE X (.Subscript a b pos) n m K := fun F σ H hm hs =>
  wpE.of (pe_ix hr pe_wp pe_wp hp) (h.go hm hs fun F1 v H1 x m1 h1 ok1 hm1 st1 hs1 => h1.go hm1 hs1 fun F2 u H2 y m2 h2 ok2 hm2 st2 hs2 =>
    h2 F2 H2 v u hm2 (ok1.inc st2.fr) ok2 _ fun z H' q => PostE.after (st1.trans st2) q)
theorem atI_len {α β : Type} {xs : List α} {ds : List β} (h : xs.length = ds.length) {i : Int} {d : β} (e : atI ds i = some d) : ∃ j, ixN xs.length i = some j ∧ ds[j]? = some d := by
  unfold atI at e
  cases q : ixN ds.length i with
  | none => rw [q] at e; cases e
  | some j =>
    rw [q] at e
    exact ⟨j, by rw [h]; exact q, e⟩
theorem RpAll.at {K : PySem.W.Frag} {F : Hp} {xs : List V} {ds : List PyData} (r : RpAll K F xs ds) {i : Int} {d : PyData} (e : atI ds i = some d) : ∃ v, atI xs i = some v ∧ Rp K F v d := by
  obtain ⟨j, h1, h2⟩ := atI_len r.length e
  obtain ⟨v, h3, h4⟩ := r.get h2
  exact ⟨v, by unfold atI; rw [h1]; exact h3, h4⟩
theorem ix_L {ds : List PyData} {d : PyData} {i : Int} (hx : Dat m x (.list ds)) (e : atI ds i = some d) (k : K (.d d) m) : R2W X (rIx X.K) x (.d (.int i)) m K := fun F H v u hm h1 h2 Q q => by
  obtain ⟨p, xs, rfl, s, r⟩ := hx.sqL hm h1
  obtain ⟨w, hw, rw_⟩ := r.at e
  exact .inl ⟨p, xs, i, w, rfl, h2.int, s, hw, q _ _ (PostE.here k rw_ hm)⟩
theorem ix_T {ds : List PyData} {d : PyData} {i : Int} (e : atI ds i = some d) (k : K (.d d) m) : R2W X (rIx X.K) (.d (.tuple ds)) (.d (.int i)) m K := fun F H v u hm h1 h2 Q q => by
  obtain ⟨p, xs, rfl, s, r⟩ := dat_sqT hm h1
  obtain ⟨w, hw, rw_⟩ := r.at e
  exact .inr (.inl ⟨p, xs, i, w, rfl, h2.int, s, hw, q _ _ (PostE.here k rw_ hm)⟩)
theorem ix_S {z : Str} {c : Nat} {i : Int} (hl : z.length ≤ 16777216) (e : atI z.cps.toList i = some c) (k : K (.d (.str ⟨#[c]⟩)) m) : R2W X (rIx X.K) (.d (.str z)) (.d (.int i)) m K := fun F H v u hm h1 h2 Q q =>
  .inr (.inr ⟨z, i, c, h1.str, h2.int, by rw [sizeLine_eq]; exact hl, e, q _ _ (PostE.here k (Rp.str _) hm)⟩)
/-- an item of a list in the memory -/
theorem ix_X {p : Addr} {es : List Ent} {r : Ent} {i : Int} (hx : m p = some (.lst es)) (e : atI es i = some r) (k : K r m) : R2W X (rIx X.K) (.x p) (.d (.int i)) m K := fun F H v u hm h1 h2 Q q => by
  obtain ⟨xs, hH, rr⟩ := hm.obj p _ hx
  obtain ⟨j, hj, hg⟩ := atI_len (Paired.length rr) e
  obtain ⟨w, hw, ok⟩ := ents_get rr hg
  exact .inl ⟨p, xs, i, w, h1, h2.int, .inl (.inl hH), by unfold atI; rw [hj]; exact hw, q _ _ (PostE.here k ok hm)⟩
/-- o[i] = e, a list in the memory -/
theorem ws_setix {P : KS} {i : Expr} {tpos : Pos} (h : WE X e n m fun r m1 => WE X o n m1 fun x m2 => WE X i n m2 fun k m3 => ∃ p es kk j, x = .x p ∧ k = .d (.int kk) ∧ m3 p = some (.lst es) ∧ ixN es.length kk = some j ∧ P (.nx n (m3.put p (.lst (es.set j r)))))
    (ha : ∀ v, assign (.Subscript o i tpos) X.env v = (do
      let ov ← holding [v] (eval o X.env)
      let iv ← holding [v, ov] (eval i X.env)
      standAt tpos
      holding [v, ov, iv] (setItem ov iv v)
      release [v, ov, iv] []) := by intro _; rfl)
    (h1 : swapsWithSole [.Subscript o i tpos] e pos.line X.env = pure false := by rfl) (h2 : swappedStores [.Subscript o i tpos] e X.env = pure none := by rfl)
    (h3 : (assignEach [.Subscript o i tpos] X.env).map (·.2) = [assign (.Subscript o i tpos) X.env] := by rfl) : WS X (.Assign [.Subscript o i tpos] e pos) n m P := fun F σ H hm hs =>
  wpS.of (ps_asg pe_wp (pg_sub pe_wp pe_wp set_list ha) h1 h2 h3) (h.go hm hs fun F1 v H1 r m1 k1 ok1 hm1 st1 hs1 => k1.go hm1 hs1 fun F2 ov H2 x m2 k2 ok2 hm2 st2 hs2 => k2.go hm2 hs2 fun F3 iv H3 y m3 k3 ok3 hm3 st3 hs3 => by
    obtain ⟨p, es, kk, j, rfl, rfl, hp, hj, k⟩ := k3
    obtain ⟨xs, hx, rr⟩ := hm3.obj p _ hp
    have ok1' := (ok1.inc st2.fr).inc st3.fr
    refine ⟨p, xs, kk, j, ok2, ok3.int, hx, by rw [Paired.length rr]; exact hj, (show PostN X F m H _ _ _ from ⟨F3, n, _, k, hs3, hm3.mut hp ⟨_, upd_same, ?_⟩, ((st1.trans st2).trans st3).trans (Step.mut hp)⟩)⟩
    exact ents_set rr j ok1')
where
  ents_set {K : PySem.W.Frag} {F : Hp} {v : V} {r : Ent} : ∀ {xs : List V} {es : List Ent}, Ents K F xs es → ∀ (j : Nat), EntOk K F v r → Ents K F (xs.set j v) (es.set j r)
    | _, _, .nil, _, _ => .nil
    | _, _, .cons _ t, 0, ok => .cons ok t
    | _, _, .cons q t, j + 1, ok => .cons q (ents_set t j ok)

/-! ### slices -/
def WO (X : Cx) (oe : Option Expr) (n : Nm) (m : Mem) (K : Option Int → Mem → Prop) : Prop := match oe with
  | none => K none m
  | some e => WE X e n m fun r m1 => ∃ i, r = .d (.int i) ∧ K (some i) m1
def wpO (X : Cx) (oe : Option Expr) : TO := match oe with
  | none => tNoPart
  | some e => tPart (wpE X e)
theorem po_wp {oe : Option Expr} : PO X oe (wpO X oe) := match oe with
  | none => po_none
  | some _ => po_some pe_wp
theorem WO.go {oe : Option Expr} {F : Hp} {σ : St} {H : Hp} {K : Option Int → Mem → Prop} (h : WO X oe n m K) (hm : MOk X.K F m H) (hs : Slots X.K F σ n) {Q : Option Int → Hp → Prop}
    (k : ∀ F1 i H1 m1, K i m1 → MOk X.K F1 m1 H1 → Step F m H F1 m1 H1 → Slots X.K F1 σ n → Q i H1) : wpO X oe σ H Q := by
  match oe, h with
  | none, h => exact k F none H m h hm .refl hs
  | some e, h => exact WE.go h hm hs fun F1 v H1 r m1 ⟨i, er, q⟩ ok hm1 st1 hs1 => ⟨i, (show EntOk X.K F1 v (.d (.int i)) from er ▸ ok).int, k F1 (some i) H1 m1 q hm1 st1 hs1⟩
theorem wo_none {K : Option Int → Mem → Prop} (k : K none m) : WO X none n m K := k
theorem wo_some {K : Option Int → Mem → Prop} (h : WE X e n m fun r m1 => ∃ i, r = .d (.int i) ∧ K (some i) m1) : WO X (some e) n m K := h
def SLW (X : Cx) (r : V → Option Int → Option Int → Hp → VK → Prop) (x : Ent) (lo hi : Option Int) (m : Mem) (K : KE) : Prop := ∀ F H v, MOk X.K F m H → EntOk X.K F v x → ∀ Q : VK, (∀ z H', PostE X F m H K z H' → Q z H') → r v lo hi H Q
theorem we_slice {r : V → Option Int → Option Int → Hp → VK → Prop} {lo hi : Option Expr} {p2 : Pos} (hr : SlR X r) (h : WE X e n m fun x m1 => WO X lo n m1 fun l m2 => WO X hi n m2 fun u m3 => SLW X r x l u m3 K) : WE X (.Subscript e (.Slice lo hi none p2) pos) n m K := fun F σ H hm hs =>
  wpE.of (pe_slice hr pe_wp po_wp po_wp) (h.go hm hs fun F1 v H1 x m1 h1 ok1 hm1 st1 hs1 => h1.go hm1 hs1 fun F2 l H2 m2 h2 hm2 st2 hs2 => h2.go hm2 hs2 fun F3 u H3 m3 h3 hm3 st3 hs3 =>
    h3 F3 H3 v hm3 ((ok1.inc st2.fr).inc st3.fr) _ fun z H' q => PostE.after ((st1.trans st2).trans st3) q)
def rSlZ (K : PySem.W.Frag) : V → Option Int → Option Int → Hp → VK → Prop := fun x lo hi H Q => rSlL K x lo hi H Q ∨ rSlA K x lo hi H Q ∨ rSlS x lo hi H Q
theorem sl_Z : SlR X (rSlZ X.K) := sl_list.or (sl_tupA.or sl_str)
def cutD {α : Type} (xs : List α) (lo hi : Option Int) : List α := (xs.drop (HT.sIx xs.length 0 lo)).take (HT.sIx xs.length xs.length hi - HT.sIx xs.length 0 lo)
theorem RpAll.drop {K : PySem.W.Frag} {F : Hp} : ∀ {xs : List V} {ds : List PyData}, RpAll K F xs ds → ∀ k : Nat, RpAll K F (xs.drop k) (ds.drop k)
  | _, _, .nil, k => by simp; exact .nil
  | _, _, .cons r t, 0 => .cons r t
  | _, _, .cons _ t, k + 1 => RpAll.drop t k
theorem RpAll.take {K : PySem.W.Frag} {F : Hp} : ∀ {xs : List V} {ds : List PyData}, RpAll K F xs ds → ∀ k : Nat, RpAll K F (xs.take k) (ds.take k)
  | _, _, .nil, k => by simp; exact .nil
  | _, _, .cons _ _, 0 => .nil
  | _, _, .cons r t, k + 1 => .cons r (RpAll.take t k)
theorem RpAll.cut {K : PySem.W.Frag} {F : Hp} {xs : List V} {ds : List PyData} (r : RpAll K F xs ds) (lo hi : Option Int) : RpAll K F (cutV xs lo hi) (cutD ds lo hi) := by
  unfold cutV cutD
  rw [r.length]
  exact (r.drop _).take _
theorem sl_L {ds : List PyData} {lo hi : Option Int} (hx : Dat m x (.list ds)) (k : K (.d (.list (cutD ds lo hi))) m) : SLW X (rSlZ X.K) x lo hi m K := fun F H v hm h1 Q q => by
  obtain ⟨p, xs, rfl, s, r⟩ := hx.sqL hm h1
  exact .inl ⟨p, xs, rfl, s, fun p hp => q _ _ (post_L hm hp (r.cut lo hi) k)⟩
theorem sl_LX {ds : List PyData} {lo hi : Option Int} (hx : Dat m x (.list ds)) (k : ∀ p, m p = none → K (.x p) (m.put p (.lst (List.map .d (cutD ds lo hi))))) : SLW X (rSlZ X.K) x lo hi m K := fun F H v hm h1 Q q => by
  obtain ⟨p, xs, rfl, s, r⟩ := hx.sqL hm h1
  exact .inl ⟨p, xs, rfl, s, fun p hp => q _ _ (post_X hm hp (r.cut lo hi).ents k)⟩
theorem cutD_whole {α : Type} {ds : List α} {lo hi : Option Int} (h : HT.sIx ds.length 0 lo = 0 ∧ HT.sIx ds.length ds.length hi = ds.length) : cutD ds lo hi = ds := by
  unfold cutD
  rw [h.1, h.2]
  simp
theorem sl_T {ds : List PyData} {lo hi : Option Int} (k : K (.d (.tuple (cutD ds lo hi))) m) : SLW X (rSlZ X.K) (.d (.tuple ds)) lo hi m K := fun F H v hm h1 Q q => by
  obtain ⟨p, xs, rfl, s, r⟩ := dat_sqT hm h1
  refine .inr (.inl ⟨p, xs, rfl, s, fun w => ?_, fun _ p hp => q _ _ (post_T hm hp (r.cut lo hi) k)⟩)
  rw [r.length] at w
  rw [cutD_whole w] at k
  exact q _ _ (PostE.here k h1 hm)
theorem sl_S {z : Str} {lo hi : Option Int} (hl : z.length ≤ 16777216) (k : K (.d (.str (cutS z lo hi))) m) : SLW X (rSlZ X.K) (.d (.str z)) lo hi m K := fun F H v hm h1 Q q =>
  .inr (.inr ⟨z, h1.str, by rw [sizeLine_eq]; exact hl, q _ _ (PostE.here k (Rp.str _) hm)⟩)

/-! ### what is built in -/
theorem Ents.one {K : PySem.W.Frag} {F : Hp} {vs : List V} {r : Ent} (h : Ents K F vs [r]) : ∃ v, vs = [v] ∧ EntOk K F v r := by
  cases h with
  | cons q t => cases t; exact ⟨_, rfl, q⟩
theorem Ents.two {K : PySem.W.Frag} {F : Hp} {vs : List V} {r s : Ent} (h : Ents K F vs [r, s]) : ∃ v u, vs = [v, u] ∧ EntOk K F v r ∧ EntOk K F u s := by
  cases h with
  | cons q t => cases t with
    | cons q2 t => cases t; exact ⟨_, _, rfl, q, q2⟩
def rAbs : List V → Hp → VK → Prop := fun xs H Q => ∃ i, xs = [.int i] ∧ Q (.int (if i < 0 then -i else i)) H
theorem c_abs : CallR X (.builtin "abs") rAbs := call_abs
theorem abs_I {i : Int} (k : K (.d (.int (if i < 0 then -i else i))) m) : RCW X rAbs [.d (.int i)] m K := fun F H vs hm h Q q => by
  obtain ⟨v, rfl, ok⟩ := h.one
  exact ⟨i, by rw [ok.int], q _ _ (PostE.here k (Rp.int _) hm)⟩
def rMax2 : List V → Hp → VK → Prop := fun xs H Q => ∃ i j, xs = [.int i, .int j] ∧ Q (.int (if j > i then j else i)) H
def rMin2 : List V → Hp → VK → Prop := fun xs H Q => ∃ i j, xs = [.int i, .int j] ∧ Q (.int (if j < i then j else i)) H
theorem c_max2 (hc : X.calm = true) : CallR X (.builtin "max") rMax2 := call_max2 hc
theorem c_min2 (hc : X.calm = true) : CallR X (.builtin "min") rMin2 := call_min2 hc
theorem max_II {i j : Int} (k : K (.d (.int (max i j))) m) : RCW X rMax2 [.d (.int i), .d (.int j)] m K := fun F H vs hm h Q q => by
  obtain ⟨v, u, rfl, o1, o2⟩ := h.two
  have e : (if j > i then j else i) = max i j := by split <;> omega
  exact ⟨i, j, by rw [o1.int, o2.int], by rw [e]; exact q _ _ (PostE.here k (Rp.int _) hm)⟩
theorem min_II {i j : Int} (k : K (.d (.int (min i j))) m) : RCW X rMin2 [.d (.int i), .d (.int j)] m K := fun F H vs hm h Q q => by
  obtain ⟨v, u, rfl, o1, o2⟩ := h.two
  have e : (if j < i then j else i) = min i j := by split <;> omega
  exact ⟨i, j, by rw [o1.int, o2.int], by rw [e]; exact q _ _ (PostE.here k (Rp.int _) hm)⟩
def rLenZ (K : PySem.W.Frag) : List V → Hp → VK → Prop := fun xs H Q => ∃ x n, xs = [x] ∧ LenV K x H n ∧ Q (.int n) H
theorem c_len : CallR X (.builtin "len") (rLenZ X.K) := call_len
theorem len_L {ds : List PyData} (hx : Dat m x (.list ds)) (k : K (.d (.int (ds.length : Int))) m) : RCW X (rLenZ X.K) [x] m K := fun F H vs hm h Q q => by
  obtain ⟨v, rfl, ok⟩ := h.one
  obtain ⟨p, xs, rfl, s, r⟩ := hx.sqL hm ok
  exact ⟨_, xs.length, rfl, .inl ⟨xs, s, rfl⟩, q _ _ (PostE.here (r := .d (.int (xs.length : Int))) (by rw [r.length]; exact k) (Rp.int _) hm)⟩
theorem len_T {ds : List PyData} (k : K (.d (.int (ds.length : Int))) m) : RCW X (rLenZ X.K) [.d (.tuple ds)] m K := fun F H vs hm h Q q => by
  obtain ⟨v, rfl, ok⟩ := h.one
  obtain ⟨p, xs, rfl, s, r⟩ := dat_sqT hm ok
  exact ⟨_, xs.length, rfl, .inr ⟨xs, s, rfl⟩, q _ _ (PostE.here (r := .d (.int (xs.length : Int))) (by rw [r.length]; exact k) (Rp.int _) hm)⟩
theorem len_S {z : Str} (hl : z.length ≤ 16777216) (k : K (.d (.int (z.length : Int))) m) : RCW X (rLenZ X.K) [.d (.str z)] m K := fun F H vs hm h Q q => by
  obtain ⟨v, rfl, ok⟩ := h.one
  exact ⟨_, z.length, rfl, by rw [ok.str]; exact ⟨by rw [sizeLine_eq]; exact hl, rfl⟩, q _ _ (PostE.here k (Rp.int _) hm)⟩
theorem len_X {p : Addr} {es : List Ent} (hx : m p = some (.lst es)) (k : K (.d (.int (es.length : Int))) m) : RCW X (rLenZ X.K) [.x p] m K := fun F H vs hm h Q q => by
  obtain ⟨v, rfl, ok⟩ := h.one
  obtain ⟨xs, hH, rr⟩ := hm.obj p _ hx
  have e : v = .ref p := ok
  subst e
  exact ⟨_, xs.length, rfl, .inl ⟨xs, .inl (.inl hH), rfl⟩, q _ _ (PostE.here (r := .d (.int (xs.length : Int))) (by rw [Paired.length rr]; exact k) (Rp.int _) hm)⟩
def rInt1 : List V → Hp → VK → Prop := fun xs H Q => (∃ i, xs = [.int i] ∧ Q (.int i) H) ∨ ∃ k, xs = [.bl k] ∧ Q (.int (if k then 1 else 0)) H
theorem c_int1 : CallR X (.type "int") rInt1 := call_int1
theorem int_I {i : Int} (k : K (.d (.int i)) m) : RCW X rInt1 [.d (.int i)] m K := fun F H vs hm h Q q => by
  obtain ⟨v, rfl, ok⟩ := h.one
  exact .inl ⟨i, by rw [ok.int], q _ _ (PostE.here k (Rp.int _) hm)⟩
theorem int_B {i : Bool} (k : K (.d (.int (if i then 1 else 0))) m) : RCW X rInt1 [.d (.bool i)] m K := fun F H vs hm h Q q => by
  obtain ⟨v, rfl, ok⟩ := h.one
  exact .inr ⟨i, by rw [ok.bl], q _ _ (PostE.here k (Rp.int _) hm)⟩
def rTupOf (K : PySem.W.Frag) : List V → Hp → VK → Prop := fun xs H Q => ∃ p ys, xs = [.ref p] ∧ ((SqL K H p ys ∧ ∀ l, H l = none → Q (.ref l) (upd H l (.tup ys))) ∨ (SqT K H p ys ∧ Q (.ref p) H))
theorem c_tuple : CallR X (.type "tuple") (rTupOf X.K) := call_tuple_of
theorem tuple_L {ds : List PyData} (hx : Dat m x (.list ds)) (k : K (.d (.tuple ds)) m) : RCW X (rTupOf X.K) [x] m K := fun F H vs hm h Q q => by
  obtain ⟨v, rfl, ok⟩ := h.one
  obtain ⟨p, xs, rfl, s, r⟩ := hx.sqL hm ok
  exact ⟨p, xs, rfl, .inl ⟨s, fun l hl => q _ _ (post_T hm hl r k)⟩⟩
theorem tuple_T {ds : List PyData} (k : K (.d (.tuple ds)) m) : RCW X (rTupOf X.K) [.d (.tuple ds)] m K := fun F H vs hm h Q q => by
  obtain ⟨v, rfl, ok⟩ := h.one
  obtain ⟨p, xs, rfl, s, r⟩ := dat_sqT hm ok
  exact ⟨p, xs, rfl, .inr ⟨s, q _ _ (PostE.here k ok hm)⟩⟩
def rListOf (K : PySem.W.Frag) : List V → Hp → VK → Prop := fun xs H Q => ∃ p ys, xs = [.ref p] ∧ (SqL K H p ys ∨ SqT K H p ys) ∧ ∀ l, H l = none → Q (.ref l) (upd H l (.lst ys))
theorem c_list : CallR X (.type "list") (rListOf X.K) := call_list_of
theorem list_L {ds : List PyData} (hx : Dat m x (.list ds)) (k : K (.d (.list ds)) m) : RCW X (rListOf X.K) [x] m K := fun F H vs hm h Q q => by
  obtain ⟨v, rfl, ok⟩ := h.one
  obtain ⟨p, xs, rfl, s, r⟩ := hx.sqL hm ok
  exact ⟨p, xs, rfl, .inl s, fun l hl => q _ _ (post_L hm hl r k)⟩
theorem list_LX {ds : List PyData} (hx : Dat m x (.list ds)) (k : ∀ p, m p = none → K (.x p) (m.put p (.lst (List.map .d ds)))) : RCW X (rListOf X.K) [x] m K := fun F H vs hm h Q q => by
  obtain ⟨v, rfl, ok⟩ := h.one
  obtain ⟨p, xs, rfl, s, r⟩ := hx.sqL hm ok
  exact ⟨p, xs, rfl, .inl s, fun l hl => q _ _ (post_X hm hl r.ents k)⟩
theorem list_T {ds : List PyData} (k : K (.d (.list ds)) m) : RCW X (rListOf X.K) [.d (.tuple ds)] m K := fun F H vs hm h Q q => by
  obtain ⟨v, rfl, ok⟩ := h.one
  obtain ⟨p, xs, rfl, s, r⟩ := dat_sqT hm ok
  exact ⟨p, xs, rfl, .inr s, fun l hl => q _ _ (post_L hm hl r k)⟩
theorem list_TX {ds : List PyData} (k : ∀ p, m p = none → K (.x p) (m.put p (.lst (List.map .d ds)))) : RCW X (rListOf X.K) [.d (.tuple ds)] m K := fun F H vs hm h Q q => by
  obtain ⟨v, rfl, ok⟩ := h.one
  obtain ⟨p, xs, rfl, s, r⟩ := dat_sqT hm ok
  exact ⟨p, xs, rfl, .inr s, fun l hl => q _ _ (post_X hm hl r.ents k)⟩

/-! ### methods of what is built in -/
variable {name : Str} {apos : Pos} {T id : String}
def BMW (X : Cx) (r : V → List V → Hp → VK → Prop) (x : Ent) (rs : List Ent) (m : Mem) (K : KE) : Prop := ∀ F H v vs, MOk X.K F m H → EntOk X.K F v x → Ents X.K F vs rs → ∀ Q : VK, (∀ z H', PostE X F m H K z H' → Q z H') → r v vs H Q
def TyW (X : Cx) (T : String) (x : Ent) (m : Mem) : Prop := ∀ F H v, MOk X.K F m H → EntOk X.K F v x → tyV X.K T v H
theorem ty_L {ds : List PyData} (hx : Dat m x (.list ds)) : TyW X "list" x m := fun F H v hm ok => by
  obtain ⟨p, xs, rfl, s, r⟩ := hx.sqL hm ok
  exact .inl ⟨rfl, xs, s⟩
theorem ty_X {p : Addr} {es : List Ent} (hx : m p = some (.lst es)) : TyW X "list" (.x p) m := fun F H v hm ok => by
  obtain ⟨xs, hH, _⟩ := hm.obj p _ hx
  have e : v = .ref p := ok
  subst e
  exact .inl ⟨rfl, xs, .inl (.inl hH)⟩
theorem ty_S {z : Str} : TyW X "str" (.d (.str z)) m := fun F H v hm ok => by rw [ok.str]; exact (rfl : ("str" : String) = "str")
theorem we_bm {r : V → List V → Hp → VK → Prop} (pa : PlainAttrs T) (slot : Slot T name id) (hty : typeOf (.builtin id) = pure (.type "method_descriptor")) (hr : MtR X id r)
    (h : WE X o n m fun x m1 => TyW X T x m1 ∧ WA X (e :: es) n m1 fun rs m2 => BMW X r x rs m2 K)
    (hbase : attributeBase o name X.env (eval o X.env) = eval o X.env := by rfl)
    (hfew : ((backTo pos (starEach (e :: es) X.env)).all (fun x => !x.1) && (backToKw pos (keywordEach [] X.env)).all (fun x => x.1.isSome)
      && decide ((e :: es).length + ([] : List Keyword).length + (if ([] : List Keyword).isEmpty then 0 else 1) < 30)) = true := by rfl)
    (hline : (apos.endLine == pos.line) = true := by rfl) (hs0 : starEach (e :: es) X.env = (false, eval e X.env) :: starEach es X.env := by rfl) (hpl : (backTo pos (starEach es X.env)).any (·.1) = false := by rfl) :
    WE X (.Call (.Attribute o name apos) (e :: es) [] pos) n m K := fun F σ H hm hs =>
  wpE.of (pe_bm pa slot hty hr pe_wp pa_wp hbase hfew hline hs0 hpl) (h.go hm hs fun F1 v H1 x m1 h1 ok1 hm1 st1 hs1 => ⟨h1.1 F1 H1 v hm1 ok1, h1.2.go hm1 hs1 fun F2 vs H2 rs m2 h2 ok2 hm2 st2 hs2 =>
    h2 F2 H2 v vs hm2 (ok1.inc st2.fr) ok2 _ fun z H' q => PostE.after (st1.trans st2) q⟩)
theorem we_bm0 {r : V → List V → Hp → VK → Prop} (pa : PlainAttrs T) (slot : Slot T name id) (hty : typeOf (.builtin id) = pure (.type "method_descriptor")) (hr : MtR X id r)
    (h : WE X o n m fun x m1 => TyW X T x m1 ∧ BMW X r x [] m1 K)
    (hbase : attributeBase o name X.env (eval o X.env) = eval o X.env := by rfl) (hline : (apos.endLine == pos.line) = true := by rfl) : WE X (.Call (.Attribute o name apos) [] [] pos) n m K := fun F σ H hm hs =>
  wpE.of (pe_bm0 pa slot hty hr pe_wp hbase hline) (h.go hm hs fun F1 v H1 x m1 h1 ok1 hm1 st1 hs1 => ⟨h1.1 F1 H1 v hm1 ok1, h1.2 F1 H1 v [] hm1 ok1 .nil _ fun z H' q => PostE.after st1 q⟩)
theorem app_X {p : Addr} {es : List Ent} {r : Ent} (hx : m p = some (.lst es)) (hl : es.length < 16777216) (k : K (.d .none) (m.put p (.lst (es ++ [r])))) : BMW X rAppend (.x p) [r] m K := fun F H v vs hm h1 h2 Q q => by
  obtain ⟨y, rfl, ok⟩ := h2.one
  obtain ⟨xs, hH, rr⟩ := hm.obj p _ hx
  refine ⟨p, xs, y, h1, rfl, hH, by rw [Paired.length rr, sizeLine_eq]; exact hl, q _ _ ⟨F, _, _, k, Rp.non, hm.mut hx ⟨_, upd_same, Paired.snoc rr ok⟩, Step.mut hx⟩⟩
theorem clear_X {p : Addr} {es : List Ent} (hx : m p = some (.lst es)) (k : K (.d .none) (m.put p (.lst []))) : BMW X rClear (.x p) [] m K := fun F H v vs hm h1 h2 Q q => by
  cases h2
  obtain ⟨xs, hH, rr⟩ := hm.obj p _ hx
  exact ⟨p, xs, h1, rfl, hH, q _ _ ⟨F, _, _, k, Rp.non, hm.mut hx ⟨_, upd_same, .nil⟩, Step.mut hx⟩⟩
def rJoin (K : PySem.W.Frag) : V → List V → Hp → VK → Prop := fun x xs H Q => ∃ a p, ∃ ys : List Str, x = .str a ∧ xs = [.ref p] ∧ (SqL K H p (ys.map V.str) ∨ SqT K H p (ys.map V.str)) ∧
    (ys.map (·.length)).sum + ys.length * a.length ≤ 16777216 ∧ Q (.str (Txt.join a ys)) H
theorem m_join : MtR X "str.join" (rJoin X.K) := mt_join
theorem strs_of {K : PySem.W.Frag} {F : Hp} : ∀ {ys : List Str} {xs : List V}, RpAll K F xs (ys.map .str) → xs = ys.map V.str
  | [], _, .nil => rfl
  | y :: ys, _, .cons r t => by
    cases r
    rw [List.map_cons, strs_of t]
theorem ints_of {K : PySem.W.Frag} {F : Hp} : ∀ {ys : List Int} {xs : List V}, RpAll K F xs (ys.map .int) → xs = ys.map V.int
  | [], _, .nil => rfl
  | y :: ys, _, .cons r t => by
    cases r
    rw [List.map_cons, ints_of t]
theorem bls_of {K : PySem.W.Frag} {F : Hp} : ∀ {ys : List Bool} {xs : List V}, RpAll K F xs (ys.map .bool) → xs = ys.map V.bl
  | [], _, .nil => rfl
  | y :: ys, _, .cons r t => by
    cases r
    rw [List.map_cons, bls_of t]
theorem join_L {a : Str} {ys : List Str} (hx : Dat m x (.list (ys.map .str))) (hl : (ys.map (·.length)).sum + ys.length * a.length ≤ 16777216) (k : K (.d (.str (Txt.join a ys))) m) : BMW X (rJoin X.K) (.d (.str a)) [x] m K := fun F H v vs hm h1 h2 Q q => by
  obtain ⟨y, rfl, ok⟩ := h2.one
  obtain ⟨p, xs, rfl, s, r⟩ := hx.sqL hm ok
  have e := strs_of r
  subst e
  exact ⟨a, p, ys, h1.str, rfl, .inl s, hl, q _ _ (PostE.here k (Rp.str _) hm)⟩
theorem join_T {a : Str} {ys : List Str} (hl : (ys.map (·.length)).sum + ys.length * a.length ≤ 16777216) (k : K (.d (.str (Txt.join a ys))) m) : BMW X (rJoin X.K) (.d (.str a)) [.d (.tuple (ys.map .str))] m K := fun F H v vs hm h1 h2 Q q => by
  obtain ⟨y, rfl, ok⟩ := h2.one
  obtain ⟨p, xs, rfl, s, r⟩ := dat_sqT hm ok
  have e := strs_of r
  subst e
  exact ⟨a, p, ys, h1.str, rfl, .inr s, hl, q _ _ (PostE.here k (Rp.str _) hm)⟩
theorem we_append (h : WE X o n m fun x m1 => TyW X "list" x m1 ∧ WA X (e :: es) n m1 fun rs m2 => BMW X rAppend x rs m2 K)
    (hbase : attributeBase o "append" X.env (eval o X.env) = eval o X.env := by rfl)
    (hfew : ((backTo pos (starEach (e :: es) X.env)).all (fun x => !x.1) && (backToKw pos (keywordEach [] X.env)).all (fun x => x.1.isSome)
      && decide ((e :: es).length + ([] : List Keyword).length + (if ([] : List Keyword).isEmpty then 0 else 1) < 30)) = true := by rfl)
    (hline : (apos.endLine == pos.line) = true := by rfl) (hs0 : starEach (e :: es) X.env = (false, eval e X.env) :: starEach es X.env := by rfl) (hpl : (backTo pos (starEach es X.env)).any (·.1) = false := by rfl) :
    WE X (.Call (.Attribute o "append" apos) (e :: es) [] pos) n m K := we_bm PySem.F.plainAttrs_list PySem.F.slot_list_append PySem.F.type_list_append mt_append h hbase hfew hline hs0 hpl
theorem we_join (h : WE X o n m fun x m1 => TyW X "str" x m1 ∧ WA X (e :: es) n m1 fun rs m2 => BMW X (rJoin X.K) x rs m2 K)
    (hbase : attributeBase o "join" X.env (eval o X.env) = eval o X.env := by rfl)
    (hfew : ((backTo pos (starEach (e :: es) X.env)).all (fun x => !x.1) && (backToKw pos (keywordEach [] X.env)).all (fun x => x.1.isSome)
      && decide ((e :: es).length + ([] : List Keyword).length + (if ([] : List Keyword).isEmpty then 0 else 1) < 30)) = true := by rfl)
    (hline : (apos.endLine == pos.line) = true := by rfl) (hs0 : starEach (e :: es) X.env = (false, eval e X.env) :: starEach es X.env := by rfl) (hpl : (backTo pos (starEach es X.env)).any (·.1) = false := by rfl) :
    WE X (.Call (.Attribute o "join" apos) (e :: es) [] pos) n m K := we_bm PySem.F.plainAttrs_str PySem.F.slot_str_join PySem.F.type_str_join m_join h hbase hfew hline hs0 hpl
theorem we_clear (h : WE X o n m fun x m1 => TyW X "list" x m1 ∧ BMW X rClear x [] m1 K)
    (hbase : attributeBase o "clear" X.env (eval o X.env) = eval o X.env := by rfl) (hline : (apos.endLine == pos.line) = true := by rfl) : WE X (.Call (.Attribute o "clear" apos) [] [] pos) n m K := we_bm0 PySem.F.plainAttrs_list PySem.F.slot_list_clear PySem.F.type_list_clear mt_clear h hbase hline
end
end Z

/-! Z6: sums, greatest, least; products of great numbers; the end of a law. -/
namespace Z
open PySem PySem.Spec PyProof.Rows L2
set_option linter.all false
section
variable {X : Cx} {n : Nm} {m : Mem} {K : KE} {x y : Ent}
/-! ### products -/
def CMulZ (i j : Int) : Prop := i.natAbs.log2 + j.natAbs.log2 < 100000000
theorem CMulZ.ok {i j : Int} (h : CMulZ i j) : IntMulOk i j := by
  have bits : ∀ z : Int, Builtin.Int.intBits z ≤ z.natAbs.log2 + 1 := fun z => by
    unfold Builtin.Int.intBits
    split <;> omega
  have b1 := bits i
  have b2 := bits j
  unfold CMulZ at h
  intro hz
  rw [Bool.and_eq_true] at hz
  have hz2 := hz.2
  unfold Builtin.Int.intTooBig at hz2
  have hz3 := of_decide_eq_true hz2
  have line : bitsLine = 134217728 := by decide
  rw [line] at hz3
  omega
theorem op_mulZ : OpR X (binaryOp .Mult) (rI CMulZ fun i j => .int (i * j)) := opI fun _ _ _ _ _ _ _ hc q => mul_int q hc.ok
/-- both small -/
theorem CMulZ.small {i j : Int} (h1 : -(2 ^ 400) < i ∧ i < 2 ^ 400) (h2 : -(2 ^ 400) < j ∧ j < 2 ^ 400) : CMulZ i j := by
  have e1 : i.natAbs < 2 ^ 400 := by omega
  have e2 : j.natAbs < 2 ^ 400 := by omega
  have a1 := PySem.Flt.log2_lt_of (by decide) e1
  have a2 := PySem.Flt.log2_lt_of (by decide) e2
  unfold CMulZ
  omega
/-! ### sum, max, min of whole numbers -/
def SqI (K : PySem.W.Frag) (H : Hp) (a : Addr) (ns : List Int) : Prop := SqL K H a (ns.map V.int) ∨ SqT K H a (ns.map V.int)
def rSumZ (K : PySem.W.Frag) : List V → Hp → VK → Prop := fun vs H Q => ∃ (a : Addr) (ns : List Int), vs = [V.ref a] ∧ SqI K H a ns ∧ Q (.int ns.sum) H
def rMaxZ (K : PySem.W.Frag) : List V → Hp → VK → Prop := fun vs H Q => ∃ (a : Addr) (i : Int) (ns : List Int), vs = [V.ref a] ∧ SqI K H a (i :: ns) ∧ Q (.int (ns.foldl max i)) H
def rMinZ (K : PySem.W.Frag) : List V → Hp → VK → Prop := fun vs H Q => ∃ (a : Addr) (i : Int) (ns : List Int), vs = [V.ref a] ∧ SqI K H a (i :: ns) ∧ Q (.int (ns.foldl min i)) H
theorem c_sumZ (hc : X.calm = true) : CallR X (.builtin "sum") (rSumZ X.K) := by
  intro pins s σ H vs us Q I r ⟨a, ns, e, hs, q⟩
  rcases hs with hs | hs
  · exact cr_sum hc pins s σ H vs us Q I r ⟨a, ns, e, hs, q⟩
  · subst e
    obtain ⟨its, rv, ht, _⟩ := I.tuple hs
    rw [Vals.ref1 r]
    obtain ⟨zs, ez⟩ := rv.ints.allInts.items
    have hn : numsOf (intItems zs).toList = ns := by rw [← ez]; exact rv.ints.numsOf
    rw [nums_intItems] at hn
    rw [ez] at ht
    refine PySem.W.ktm_sumG (I.ok.hd hc) ht fun h' tk t' hk => ⟨.int _, H, I.kept hk, ⟨t', ?_⟩, q⟩
    rw [preSum_eq, List.take_of_length_le (by simp), hn]
theorem alike_ints (ns : List Int) : PySem.W.AlikeAll (ns.map .int) := by
  refine ⟨fun a ha b hb => ?_, fun a ha => ?_⟩
  · obtain ⟨i, _, rfl⟩ := List.mem_map.mp ha
    obtain ⟨j, _, rfl⟩ := List.mem_map.mp hb
    rfl
  · obtain ⟨i, _, rfl⟩ := List.mem_map.mp ha
    exact fun z => nomatch z
theorem depth_ints : ∀ ns : List Int, PyData.depthAll (ns.map .int) = 0
  | [] => rfl
  | i :: ns => by rw [List.map_cons, PyData.depthAll, depth_ints ns]; rfl
theorem reads_ints {h : Heap} : ∀ {vs : List Value} {ns : List Int}, IntsAre vs ns → ReadsAll h vs (ns.map .int) []
  | _, _, .nil => .nil
  | _, _, .cons n t r => by
    have := ReadsAll.cons (Reads.int (h := h) n t) (reads_ints r)
    exact this
theorem c_maxZ {k : Nat} (c : XC X k) : CallR X (.builtin "max") (rMaxZ X.K) := by
  intro pins s σ H vs us Q I r ⟨a, i, ns, e, hs, q⟩
  subst e
  have hu : X.A.units + 1 + PyData.depthAll ((i :: ns).map .int) < cLine := by
    rw [depth_ints]
    have := c.room.units
    omega
  have fin : ∀ (v : Value) (h' : Heap) (tk : Nat) (bs : List Addr), Reads h' v (PySem.W.maxD (.int i) (ns.map .int)) bs → (∀ b o, s.heap.get? b = some o → h'.get? b = some o) → EP X pins σ Q v { s with heap := h', toks := tk } := fun v h' tk bs rd hk => by
    rw [PySem.W.maxD_ints] at rd
    cases rd
    exact ⟨.int _, H, I.kept hk, ⟨_, rfl⟩, q⟩
  rcases hs with hs | hs
  · obtain ⟨its, rv, hl, _⟩ := I.list hs
    rw [Vals.ref1 r]
    exact PySem.W.max_list_data (I.ok.hd c.calm) hl.isList (reads_ints rv.ints) (alike_ints (i :: ns)) hu fun j v h' tk bs _ rd hk => fin v h' tk bs rd hk
  · obtain ⟨its, rv, hl, _⟩ := I.tuple hs
    rw [Vals.ref1 r]
    exact PySem.W.max_tuple_data (I.ok.hd c.calm) hl (reads_ints rv.ints) (alike_ints (i :: ns)) hu fun j v h' tk bs _ rd hk => fin v h' tk bs rd hk
theorem c_minZ {k : Nat} (c : XC X k) : CallR X (.builtin "min") (rMinZ X.K) := by
  intro pins s σ H vs us Q I r ⟨a, i, ns, e, hs, q⟩
  subst e
  have hu : X.A.units + 1 + PyData.depthAll ((i :: ns).map .int) < cLine := by
    rw [depth_ints]
    have := c.room.units
    omega
  have fin : ∀ (v : Value) (h' : Heap) (tk : Nat) (bs : List Addr), Reads h' v (PySem.W.minD (.int i) (ns.map .int)) bs → (∀ b o, s.heap.get? b = some o → h'.get? b = some o) → EP X pins σ Q v { s with heap := h', toks := tk } := fun v h' tk bs rd hk => by
    rw [PySem.W.minD_ints] at rd
    cases rd
    exact ⟨.int _, H, I.kept hk, ⟨_, rfl⟩, q⟩
  rcases hs with hs | hs
  · obtain ⟨its, rv, hl, _⟩ := I.list hs
    rw [Vals.ref1 r]
    exact PySem.W.min_list_data (I.ok.hd c.calm) hl.isList (reads_ints rv.ints) (alike_ints (i :: ns)) hu fun j v h' tk bs _ rd hk => fin v h' tk bs rd hk
  · obtain ⟨its, rv, hl, _⟩ := I.tuple hs
    rw [Vals.ref1 r]
    exact PySem.W.min_tuple_data (I.ok.hd c.calm) hl (reads_ints rv.ints) (alike_ints (i :: ns)) hu fun j v h' tk bs _ rd hk => fin v h' tk bs rd hk
/-- a list or a tuple of data -/
def DatS (m : Mem) (x : Ent) (ds : List PyData) : Prop := Dat m x (.list ds) ∨ x = .d (.tuple ds)
theorem DatS.sqI {K : PySem.W.Frag} {F H : Hp} {v : V} {ns : List Int} (h : DatS m x (ns.map .int)) (hm : MOk K F m H) (ok : EntOk K F v x) : ∃ a, v = .ref a ∧ SqI K H a ns := by
  rcases h with h | h
  · obtain ⟨p, xs, rfl, s, r⟩ := h.sqL hm ok
    rw [ints_of r] at s
    exact ⟨p, rfl, .inl s⟩
  · subst h
    obtain ⟨p, xs, rfl, s, r⟩ := dat_sqT hm ok
    rw [ints_of r] at s
    exact ⟨p, rfl, .inr s⟩
theorem sum_Z {ns : List Int} (hx : DatS m x (ns.map .int)) (k : K (.d (.int ns.sum)) m) : RCW X (rSumZ X.K) [x] m K := fun F H vs hm h Q q => by
  obtain ⟨v, rfl, ok⟩ := h.one
  obtain ⟨a, rfl, s⟩ := hx.sqI hm ok
  exact ⟨a, ns, rfl, s, q _ _ (PostE.here k (Rp.int _) hm)⟩
theorem max_Z {i : Int} {ns : List Int} (hx : DatS m x ((i :: ns).map .int)) (k : K (.d (.int (ns.foldl max i))) m) : RCW X (rMaxZ X.K) [x] m K := fun F H vs hm h Q q => by
  obtain ⟨v, rfl, ok⟩ := h.one
  obtain ⟨a, rfl, s⟩ := hx.sqI hm ok
  exact ⟨a, i, ns, rfl, s, q _ _ (PostE.here k (Rp.int _) hm)⟩
theorem min_Z {i : Int} {ns : List Int} (hx : DatS m x ((i :: ns).map .int)) (k : K (.d (.int (ns.foldl min i))) m) : RCW X (rMinZ X.K) [x] m K := fun F H vs hm h Q q => by
  obtain ⟨v, rfl, ok⟩ := h.one
  obtain ⟨a, rfl, s⟩ := hx.sqI hm ok
  exact ⟨a, i, ns, rfl, s, q _ _ (PostE.here k (Rp.int _) hm)⟩
end

/-! ### the end -/
/-- the law's own promise: of any script it hands back True -/
def lawS (n : Nat) : Prm where
  I := List Int
  args ns := [.d (.list (ns.map .int))]
  pre ns m := ns.length ≤ n ∧ (∀ z ∈ ns, Builtin.Int.intBits z ≤ 1048576) ∧ m = fun _ => none
  post _ _ r _ := r = .d (.bool true)
theorem rp_ints {K : PySem.W.Frag} {F : Hp} : ∀ ns : List Int, RpAll K F (ns.map V.int) (ns.map .int)
  | [] => .nil
  | i :: ns => .cons (.int i) (rp_ints ns)
theorem root_G {P : Program} {w : World} {K : PySem.W.Frag} {mg mb : Str → Option Value} {k n : Nat} {fa a : Addr} {fd : FuncData} {x : Str} {s₁ : Shared} {vs : List Value} {ns : List Int}
    (KX : K.In s₁.heap) (hns : s₁.heap.Ns mainGlobals mg) (hb : s₁.heap.Ns builtinsNs mb) (hbb : ∀ x : Str, x ≠ "__name__" → mb x = bootBuiltins x) (hlim : s₁.heap.NoLimit) (hgens : s₁.gens = #[])
    (ha : s₁.heap.get? a = some { cls := .type "list", data := .seq vs.toArray }) (hi : IntsAre vs ns) (hl : ns.length ≤ n) (hl2 : n ≤ sizeLine) (hbits : ∀ z ∈ ns, Builtin.Int.intBits z ≤ 1048576) (hr : Room k callerA)
    (G : ∀ base : Heap, K.In base → base.Ns mainGlobals mg → FnG P w K mg base k fa fd [x] (spW K (lawS n))) (hbind : ∀ (s : Shared) (u : Value), BindsTo s fd ⟨[u], []⟩ [(x, u)]) :
    codeAny (model P w) callerA (.call (.ref fa) ⟨[.ref a], []⟩) (fun r s' => r = .ok (.ret (.bool true)) ∧ OldK s₁.heap s'.heap ∧ s'.os = s₁.os ∧ AllBare s'.gens) s₁ := by
  have rv : Vals (ns.map V.int) vs := vals_ints hi
  obtain ⟨H, one, locked, seq, hold⟩ : ∃ H : Hp, (∀ b, H b ≠ none → b = a ∧ K.lookup a = none) ∧ (∀ b u, H b = some u → ∃ o xs, u = .frz o (.lst xs)) ∧ SqL K H a (ns.map V.int) ∧ HOk P w H s₁.heap := by
    cases hk : K.lookup a with
    | some o =>
      have e := KX a o hk
      rw [ha] at e
      cases e
      have no : ∀ (b : Addr) (u : HO), (fun _ => none : Hp) b = some u → False := fun b u z => by
        have z' : (none : Option HO) = some u := z
        cases z'
      refine ⟨fun _ => none, fun b z => absurd rfl z, fun b u z => (no b u z).elim, Or.inr ⟨_, vs.toArray, _, hk, rfl, rfl, rfl, ?_, by simpa using rv⟩, fun b u z => (no b u z).elim⟩
      rw [List.size_toArray, hi.length]
      omega
    | none =>
      have at_ : ∀ b u, (if b = a then some (HO.frz { cls := .type "list", data := .seq vs.toArray } (.lst (ns.map V.int))) else none) = some u → b = a ∧ u = .frz { cls := .type "list", data := .seq vs.toArray } (.lst (ns.map V.int)) := fun b u z => by
        split at z
        · cases z; exact ⟨by assumption, rfl⟩
        · cases z
      refine ⟨fun b => if b = a then some (.frz { cls := .type "list", data := .seq vs.toArray } (.lst (ns.map V.int))) else none, fun b z => ?_, fun b u z => ⟨_, _, (at_ b u z).2⟩, .inl (.inr ⟨_, if_pos rfl⟩), fun b u z => ?_⟩
      · by_cases q : b = a
        · exact ⟨q, rfl⟩
        · exact absurd (if_neg q) z
      · obtain ⟨rfl, rfl⟩ := at_ b u z
        exact ⟨ha, by rw [List.length_map]; omega, vs, _, rv, ha⟩
  have cases_H : ∀ b, H b = none ∨ ∃ u, H b = some u := fun b => by
    cases H b with
    | none => exact .inl rfl
    | some u => exact .inr ⟨u, rfl⟩
  have under : ∀ {b : Addr} {o : Obj}, s₁.heap.get? b = some o → H b = none → (hidT s₁.heap H).get? b = some o := fun e z => hidT_get e z
  have nodictH : ∀ {b : Addr} {o : Obj} {es : Array DictEntry} {ep : Nat}, s₁.heap.get? b = some o → o.data = .dict es ep → H b = none := fun {b o es ep} e d => by
    rcases cases_H b with z | ⟨u, z⟩
    · exact z
    · obtain ⟨rfl, _⟩ := one b (by rw [z]; exact fun q => nomatch q)
      rw [ha] at e
      cases e
      cases d
  have names : ∀ {b : Addr} {mm : Str → Option Value}, s₁.heap.Ns b mm → (hidT s₁.heap H).Ns b mm := fun {b mm} ⟨o, es, ep, e, d, q⟩ => ⟨o, es, ep, under e (nodictH e d), d, q⟩
  have kin : K.In (hidT s₁.heap H) := fun b o e => under (KX b o e) (by
    rcases cases_H b with z | ⟨u, z⟩
    · exact z
    · obtain ⟨rfl, q⟩ := one b (by rw [z]; exact fun q => nomatch q)
      rw [q] at e
      cases e)
  have lim : (hidT s₁.heap H).NoLimit := by
    obtain ⟨mc, h1, h2⟩ := hlim
    exact ⟨mc, names h1, h2⟩
  have e0 : Env0 P w K mg (hidT s₁.heap H) callerA [] s₁ H := ⟨rfl, ⟨kin, names hns, ⟨mb, names hb, hbb⟩, lim⟩, fun b o e => of_hidT e, Nat.le_of_eq (hidT_size _ _), trivial, fun b hb => absurd (show b ∈ ([] : List Addr) from hb) (by simp), hold, .of_eq hgens⟩
  have want : spW K (lawS n) [.ref a] H (fun v _ => v = .bl true) E0 := by
    refine ⟨ns, H, fun _ => none, .cons (Rp.lst seq (rp_ints ns)) .nil, ⟨fun _ _ z => z, fun _ o z => absurd (show (none : Option XO) = some o from z) (fun q => nomatch q), fun _ o z => absurd (show (none : Option XO) = some o from z) (fun q => nomatch q)⟩, ⟨hl, hbits, rfl⟩, fun F' r m' v H' q ok _ _ => ?_⟩
    have q' : r = .d (.bool true) := q
    subst q'
    exact ok.bl
  refine codeAny_mono ((G _ kin (names hns)).run callerA [] s₁ H ⟨[.ref a], []⟩ [.ref a] [.ref a] _ _ hr rfl e0 (hbind s₁ (.ref a)) (.cons rfl .nil) want) fun r s' h => ?_
  match r, h with
  | .error e, ⟨_, _, _, _, _, _, _, _, _, _, _, _, z⟩ => exact z.elim
  | .ok (.ret u), ⟨v, H', os, bare, un, hok', rel, q⟩ =>
    have q' : v = .bl true := q
    subst q'
    obtain rfl : u = Value.bool true := rel
    refine ⟨rfl, OldK.of_keep fun b o e => ?_, os, bare⟩
    rcases cases_H b with z | ⟨u, z⟩
    · exact un.keep b o e z (fun q => absurd (show b ∈ ([] : List Addr) from q) (by simp)) (by simp)
    · obtain ⟨ob, xs, rfl⟩ := locked b u z
      have f1 := (hold b _ z).1
      have f2 := (hok' b _ (un.frzs b ob _ z)).1
      rw [e] at f1
      cases f1
      exact f2
theorem walk_G {l : PySem.W.OpenLaw} {n k : Nat} {q : Program} {loose : List Str} {XP : (Str → Option Value) → Heap → Prop} {YP : World → Heap → Prop} {d : DefRec} {K : Params → PySem.W.Frag} {x : Str}
    (hn : l.most = some n) (hn2 : n ≤ sizeLine) (hdf : d.params.defaults = []) (hr : Room k callerA)
    (hY : ∀ (w : World) (h : Heap), YP w h → (K w.params).In h)
    (G : ∀ (w : World) (mg : Str → Option Value) (fa : Addr) (h : Heap), (K w.params).In h → h.Ns mainGlobals mg → mg d.name = some (.ref fa) →
      ∃ fd : FuncData, (∀ (s : Shared) (u : Value), BindsTo s fd ⟨[u], []⟩ [(x, u)]) ∧
        ∀ base : Heap, (K w.params).In base → base.Ns mainGlobals mg → FnG l.prog w (K w.params) mg base k fa fd [x] (spW (K w.params) (lawS n))) :
    PySem.W.WalkO q loose XP YP l.row.toRowW d [] (fun f vs => PySem.call f vs) := by
  refine Att.attach_callB hn hdf fun w s₀ s₁ mg mb fa o pm cd doc a vs ns Gr Y _ _ _ hmg hobj hints hlen hbits hgens => ?_
  have KX := hY w _ Y
  obtain ⟨fd, hb, hF⟩ := G w mg fa _ KX Gr.T.g hmg
  exact root_G KX Gr.T.g Gr.T.b Gr.T.builtins Gr.T.nolimit hgens hobj hints hlen hn2 hbits hr hF hb
end Z

namespace T
open PySem PySem.Spec L2 Z
local macro_rules | `(tactic| walk_at "zloc") => `(tactic| first | exact Or.inl rfl | exact Or.inr rfl)
local macro_rules | `(tactic| walk_at "zmem") => `(tactic| first | exact Mem.put_same | assumption | (refine (Mem.put_ne (by first | assumption | exact Ne.symm (by assumption))).trans ?_; walk_at "zmem"))
local macro_rules | `(tactic| walk_at "zdat") => `(tactic| first | exact Dat.d | exact Dat.ex (by walk_at "zmem") | assumption)
local macro_rules | `(tactic| walk_at "zds") => `(tactic| first | exact Or.inr rfl | exact Or.inl (by walk_at "zdat"))
local macro_rules | `(tactic| walk_at "zty") => `(tactic| first | exact ty_S | exact ty_X (by walk_at "zmem") | exact ty_L (by walk_at "zdat"))
local macro_rules | `(tactic| walk_at "zsm") => `(tactic| first | omega | exact CMulZ.small (by omega) (by omega) | exact wide_div (b := 60) (by omega) (by omega) (by decide) (by decide) | exact ⟨by decide, by decide, by decide⟩)
local macro_rules | `(tactic| walk_at "zln") => `(tactic| first | (simp only [List.length_cons, List.length_nil, List.length_append, List.length_map]; omega) | omega)
local macro_rules | `(tactic| walk_at "z+") => `(tactic| first | refine add_I ?_ | refine add_T (by walk_at "zln") ?_ | refine add_L (by walk_at "zdat") (by walk_at "zdat") (by walk_at "zln") ?_ | refine add_S (by walk_at "zln") ?_)
local macro_rules | `(tactic| walk_at "z[]") => `(tactic| first | refine ix_X (by walk_at "zmem") (by rfl) ?_ | refine ix_T (by rfl) ?_ | refine ix_L (by walk_at "zdat") (by rfl) ?_)
local macro_rules | `(tactic| walk_at "z:") => `(tactic| first | refine sl_T ?_ | refine sl_L (by walk_at "zdat") ?_)
local macro_rules | `(tactic| walk_at "zlen") => `(tactic| first | refine len_T ?_ | refine len_L (by walk_at "zdat") ?_ | refine len_X (by walk_at "zmem") ?_)
local macro_rules | `(tactic| walk_at "zabs") => `(tactic| refine abs_I ?_)
local macro_rules | `(tactic| walk_at "zint") => `(tactic| first | refine int_I ?_ | refine int_B ?_)
local macro_rules | `(tactic| walk_at "ztuple") => `(tactic| first | refine tuple_T ?_ | refine tuple_L (by walk_at "zdat") ?_)
local macro_rules | `(tactic| walk_at "zlist") => `(tactic| first | refine list_T ?_ | refine list_L (by walk_at "zdat") ?_)
local macro_rules | `(tactic| walk_at "zin") => `(tactic| first | refine in_T rfl rfl rfl rfl ?_ | refine in_L (by walk_at "zdat") rfl rfl rfl rfl ?_)

def top (i : Nat) : Stmt := PySem.Challenge.pw_spanvault_k05_whole_summaries_of_parts.main.body.getD i (.Pass ⟨0, 0, 0, 0⟩)
abbrev s_summary : Stmt := top 1
abbrev n_summary : List Str := ["kind", "history", "stretch", "values"]
abbrev p_summary : List Str := ["kind", "history", "stretch"]
theorem sc_summary : FnScope n_summary p_summary (defScope s_summary) := ⟨rfl, rfl, rfl, by decide +kernel, rfl, by decide +kernel, by decide +kernel⟩
abbrev s_l_feed : Stmt := top 3
abbrev n_l_feed : List Str := ["_law_script", "_law_k", "_law_cell", "_law_digits", "_law_state"]
abbrev p_l_feed : List Str := ["_law_script", "_law_k"]
theorem sc_l_feed : FnScope n_l_feed p_l_feed (defScope s_l_feed) := ⟨rfl, rfl, rfl, by decide +kernel, rfl, by decide +kernel, by decide +kernel⟩
abbrev s_l_take : Stmt := top 4
abbrev n_l_take : List Str := ["_law_feed_here", "_law_many", "_law_digit"]
abbrev p_l_take : List Str := ["_law_feed_here", "_law_many"]
theorem sc_l_take : FnScope n_l_take p_l_take (defScope s_l_take) := ⟨rfl, rfl, rfl, by decide +kernel, rfl, by decide +kernel, by decide +kernel⟩
abbrev s_l_pick : Stmt := top 5
abbrev n_l_pick : List Str := ["_law_feed_here", "_law_some"]
abbrev p_l_pick : List Str := ["_law_feed_here", "_law_some"]
theorem sc_l_pick : FnScope n_l_pick p_l_pick (defScope s_l_pick) := ⟨rfl, rfl, rfl, by decide +kernel, rfl, by decide +kernel, by decide +kernel⟩
abbrev s_l_stretch : Stmt := top 6
abbrev n_l_stretch : List Str := ["_law_feed_here", "_law_most", "_law_start"]
abbrev p_l_stretch : List Str := ["_law_feed_here", "_law_most"]
theorem sc_l_stretch : FnScope n_l_stretch p_l_stretch (defScope s_l_stretch) := ⟨rfl, rfl, rfl, by decide +kernel, rfl, by decide +kernel, by decide +kernel⟩
abbrev s_l_buckets : Stmt := top 7
abbrev n_l_buckets : List Str := ["_law_feed_here", "_law_most", "_law_many", "_law_found", "_law_turn", "_law_one", "_law_other", "_law_some"]
abbrev p_l_buckets : List Str := ["_law_feed_here", "_law_most", "_law_many"]
theorem sc_l_buckets : FnScope n_l_buckets p_l_buckets (defScope s_l_buckets) := ⟨rfl, rfl, rfl, by decide +kernel, rfl, by decide +kernel, by decide +kernel⟩
abbrev s_l_history : Stmt := top 8
abbrev n_l_history : List Str := ["_law_feed_here", "_law_kind", "_law_hours", "_law_far", "_law_hour"]
abbrev p_l_history : List Str := ["_law_feed_here", "_law_kind", "_law_hours"]
theorem sc_l_history : FnScope n_l_history p_l_history (defScope s_l_history) := ⟨rfl, rfl, rfl, by decide +kernel, rfl, by decide +kernel, by decide +kernel⟩
abbrev s_l_summary : Stmt := top 9
abbrev n_l_summary : List Str := ["_law_kind", "_law_history_here", "_law_stretch_here", "_law_found", "_law_hour", "_law_value"]
abbrev p_l_summary : List Str := ["_law_kind", "_law_history_here", "_law_stretch_here"]
theorem sc_l_summary : FnScope n_l_summary p_l_summary (defScope s_l_summary) := ⟨rfl, rfl, rfl, by decide +kernel, rfl, by decide +kernel, by decide +kernel⟩
abbrev s_l_joined : Stmt := top 10
abbrev n_l_joined : List Str := ["_law_kind", "_law_one", "_law_other"]
abbrev p_l_joined : List Str := ["_law_kind", "_law_one", "_law_other"]
theorem sc_l_joined : FnScope n_l_joined p_l_joined (defScope s_l_joined) := ⟨rfl, rfl, rfl, by decide +kernel, rfl, by decide +kernel, by decide +kernel⟩
abbrev s_law : Stmt := top 11
abbrev n_law : List Str := ["_law_script", "_law_k", "_law_feed_here", "_law_kind", "_law_hours", "_law_history_here", "_law_turn", "_law_start", "_law_end", "_law_whole", "_law_middle", "_law_first", "_law_other", "_law_mixed", "_law_turned", "_law_against", "_law_value"]
abbrev p_law : List Str := ["_law_script"]
theorem sc_law : FnScope n_law p_law (defScope s_law) := ⟨rfl, rfl, rfl, by decide +kernel, rfl, by decide +kernel, by decide +kernel⟩
structure Txt (K : PySem.W.Frag) (mg : Str → Option Value) : Prop where
  b_abs : mg "abs" = none
  b_int : mg "int" = none
  b_len : mg "len" = none
  b_max : mg "max" = none
  b_min : mg "min" = none
  b_range : mg "range" = none
  b_sum : mg "sum" = none
  b_tuple : mg "tuple" = none
  f_summary : ∃ f fd, Fun K "summary" "summary" s_summary f fd ∧ mg "summary" = some (.ref f)
  f_l_feed : ∃ f fd, Fun K "_law_feed" "_law_feed" s_l_feed f fd ∧ mg "_law_feed" = some (.ref f)
  f_l_take : ∃ f fd, Fun K "_law_take" "_law_take" s_l_take f fd ∧ mg "_law_take" = some (.ref f)
  f_l_pick : ∃ f fd, Fun K "_law_pick" "_law_pick" s_l_pick f fd ∧ mg "_law_pick" = some (.ref f)
  f_l_stretch : ∃ f fd, Fun K "_law_stretch" "_law_stretch" s_l_stretch f fd ∧ mg "_law_stretch" = some (.ref f)
  f_l_history : ∃ f fd, Fun K "_law_history" "_law_history" s_l_history f fd ∧ mg "_law_history" = some (.ref f)
  f_l_joined : ∃ f fd, Fun K "_law_joined" "_law_joined" s_l_joined f fd ∧ mg "_law_joined" = some (.ref f)
/-! the draws -/
abbrev fdO (c : Int × Int) : XO := .lst [.d (.int c.1), .d (.int c.2)]
def FOk (c : Int × Int) : Prop := 0 ≤ c.1 ∧ 0 ≤ c.2 ∧ c.2 < 2305843009213693951
def S_feed : Prm where
  I := List Int × Nat
  args i := [.d (.list (i.1.map .int)), .d (.int (i.2 : Int))]
  pre i m := i.2 < 1000 ∧ ∀ z ∈ i.1, Builtin.Int.intBits z ≤ 1048576
  post i m r m' := ∃ p c, m p = none ∧ FOk c ∧ r = .x p ∧ m' = m.put p (fdO c)
def S_take : Prm where
  I := Addr × (Int × Int) × Int
  args i := [.x i.1, .d (.int i.2.2)]
  pre i m := m i.1 = some (fdO i.2.1) ∧ FOk i.2.1 ∧ 0 < i.2.2 ∧ i.2.2 < 2 ^ 60
  post i m r m' := ∃ v c, FOk c ∧ 0 ≤ v ∧ v < i.2.2 ∧ r = .d (.int v) ∧ m' = m.put i.1 (fdO c)
def S_pick : Prm where
  I := Addr × (Int × Int) × Ent × List PyData
  args i := [.x i.1, i.2.2.1]
  pre i m := m i.1 = some (fdO i.2.1) ∧ FOk i.2.1 ∧ Dat m i.2.2.1 (.list i.2.2.2) ∧ i.2.2.1 ≠ .x i.1 ∧ 0 < i.2.2.2.length ∧ i.2.2.2.length < 2 ^ 50
  post i m r m' := ∃ d c, FOk c ∧ d ∈ i.2.2.2 ∧ r = .d d ∧ m' = m.put i.1 (fdO c)
def S_stretch : Prm where
  I := Addr × (Int × Int) × Nat
  args i := [.x i.1, .d (.int (i.2.2 : Int))]
  pre i m := m i.1 = some (fdO i.2.1) ∧ FOk i.2.1 ∧ 0 < i.2.2 ∧ i.2.2 < 2 ^ 50
  post i m r m' := ∃ (a b : Nat) (c : Int × Int), FOk c ∧ a < b ∧ b ≤ i.2.2 ∧ r = .d (.tuple [.int (a : Int), .int (b : Int)]) ∧ m' = m.put i.1 (fdO c)
theorem Dat.put {m : Mem} {x : Ent} {d : PyData} {f : Addr} {o : XO} (h : Dat m x d) (hx : x ≠ .x f) : Dat (m.put f o) x d := by
  rcases h with h | ⟨p, ds, rfl, hp, e⟩
  · exact .inl h
  · exact .inr ⟨p, ds, rfl, by rw [Mem.put_ne (fun q => hx (by rw [q]))]; exact hp, e⟩
theorem use_l_feed {m : Mem} {K : KE} {ns : List Int} {k : Nat} (h0 : k < 1000) (h1 : ∀ z ∈ ns, Builtin.Int.intBits z ≤ 1048576) (h : ∀ p c, m p = none → FOk c → K (.x p) (m.put p (fdO c))) :
    ∃ i, [Ent.d (.list (ns.map .int)), .d (.int (k : Int))] = S_feed.args i ∧ S_feed.pre i m ∧ ∀ r m', S_feed.post i m r m' → K r m' :=
  ⟨(ns, k), rfl, ⟨h0, h1⟩, fun r m' ⟨p, c, hp, hc, e1, e2⟩ => by subst e1 e2; exact h p c hp hc⟩
theorem use_l_take {m0 : Mem} {K : KE} {f : Addr} {c : Int × Int} {k : Int} (hc : FOk c) (h0 : 0 < k) (h1 : k < 2 ^ 60) (h : ∀ v c', FOk c' → 0 ≤ v → v < k → K (.d (.int v)) (m0.put f (fdO c'))) :
    ∃ i, [.x f, .d (.int k)] = S_take.args i ∧ S_take.pre i (m0.put f (fdO c)) ∧ ∀ r m', S_take.post i (m0.put f (fdO c)) r m' → K r m' :=
  ⟨(f, c, k), rfl, ⟨Mem.put_same, hc, h0, h1⟩, fun r m' ⟨v, c', hc', a, b, e1, e2⟩ => by subst e1 e2; rw [Mem.put_put]; exact h v c' hc' a b⟩
theorem use_l_pick {m0 : Mem} {K : KE} {f : Addr} {c : Int × Int} {x : Ent} {ds : List PyData} (hc : FOk c) (hx : Dat (m0.put f (fdO c)) x (.list ds)) (hf : x ≠ .x f) (h0 : 0 < ds.length) (h1 : ds.length < 2 ^ 50) (h : ∀ d c', FOk c' → d ∈ ds → K (.d d) (m0.put f (fdO c'))) :
    ∃ i, [.x f, x] = S_pick.args i ∧ S_pick.pre i (m0.put f (fdO c)) ∧ ∀ r m', S_pick.post i (m0.put f (fdO c)) r m' → K r m' :=
  ⟨(f, c, x, ds), rfl, ⟨Mem.put_same, hc, hx, hf, h0, h1⟩, fun r m' ⟨d, c', hc', a, e1, e2⟩ => by subst e1 e2; rw [Mem.put_put]; exact h d c' hc' a⟩
theorem use_l_pickD {m0 : Mem} {K : KE} {f : Addr} {c : Int × Int} {ds : List PyData} (hc : FOk c) (h0 : 0 < ds.length) (h1 : ds.length < 2 ^ 50) (h : ∀ d c', FOk c' → d ∈ ds → K (.d d) (m0.put f (fdO c'))) :
    ∃ i, [.x f, .d (.list ds)] = S_pick.args i ∧ S_pick.pre i (m0.put f (fdO c)) ∧ ∀ r m', S_pick.post i (m0.put f (fdO c)) r m' → K r m' := use_l_pick hc .d (fun e => nomatch e) h0 h1 h
theorem use_l_stretch {m0 : Mem} {K : KE} {f : Addr} {c : Int × Int} {k : Nat} (hc : FOk c) (h0 : 0 < k) (h1 : k < 2 ^ 50) (h : ∀ (a b : Nat) c', FOk c' → a < b → b ≤ k → K (.d (.tuple [.int (a : Int), .int (b : Int)])) (m0.put f (fdO c'))) :
    ∃ i, [.x f, .d (.int (k : Int))] = S_stretch.args i ∧ S_stretch.pre i (m0.put f (fdO c)) ∧ ∀ r m', S_stretch.post i (m0.put f (fdO c)) r m' → K r m' :=
  ⟨(f, c, k), rfl, ⟨Mem.put_same, hc, h0, h1⟩, fun r m' ⟨a, b, c', hc', h2, h3, e1, e2⟩ => by subst e1 e2; rw [Mem.put_put]; exact h a b c' hc' h2 h3⟩
theorem fd_of {m : Mem} {f : Addr} {c : Int × Int} (h : m f = some (fdO c)) : m = m.put f (fdO c) := by
  funext b
  by_cases hb : b = f
  · subst hb; rw [Mem.put_same, h]
  · rw [Mem.put_ne hb]
theorem bits_log {z : Int} {k : Nat} (h : Builtin.Int.intBits z ≤ k) : z.natAbs.log2 ≤ k := by
  unfold Builtin.Int.intBits at h
  split at h
  · rename_i e
    have : z.natAbs = 0 := by
      first
        | (have e' := eq_of_beq e; omega)
        | omega
        | simp_all
    rw [this]
    exact Nat.le_trans (by decide) (Nat.zero_le _)
  · omega
theorem nat_get {α : Type} {xs : List α} {k : Nat} (h : (k : Int) < (xs.length : Int)) : ∃ z, atI xs (k : Int) = some z ∧ z ∈ xs := by
  have hk : k < xs.length := by omega
  exact ⟨xs[k], atI_nat (List.getElem?_eq_getElem hk), List.getElem_mem hk⟩
theorem int_get {α : Type} {xs : List α} {k : Int} (h0 : 0 ≤ k) (h : k < (xs.length : Int)) : ∃ z, atI xs k = some z ∧ z ∈ xs := by
  obtain ⟨z, h1, h2⟩ := nat_get (xs := xs) (k := k.toNat) (by omega)
  exact ⟨z, by rw [← h1]; congr 1; omega, h2⟩

theorem atI_map {α β : Type} {f : α → β} {xs : List α} {i : Int} : atI (xs.map f) i = (atI xs i).map f := by
  unfold atI
  rw [List.length_map]
  cases ixN xs.length i with
  | none => rfl
  | some j => simp
theorem small_log {z : Int} (h : -(2 ^ 400) < z ∧ z < 2 ^ 400) : z.natAbs.log2 ≤ 1048576 := by
  have e1 : z.natAbs < 2 ^ 400 := by omega
  have a1 := PySem.Flt.log2_lt_of (by decide) e1
  omega
theorem cell_mul {z k : Int} (h : z.natAbs.log2 ≤ 1048576) (hk : k.natAbs < 2 ^ 400 := by decide) : CMulZ z k := by
  have a1 := PySem.Flt.log2_lt_of (by decide) hk
  unfold CMulZ
  omega

/-! histories: of whole numbers or of texts -/
inductive HV where
  | I (xs : List Int)
  | S (xs : List Str)
def HV.ds : HV → List PyData
  | .I xs => xs.map .int
  | .S xs => xs.map .str
def HV.cut (a b : Nat) : HV → HV
  | .I xs => .I ((xs.drop a).take (b - a))
  | .S xs => .S ((xs.drop a).take (b - a))
def HV.len : HV → Nat
  | .I xs => xs.length
  | .S xs => xs.length
theorem HV.ds_len (h : HV) : h.ds.length = h.len := by cases h <;> simp [HV.ds, HV.len]
def kinds6 : List Str := ["sum", "list", "greatest", "least", "first", "last"]
/-- the history fits the kind -/
def HV.ok (k : Str) : HV → Prop
  | .I _ => k ≠ "list"
  | .S xs => k = "list" ∧ ∀ x ∈ xs, x.length ≤ 3
def smI (k : Str) : List Int → Int
  | [] => 0
  | i :: t => if k = "sum" then (i :: t).sum else if k = "greatest" then t.foldl max i else if k = "least" then t.foldl min i else if k = "first" then i else (i :: t).getLast (by simp)
def HV.sm (k : Str) : HV → PyData
  | .I xs => .int (smI k xs)
  | .S xs => .str (Txt.join "" xs)
theorem sIx_lo {n a : Nat} (h : a ≤ n) (d : Nat) : HT.sIx n d (some (a : Int)) = a := by rw [HT.sIx_nat]; omega
theorem cutD_nat {α : Type} {xs : List α} {a b : Nat} (h1 : a ≤ b) (h2 : b ≤ xs.length) : cutD xs (some (a : Int)) (some (b : Int)) = (xs.drop a).take (b - a) := by
  unfold cutD
  have e1 := sIx_lo (n := xs.length) (a := a) (by omega) 0
  have e2 := sIx_lo h2 xs.length
  rw [e1, e2]
theorem HV.cut_ds {h : HV} {a b : Nat} (h1 : a ≤ b) (h2 : b ≤ h.len) : cutD h.ds (some (a : Int)) (some (b : Int)) = (h.cut a b).ds := by
  rw [cutD_nat h1 (by rw [HV.ds_len]; exact h2)]
  cases h <;> simp [HV.ds, HV.cut, List.map_take, List.map_drop]
theorem HV.cut_len {h : HV} {a b : Nat} (h2 : b ≤ h.len) : (h.cut a b).len = b - a := by
  cases h <;> simp [HV.len, HV.cut] at * <;> omega
theorem HV.cut_ok {k : Str} {h : HV} {a b : Nat} (o : h.ok k) : (h.cut a b).ok k := by
  cases h with
  | I xs => exact o
  | S xs => exact ⟨o.1, fun x hx => o.2 x (List.mem_of_mem_drop (List.mem_of_mem_take hx))⟩
def S_history : Prm where
  I := Addr × (Int × Int) × Str × Nat
  args i := [.x i.1, .d (.str i.2.2.1), .d (.int (i.2.2.2 : Int))]
  pre i m := m i.1 = some (fdO i.2.1) ∧ FOk i.2.1 ∧ i.2.2.2 ≤ 100
  post i m r m' := ∃ (h : HV) (c : Int × Int), FOk c ∧ h.len = i.2.2.2 ∧ h.ok i.2.2.1 ∧ r = .d (.tuple h.ds) ∧ m' = m.put i.1 (fdO c)
theorem use_l_history {m0 : Mem} {K : KE} {f : Addr} {c : Int × Int} {kind : Str} {k : Nat} (hc : FOk c) (h0 : k ≤ 100) (h : ∀ (h : HV) c', FOk c' → h.len = k → h.ok kind → K (.d (.tuple h.ds)) (m0.put f (fdO c'))) :
    ∃ i, [.x f, .d (.str kind), .d (.int (k : Int))] = S_history.args i ∧ S_history.pre i (m0.put f (fdO c)) ∧ ∀ r m', S_history.post i (m0.put f (fdO c)) r m' → K r m' :=
  ⟨(f, c, kind, k), rfl, ⟨Mem.put_same, hc, h0⟩, fun r m' ⟨hv, c', hc', h1, h2, e1, e2⟩ => by subst e1 e2; rw [Mem.put_put]; exact h hv c' hc' h1 h2⟩
def S_summary : Prm where
  I := Str × HV × Nat × Nat
  args i := [.d (.str i.1), .d (.tuple i.2.1.ds), .d (.tuple [.int (i.2.2.1 : Int), .int (i.2.2.2 : Int)])]
  pre i m := i.2.1.ok i.1 ∧ i.2.2.1 < i.2.2.2 ∧ i.2.2.2 ≤ i.2.1.len ∧ i.2.1.len ≤ 100
  post i m r m' := r = .d ((i.2.1.cut i.2.2.1 i.2.2.2).sm i.1) ∧ m' = m
theorem use_summary {m : Mem} {K : KE} {kind : Str} {h : HV} {a b : Nat} (h1 : h.ok kind) (h2 : a < b) (h3 : b ≤ h.len) (h4 : h.len ≤ 100) (k : K (.d ((h.cut a b).sm kind)) m) :
    ∃ i, [.d (.str kind), .d (.tuple h.ds), .d (.tuple [.int (a : Int), .int (b : Int)])] = S_summary.args i ∧ S_summary.pre i m ∧ ∀ r m', S_summary.post i m r m' → K r m' :=
  ⟨(kind, h, a, b), rfl, ⟨h1, h2, h3, h4⟩, fun r m' ⟨e1, e2⟩ => by subst e1 e2; exact k⟩
theorem HV.int_of {k : Str} {u : HV} (o : u.ok k) (hk : k ≠ "list") (hl : 0 < u.len) : ∃ i t, u = .I (i :: t) := by
  cases u with
  | I xs =>
    cases xs with
    | nil => exact absurd hl (by simp [HV.len])
    | cons i t => exact ⟨i, t, rfl⟩
  | S xs => exact absurd o.1 hk
theorem HV.str_of {k : Str} {u : HV} (o : u.ok k) (hk : k = "list") : ∃ xs, u = .S xs ∧ ∀ x ∈ xs, x.length ≤ 3 := by
  cases u with
  | I xs => exact absurd hk o
  | S xs => exact ⟨xs, rfl, o.2⟩
theorem sum_len : ∀ {xs : List Str}, (∀ x ∈ xs, x.length ≤ 3) → (xs.map (·.length)).sum ≤ 3 * xs.length
  | [], _ => by simp
  | x :: xs, h => by
    have h1 := h x List.mem_cons_self
    have h2 := sum_len (xs := xs) fun y hy => h y (List.mem_cons_of_mem _ hy)
    rw [List.map_cons, List.sum_cons, List.length_cons]
    omega
theorem join_len {a b : Nat} (h : a ≤ 1000000) : a + b * (Str.ofString "").length ≤ 16777216 := by
  have e0 : (Str.ofString "").length = 0 := by decide +kernel
  rw [e0]
  omega
theorem last_get (i : Int) (t : List Int) : atI ((i :: t).map PyData.int) (-1) = some (.int ((i :: t).getLast (by simp))) := by
  obtain ⟨l, hl⟩ : ∃ l, i :: t = l ++ [(i :: t).getLast (by simp)] := ⟨_, (List.dropLast_concat_getLast (by simp)).symm⟩
  have e : (i :: t).map PyData.int = l.map PyData.int ++ [.int ((i :: t).getLast (by simp))] := by
    have := congrArg (List.map PyData.int) hl
    rw [List.map_append] at this
    exact this
  rw [e]
  exact atI_last _ _

theorem pick_txt {d : PyData} (h : d ∈ ([.str "", .str "a", .str "b", .str "ab", .str "ba", .str "aa", .str "zyx"] : List PyData)) : ∃ x : Str, d = .str x ∧ x.length ≤ 3 := by
  simp only [List.mem_cons, List.mem_nil_iff, or_false] at h
  rcases h with rfl | rfl | rfl | rfl | rfl | rfl | rfl <;> exact ⟨_, rfl, by decide +kernel⟩
theorem pick_int {d : PyData} {a b c e f g h i : Int} (hd : d ∈ ([.int a, .int b, .int c, .int e, .int f, .int g, .int h, .int i] : List PyData)) : ∃ x : Int, d = .int x := by
  simp only [List.mem_cons, List.mem_nil_iff, or_false] at hd
  rcases hd with rfl | rfl | rfl | rfl | rfl | rfl | rfl | rfl <;> exact ⟨_, rfl⟩
theorem far_int {d : PyData} {a b c : Int} (hd : d ∈ ([.int a, .int b, .int c] : List PyData)) : ∃ x : Int, d = .int x := by
  simp only [List.mem_cons, List.mem_nil_iff, or_false] at hd
  rcases hd with rfl | rfl | rfl <;> exact ⟨_, rfl⟩

theorem in2 {k a b : Str} : inV (.str k) [.str a, .str b] = (decide (a = k) || decide (b = k)) := by simp [inV, eqV, Bool.beq_eq_decide_eq]
theorem is_in2 {k a b : Str} (h : (if false = true then !inV (.str k) [.str a, .str b] else inV (.str k) [.str a, .str b]) = true) : k = a ∨ k = b := by
  rw [if_neg Bool.false_ne_true, in2, Bool.or_eq_true, decide_eq_true_eq, decide_eq_true_eq] at h
  exact h.imp Eq.symm Eq.symm
theorem not_in2 {k a b : Str} (h : (if false = true then !inV (.str k) [.str a, .str b] else inV (.str k) [.str a, .str b]) = false) : k ≠ a ∧ k ≠ b := by
  rw [if_neg Bool.false_ne_true, in2, Bool.or_eq_false_iff, decide_eq_false_iff_not, decide_eq_false_iff_not] at h
  exact ⟨fun e => h.1 e.symm, fun e => h.2 e.symm⟩
theorem sm_sum {i : Int} {t : List Int} : HV.sm "sum" (.I (i :: t)) = .int (i :: t).sum := by
  simp only [HV.sm, smI]
  rw [if_pos trivial]
theorem sm_greatest {i : Int} {t : List Int} : HV.sm "greatest" (.I (i :: t)) = .int (t.foldl max i) := by
  simp only [HV.sm, smI]
  rw [if_neg (by decide +kernel), if_pos trivial]
theorem sm_least {i : Int} {t : List Int} : HV.sm "least" (.I (i :: t)) = .int (t.foldl min i) := by
  simp only [HV.sm, smI]
  rw [if_neg (by decide +kernel), if_neg (by decide +kernel), if_pos trivial]
theorem sm_first {i : Int} {t : List Int} : HV.sm "first" (.I (i :: t)) = .int i := by
  simp only [HV.sm, smI]
  rw [if_neg (by decide +kernel), if_neg (by decide +kernel), if_neg (by decide +kernel), if_pos trivial]
theorem sm_last {k : Str} {i : Int} {t : List Int} (h1 : k ≠ "sum") (h2 : k ≠ "greatest") (h3 : k ≠ "least") (h4 : k ≠ "first") : HV.sm k (.I (i :: t)) = .int ((i :: t).getLast (by simp)) := by
  simp only [HV.sm, smI]
  rw [if_neg h1, if_neg h2, if_neg h3, if_neg h4]

def jnI (k : Str) (i j : Int) : Int := if k = "sum" then i + j else if k = "greatest" then max i j else if k = "least" then min i j else if k = "first" then i else j
def jn (k : Str) : PyData → PyData → PyData
  | .int i, .int j => .int (jnI k i j)
  | .str x, .str y => .str (x ++ y)
  | _, _ => .none
/-- one value of a kind -/
def V1 (k : Str) (d : PyData) : Prop := (k ≠ "list" ∧ ∃ i, d = .int i) ∨ (k = "list" ∧ ∃ x : Str, d = .str x ∧ x.length ≤ 1000)
def S_joined : Prm where
  I := Str × PyData × PyData
  args i := [.d (.str i.1), .d i.2.1, .d i.2.2]
  pre i m := V1 i.1 i.2.1 ∧ V1 i.1 i.2.2
  post i m r m' := r = .d (jn i.1 i.2.1 i.2.2) ∧ m' = m
theorem use_l_joined {m : Mem} {K : KE} {kind : Str} {a b : PyData} (h1 : V1 kind a) (h2 : V1 kind b) (k : K (.d (jn kind a b)) m) :
    ∃ i, [.d (.str kind), .d a, .d b] = S_joined.args i ∧ S_joined.pre i m ∧ ∀ r m', S_joined.post i m r m' → K r m' :=
  ⟨(kind, a, b), rfl, ⟨h1, h2⟩, fun r m' ⟨e1, e2⟩ => by subst e1 e2; exact k⟩
theorem V1.int {k : Str} {d : PyData} (h : V1 k d) (hk : k ≠ "list") : ∃ i, d = .int i := h.elim (fun h => h.2) fun h => absurd h.1 hk
theorem V1.str {k : Str} {d : PyData} (h : V1 k d) (hk : k = "list") : ∃ x : Str, d = .str x ∧ x.length ≤ 1000 := h.elim (fun h => absurd hk h.1) fun h => h.2
theorem tl_flat (xs : List Str) : TL.tl (Txt.join "" xs) = (xs.map TL.tl).flatten := by
  have e0 : TL.tl ("" : Str) = [] := by decide +kernel
  rw [TL.join_eq, TL.tl_join, e0]
  generalize xs.map TL.tl = l
  induction l with
  | nil => rfl
  | cons p l ih =>
    cases l with
    | nil => simp [TL.joinL]
    | cons q r =>
      show p ++ ([] ++ TL.joinL [] (q :: r)) = _
      rw [ih]
      simp
theorem join_app (xs ys : List Str) : Txt.join "" (xs ++ ys) = Txt.join "" xs ++ Txt.join "" ys := by
  apply TL.ext_tl
  rw [TL.tl_append, tl_flat, tl_flat, tl_flat, List.map_append, List.flatten_append]
theorem join_one (x : Str) : Txt.join "" [x] = x := by
  apply TL.ext_tl
  rw [tl_flat]
  simp
theorem join_size {xs : List Str} (h : ∀ x ∈ xs, x.length ≤ 3) : (Txt.join "" xs).length ≤ 3 * xs.length := by
  have e : (Txt.join "" xs).length = (TL.tl (Txt.join "" xs)).length := (Array.length_toList).symm
  rw [e, tl_flat]
  clear e
  induction xs with
  | nil => simp
  | cons x xs ih =>
    have h1 := h x List.mem_cons_self
    have e1 : (TL.tl x).length = x.length := Array.length_toList
    have h2 := ih fun y hy => h y (List.mem_cons_of_mem _ hy)
    rw [List.map_cons, List.flatten_cons, List.length_append, List.length_cons, e1]
    omega
theorem HV.sm_V1 {k : Str} {u : HV} (o : u.ok k) (hl : u.len ≤ 100) : V1 k (u.sm k) := by
  cases u with
  | I xs => exact .inl ⟨o, _, rfl⟩
  | S xs =>
    refine .inr ⟨o.1, _, rfl, ?_⟩
    have := join_size o.2
    have e : (HV.S xs).len = xs.length := rfl
    omega
theorem foldl_max_app (i j : Int) (s t : List Int) : (s ++ j :: t).foldl max i = max (s.foldl max i) (t.foldl max j) := by
  rw [List.foldl_append, List.foldl_cons]
  generalize s.foldl max i = a
  induction t generalizing a j with
  | nil => rfl
  | cons c t ih =>
    rw [List.foldl_cons, List.foldl_cons, ← ih]
    congr 1
    omega
theorem foldl_min_app (i j : Int) (s t : List Int) : (s ++ j :: t).foldl min i = min (s.foldl min i) (t.foldl min j) := by
  rw [List.foldl_append, List.foldl_cons]
  generalize s.foldl min i = a
  induction t generalizing a j with
  | nil => rfl
  | cons c t ih =>
    rw [List.foldl_cons, List.foldl_cons, ← ih]
    congr 1
    omega
theorem smI_cons (k : Str) (i : Int) (t : List Int) : smI k (i :: t) = if k = "sum" then (i :: t).sum else if k = "greatest" then t.foldl max i else if k = "least" then t.foldl min i else if k = "first" then i else (i :: t).getLast (by simp) := rfl
theorem smI_app (k : Str) {xs ys : List Int} (h1 : 0 < xs.length) (h2 : 0 < ys.length) : smI k (xs ++ ys) = jnI k (smI k xs) (smI k ys) := by
  cases xs with
  | nil => exact absurd h1 (by simp)
  | cons i s =>
    cases ys with
    | nil => exact absurd h2 (by simp)
    | cons j t =>
      rw [List.cons_append, smI_cons, smI_cons, smI_cons, jnI]
      by_cases c1 : k = "sum"
      · rw [if_pos c1, if_pos c1, if_pos c1, if_pos c1, ← List.cons_append, List.sum_append]
      · rw [if_neg c1, if_neg c1, if_neg c1, if_neg c1]
        by_cases c2 : k = "greatest"
        · rw [if_pos c2, if_pos c2, if_pos c2, if_pos c2]; exact foldl_max_app i j s t
        · rw [if_neg c2, if_neg c2, if_neg c2, if_neg c2]
          by_cases c3 : k = "least"
          · rw [if_pos c3, if_pos c3, if_pos c3, if_pos c3]; exact foldl_min_app i j s t
          · rw [if_neg c3, if_neg c3, if_neg c3, if_neg c3]
            by_cases c4 : k = "first"
            · rw [if_pos c4, if_pos c4, if_pos c4]
            · rw [if_neg c4, if_neg c4, if_neg c4]
              have e : i :: (s ++ j :: t) = (i :: s) ++ (j :: t) := rfl
              simp only [e, List.getLast_append_of_ne_nil _ (by simp : (j :: t) ≠ [])]
theorem drop_split {α : Type} {xs : List α} {a m b : Nat} (h1 : a ≤ m) (h2 : m ≤ b) : (xs.drop a).take (b - a) = (xs.drop a).take (m - a) ++ (xs.drop m).take (b - m) := by
  have e : b - a = (m - a) + (b - m) := by omega
  have e2 : m = a + (m - a) := by omega
  rw [e, List.take_add, List.drop_drop, ← e2]
theorem smI_one (k : Str) (i : Int) : smI k [i] = i := by
  rw [smI_cons]
  by_cases c1 : k = "sum"
  · rw [if_pos c1]; simp
  · rw [if_neg c1]
    by_cases c2 : k = "greatest"
    · rw [if_pos c2]; rfl
    · rw [if_neg c2]
      by_cases c3 : k = "least"
      · rw [if_pos c3]; rfl
      · rw [if_neg c3]
        by_cases c4 : k = "first"
        · rw [if_pos c4]
        · rw [if_neg c4]; rfl
theorem HV.sm_join {k : Str} {u : HV} {a m b : Nat} (h1 : a < m) (h2 : m < b) (h3 : b ≤ u.len) : jn k ((u.cut a m).sm k) ((u.cut m b).sm k) = (u.cut a b).sm k := by
  cases u with
  | I xs =>
    have hl : b ≤ xs.length := h3
    simp only [HV.cut, HV.sm, jn]
    rw [drop_split (by omega : a ≤ m) (by omega : m ≤ b), smI_app]
    · rw [List.length_take, List.length_drop]; omega
    · rw [List.length_take, List.length_drop]; omega
  | S xs =>
    simp only [HV.cut, HV.sm, jn]
    rw [drop_split (by omega : a ≤ m) (by omega : m ≤ b), join_app]
theorem HV.sm_one {k : Str} {u : HV} {a : Nat} (h : a < u.len) : atI u.ds (a : Int) = some ((u.cut a (a + 1)).sm k) := by
  have e1 : a + 1 - a = 1 := by omega
  cases u with
  | I xs =>
    have hl : a < xs.length := h
    have hg := List.getElem?_eq_getElem hl
    have e : (xs.drop a).take 1 = [xs[a]] := by rw [List.drop_eq_getElem_cons hl]; rfl
    simp only [HV.ds, HV.cut, HV.sm, e1, e]
    rw [smI_one]
    exact atI_nat (by rw [List.getElem?_map, hg]; rfl)
  | S xs =>
    have hl : a < xs.length := h
    have hg := List.getElem?_eq_getElem hl
    have e : (xs.drop a).take 1 = [xs[a]] := by rw [List.drop_eq_getElem_cons hl]; rfl
    simp only [HV.ds, HV.cut, HV.sm, e1, e, join_one]
    exact atI_nat (by rw [List.getElem?_map, hg]; rfl)
theorem V1.same {X : Cx} {k : Str} {d : PyData} {m : Mem} {K : KE} (h : V1 k d) (kk : K (.d (.bool false)) m) : R2W X rNe (.d d) (.d d) m K := by
  rcases h with ⟨_, i, rfl⟩ | ⟨_, x, rfl, _⟩
  · exact ne_V (v := .int i) (u := .int i) rfl rfl rfl (by simpa using kk)
  · exact ne_V (v := .str x) (u := .str x) rfl rfl rfl (by simpa using kk)

theorem kinds_get {i : Nat} {d : PyData} (h : ([.str "sum", .str "list", .str "greatest", .str "least", .str "first", .str "last"] : List PyData)[i]? = some d) : ∃ k : Str, d = .str k := by
  have := List.mem_of_getElem? h
  simp only [List.mem_cons, List.mem_nil_iff, or_false] at this
  rcases this with rfl | rfl | rfl | rfl | rfl | rfl <;> exact ⟨_, rfl⟩
theorem cutD_le {α : Type} {xs : List α} {lo hi : Option Int} : (cutD xs lo hi).length ≤ xs.length := by
  unfold cutD
  rw [List.length_take, List.length_drop]
  omega
theorem cutD_to {α : Type} {xs : List α} {b : Nat} (h : b ≤ xs.length) : cutD xs none (some (b : Int)) = xs.take b := by
  unfold cutD
  rw [sIx_lo h, HT.sIx_none]
  simp
theorem cutD_from {α : Type} {xs : List α} {a : Nat} (h : a ≤ xs.length) : cutD xs (some (a : Int)) none = xs.drop a := by
  unfold cutD
  rw [sIx_lo h, HT.sIx_none]
  rw [List.take_of_length_le (by rw [List.length_drop]; omega)]
theorem mix_cut {α : Type} {xs ys : List α} {a b : Nat} (h1 : a < b) (h2 : b ≤ xs.length) (h3 : b ≤ ys.length) : (((ys.take a ++ (xs.drop a).take (b - a)) ++ ys.drop b).drop a).take (b - a) = (xs.drop a).take (b - a) := by
  have e1 : (ys.take a).length = a := by rw [List.length_take]; omega
  have e2 : ((xs.drop a).take (b - a)).length = b - a := by rw [List.length_take, List.length_drop]; omega
  rw [List.append_assoc, List.drop_append_of_le_length (by omega), List.drop_of_length_le (by omega), List.nil_append, List.take_append_of_le_length (by omega), List.take_of_length_le (by omega)]
theorem HV.mix {k : Str} {u w : HV} {a b L : Nat} (o1 : u.ok k) (o2 : w.ok k) (l1 : u.len = L) (l2 : w.len = L) (h1 : a < b) (h2 : b ≤ L) :
    ∃ x : HV, x.ds = (cutD w.ds none (some (a : Int)) ++ cutD u.ds (some (a : Int)) (some (b : Int))) ++ cutD w.ds (some (b : Int)) none ∧ x.ok k ∧ x.len = L ∧ x.cut a b = u.cut a b := by
  have q1 : a ≤ w.ds.length := by rw [HV.ds_len]; omega
  have q2 : b ≤ w.ds.length := by rw [HV.ds_len]; omega
  rw [cutD_to q1, cutD_from q2, HV.cut_ds (by omega) (by omega)]
  cases u with
  | I xs =>
    cases w with
    | S ys => exact absurd o2.1 o1
    | I ys =>
      have z1 : xs.length = L := l1
      have z2 : ys.length = L := l2
      refine ⟨.I ((ys.take a ++ (xs.drop a).take (b - a)) ++ ys.drop b), by simp [HV.ds, HV.cut, List.map_take, List.map_drop], o1, ?_, ?_⟩
      · show List.length _ = L
        simp only [List.length_append, List.length_take, List.length_drop]
        omega
      · show HV.I _ = HV.I _
        rw [mix_cut h1 (by omega) (by omega)]
  | S xs =>
    cases w with
    | I ys => exact absurd o1.1 o2
    | S ys =>
      have z1 : xs.length = L := l1
      have z2 : ys.length = L := l2
      refine ⟨.S ((ys.take a ++ (xs.drop a).take (b - a)) ++ ys.drop b), by simp [HV.ds, HV.cut, List.map_take, List.map_drop], ⟨o1.1, fun x hx => ?_⟩, ?_, ?_⟩
      · rcases List.mem_append.mp hx with hx | hx
        · rcases List.mem_append.mp hx with hx | hx
          · exact o2.2 x (List.mem_of_mem_take hx)
          · exact o1.2 x (List.mem_of_mem_drop (List.mem_of_mem_take hx))
        · exact o2.2 x (List.mem_of_mem_drop hx)
      · show List.length _ = L
        simp only [List.length_append, List.length_take, List.length_drop]
        omega
      · show HV.S _ = HV.S _
        rw [mix_cut h1 (by omega) (by omega)]
theorem neg_max (i : Int) (t : List Int) : (t.map fun x => 0 - x).foldl min (0 - i) = 0 - t.foldl max i := by
  induction t generalizing i with
  | nil => rfl
  | cons j t ih =>
    rw [List.map_cons, List.foldl_cons, List.foldl_cons, ← ih]
    congr 1
    omega
theorem neg_min (i : Int) (t : List Int) : (t.map fun x => 0 - x).foldl max (0 - i) = 0 - t.foldl min i := by
  induction t generalizing i with
  | nil => rfl
  | cons j t ih =>
    rw [List.map_cons, List.foldl_cons, List.foldl_cons, ← ih]
    congr 1
    omega
theorem sm_neg {xs : List Int} {a b : Nat} (h1 : a < b) (h2 : b ≤ xs.length) {k g : Str} (hk : k = "greatest" ∧ g = "least" ∨ k = "least" ∧ g = "greatest") :
    ((HV.I (xs.map fun x => 0 - x)).cut a b).sm g = .int (0 - smI k ((xs.drop a).take (b - a))) := by
  have e : ((HV.I (xs.map fun x => 0 - x)).cut a b) = .I (((xs.drop a).take (b - a)).map fun x => 0 - x) := by simp [HV.cut, List.map_take, List.map_drop]
  rw [e]
  have hl : ((xs.drop a).take (b - a)).length = b - a := by rw [List.length_take, List.length_drop]; omega
  cases hc : (xs.drop a).take (b - a) with
  | nil => rw [hc] at hl; simp at hl; omega
  | cons i t =>
    rw [List.map_cons]
    rcases hk with ⟨rfl, rfl⟩ | ⟨rfl, rfl⟩
    · rw [sm_least, neg_max]
      show _ = PyData.int (0 - smI "greatest" (i :: t))
      rw [smI_cons, if_neg (by decide +kernel), if_pos rfl]
    · rw [sm_greatest, neg_min]
      show _ = PyData.int (0 - smI "least" (i :: t))
      rw [smI_cons, if_neg (by decide +kernel), if_neg (by decide +kernel), if_pos rfl]

theorem ints_get {xs : List Int} {i : Nat} {d : PyData} (h : ((HV.I xs).ds)[i]? = some d) : ∃ x, d = .int x ∧ xs[i]? = some x := by
  simp only [HV.ds, List.getElem?_map] at h
  cases e : xs[i]? with
  | none => rw [e] at h; cases h
  | some x => rw [e] at h; cases h; exact ⟨x, rfl, rfl⟩
section
variable {P : Program} {w : World} {K : PySem.W.Frag} {mg : Str → Option Value} {base : Heap}
theorem av_l_feed (T : Txt K mg) : Av P w K mg base 1 "_law_feed" p_l_feed S_feed := by
  obtain ⟨f, fd, Fn, hmg⟩ := T.f_l_feed
  refine ⟨f, fd, fn_G Fn sc_l_feed (fun _ => rfl) ?_, hmg, Fn.kp, Fn.binds fun _ _ _ _ _ _ us hl => match us, hl with | [_, _], _ => rfl⟩
  intro cdv A outer s H E c
  rintro ⟨ns, k⟩ m ⟨hk, hb⟩
  simp only at hk hb
  change WB _ _ [some (.d (.list (ns.map .int))), some (.d (.int (k : Int))), none, none, none] m _
  refine wb_cons ?_
  refine ws_set 2 c.nd rfl (by walk_at "zloc") ?_
  refine WE.cut (fun r m' => ∃ z : Int, r = .d (.int z) ∧ z.natAbs.log2 ≤ 1048576 ∧ m' = m) ?_ ?_
  · refine we_if ?_
    refine wt_cmp op_lt (nomark _) ?_
    refine v 1 ?_
    refine we_callB c_len rfl T.b_len (by decide +kernel) ?_
    refine wa_cons ?_
    refine v 0 ?_
    refine wa_nil ?_
    walk_at "zlen"
    refine r2_B0 ?_
    refine ⟨_, rfl, ?_⟩
    refine ⟨fun hc1 => ?_, fun hc1 => ?_⟩
    · have hkl := of_decide_eq_true hc1
      obtain ⟨z, hz1, hz2⟩ := nat_get (xs := ns) (k := k) (by simpa using hkl)
      refine we_ix ix_seq ?_
      refine v 0 ?_
      refine v 1 ?_
      refine ix_L (d := .int z) .d (by rw [show atI (ns.map PyData.int) (k : Int) = (atI ns (k : Int)).map PyData.int from atI_map, hz1]; rfl) ⟨z, rfl, bits_log (hb z hz2), rfl⟩
      skip
    · refine we_op op_addZ ?_
      refine we_op op_mulZ ?_
      refine we_int ?_
      refine v 1 ?_
      refine r2_I (by walk_at "zsm") ?_
      refine we_int ?_
      refine add_I ⟨_, rfl, ?_, rfl⟩
      exact small_log (by omega)
      skip
  · rintro r m1 ⟨z, rfl, hz, rfl⟩
    refine wb_cons ?_
    refine ws_set 3 c.nd rfl (by walk_at "zloc") ?_
    refine we_callB (c_max2 c.calm) rfl T.b_max (by decide +kernel) ?_
    refine wa_cons ?_
    refine we_int ?_
    refine wa_cons ?_
    refine we_op op_sub ?_
    refine we_callB c_abs rfl T.b_abs (by decide +kernel) ?_
    refine wa_cons ?_
    refine v 2 ?_
    refine wa_nil ?_
    walk_at "zabs"
    refine we_op op_pow ?_
    refine we_int ?_
    refine we_int ?_
    refine r2_I (by walk_at "zsm") ?_
    refine r2_I0 ?_
    refine wa_nil ?_
    refine max_II ?_
    refine wb_cons ?_
    refine ws_set 4 c.nd rfl (by walk_at "zloc") ?_
    refine we_op op_mod ?_
    refine we_op op_addZ ?_
    refine we_op op_addZ ?_
    refine we_op op_mulZ ?_
    refine v 2 ?_
    refine we_int ?_
    refine r2_I (by exact cell_mul hz) ?_
    refine we_op op_mulZ ?_
    refine we_int ?_
    refine v 1 ?_
    refine r2_I (by walk_at "zsm") ?_
    walk_at "z+"
    refine we_int ?_
    walk_at "z+"
    refine we_int ?_
    refine r2_I (by walk_at "zsm") ?_
    refine wb_cons ?_
    refine ws_ret ?_
    refine we_lstX ?_
    refine wa_cons ?_
    refine v 3 ?_
    refine wa_cons ?_
    refine v 4 ?_
    refine wa_nil ?_
    refine ⟨by simp, fun q2 nq2 => ?_⟩
    refine ⟨_, Sub.refl, _, (_, _), (by assumption), ⟨?_, ?_, ?_⟩, rfl, rfl⟩
    · exact Int.le_max_left _ _
    · exact Int.emod_nonneg _ (by decide)
    · exact Int.emod_lt_of_pos _ (by decide)
theorem av_l_take (T : Txt K mg) : Av P w K mg base 1 "_law_take" p_l_take S_take := by
  obtain ⟨f, fd, Fn, hmg⟩ := T.f_l_take
  refine ⟨f, fd, fn_G Fn sc_l_take (fun _ => rfl) ?_, hmg, Fn.kp, Fn.binds fun _ _ _ _ _ _ us hl => match us, hl with | [_, _], _ => rfl⟩
  intro cdv A outer s H E c
  rintro ⟨f, ⟨dg, st⟩, k⟩ m ⟨hm, ⟨h1, h2, h3⟩, h4, h5⟩
  simp only at hm h1 h2 h3 h4 h5
  change WB _ _ [some (.x f), some (.d (.int k)), none] m _
  refine wb_cons ?_
  refine ws_if ?_
  refine wt_cmp op_gt (nomark _) ?_
  refine we_ix ix_seq ?_
  refine v 0 ?_
  refine we_int ?_
  walk_at "z[]"
  refine we_int ?_
  refine r2_B0 ?_
  refine ⟨_, rfl, ?_⟩
  refine ⟨fun hc1 => ?_, fun hc1 => ?_⟩
  · skip
    refine wb_cons ?_
    refine ws_set 2 c.nd rfl (by walk_at "zloc") ?_
    refine we_op op_mod ?_
    refine we_ix ix_seq ?_
    refine v 0 ?_
    refine we_int ?_
    walk_at "z[]"
    refine v 1 ?_
    refine r2_I (by walk_at "zsm") ?_
    refine wb_cons ?_
    refine ws_setix ?_
    refine we_op op_fdivW ?_
    refine we_ix ix_seq ?_
    refine v 0 ?_
    refine we_int ?_
    walk_at "z[]"
    refine v 1 ?_
    refine r2_I (by walk_at "zsm") ?_
    refine v 0 ?_
    refine we_int ?_
    refine ⟨_, _, _, _, rfl, rfl, by walk_at "zmem", rfl, ?_⟩
    refine wb_cons ?_
    refine ws_ret ?_
    refine v 2 ?_
    refine ⟨_, Sub.refl, _, (dg / k, st), ⟨?_, h2, h3⟩, ?_, ?_, rfl, rfl⟩
    · exact Int.ediv_nonneg h1 (by omega)
    · exact Int.emod_nonneg _ (by omega)
    · exact Int.emod_lt_of_pos _ h4
  · refine wb_nil ?_
    refine wb_cons ?_
    refine ws_setix ?_
    refine we_op op_mod ?_
    refine we_op op_addZ ?_
    refine we_op op_mulZ ?_
    refine we_ix ix_seq ?_
    refine v 0 ?_
    refine we_int ?_
    walk_at "z[]"
    refine we_int ?_
    refine r2_I (by walk_at "zsm") ?_
    refine we_int ?_
    walk_at "z+"
    refine we_int ?_
    refine r2_I (by walk_at "zsm") ?_
    refine v 0 ?_
    refine we_int ?_
    refine ⟨_, _, _, _, rfl, rfl, by walk_at "zmem", rfl, ?_⟩
    refine wb_cons ?_
    refine ws_ret ?_
    refine we_op op_mod ?_
    refine we_op op_fdivW ?_
    refine we_ix ix_seq ?_
    refine v 0 ?_
    refine we_int ?_
    walk_at "z[]"
    refine we_int ?_
    refine r2_I (by walk_at "zsm") ?_
    refine v 1 ?_
    refine r2_I (by walk_at "zsm") ?_
    refine ⟨_, Sub.refl, _, (dg, (st * 6364136223846793005 + 1442695040888963407) % 2305843009213693951), ⟨h1, ?_, ?_⟩, ?_, ?_, rfl, rfl⟩
    · exact Int.emod_nonneg _ (by decide)
    · exact Int.emod_lt_of_pos _ (by decide)
    · exact Int.emod_nonneg _ (by omega)
    · exact Int.emod_lt_of_pos _ h4
theorem av_l_pick (T : Txt K mg) : Av P w K mg base 2 "_law_pick" p_l_pick S_pick := by
  obtain ⟨f, fd, Fn, hmg⟩ := T.f_l_pick
  refine ⟨f, fd, fn_G Fn sc_l_pick (fun _ => rfl) ?_, hmg, Fn.kp, Fn.binds fun _ _ _ _ _ _ us hl => match us, hl with | [_, _], _ => rfl⟩
  intro cdv A outer s H E c
  rintro ⟨f, c0, x, ds⟩ m ⟨hm, hc0, hx, hf, h0, h1⟩
  simp only at hm hc0 hx hf h0 h1
  change WB _ _ [some (.x f), some x] m _
  refine wb_cons ?_
  refine ws_ret ?_
  refine we_ix ix_seq ?_
  refine v 1 ?_
  refine we_call c (av_l_take T) (by decide) rfl ?_
  refine wa_cons ?_
  refine v 0 ?_
  refine wa_cons ?_
  refine we_callB c_len rfl T.b_len (by decide +kernel) ?_
  refine wa_cons ?_
  refine v 1 ?_
  refine wa_nil ?_
  refine len_L hx ?_
  rw [fd_of hm]
  refine wa_nil ?_
  refine use_l_take hc0 (by omega) (by omega) fun t1 c1 hc1 lo1 hi1 => ?_
  obtain ⟨d, hd1, hd2⟩ := int_get lo1 hi1
  refine ix_L (Dat.put hx hf) hd1 ?_
  exact ⟨_, Sub.refl, d, _, by assumption, hd2, rfl, Mem.put_put.symm⟩
theorem av_l_stretch (T : Txt K mg) : Av P w K mg base 2 "_law_stretch" p_l_stretch S_stretch := by
  obtain ⟨f, fd, Fn, hmg⟩ := T.f_l_stretch
  refine ⟨f, fd, fn_G Fn sc_l_stretch (fun _ => rfl) ?_, hmg, Fn.kp, Fn.binds fun _ _ _ _ _ _ us hl => match us, hl with | [_, _], _ => rfl⟩
  intro cdv A outer s H E c
  rintro ⟨f, c0, k⟩ m ⟨hm, hc0, h0, h1⟩
  simp only at hm hc0 h0 h1
  change WB _ _ [some (.x f), some (.d (.int (k : Int))), none] m _
  rw [fd_of hm]
  refine wb_cons ?_
  refine ws_set 2 c.nd rfl (by walk_at "zloc") ?_
  refine we_call c (av_l_take T) (by decide) rfl ?_
  refine wa_cons ?_
  refine v 0 ?_
  refine wa_cons ?_
  refine v 1 ?_
  refine wa_nil ?_
  refine use_l_take (by assumption) (by omega) (by omega) fun t1 c1 hc1 lo1 hi1 => ?_
  refine wb_cons ?_
  refine ws_ret ?_
  refine we_tup ?_
  refine wa_cons ?_
  refine v 2 ?_
  refine wa_cons ?_
  refine we_op op_addZ ?_
  refine we_op op_addZ ?_
  refine v 2 ?_
  refine we_int ?_
  walk_at "z+"
  refine we_call c (av_l_take T) (by decide) rfl ?_
  refine wa_cons ?_
  refine v 0 ?_
  refine wa_cons ?_
  refine we_op op_sub ?_
  refine v 1 ?_
  refine v 2 ?_
  refine r2_I0 ?_
  refine wa_nil ?_
  refine use_l_take (by assumption) (by omega) (by omega) fun t2 c2 hc2 lo2 hi2 => ?_
  walk_at "z+"
  refine wa_nil ?_
  refine ⟨[_, _], rfl, by simp, ?_⟩
  refine ⟨_, Sub.refl, t1.toNat, (t1 + 1 + t2).toNat, c2, by assumption, by omega, (show _ ≤ k by omega), ?_, Mem.put_put.symm⟩
  · rw [Int.toNat_of_nonneg (by omega), Int.toNat_of_nonneg (by omega)]
theorem av_l_history (T : Txt K mg) : Av P w K mg base 3 "_law_history" p_l_history S_history := by
  obtain ⟨f, fd, Fn, hmg⟩ := T.f_l_history
  refine ⟨f, fd, fn_G Fn sc_l_history (fun _ => rfl) ?_, hmg, Fn.kp, Fn.binds fun _ _ _ _ _ _ us hl => match us, hl with | [_, _, _], _ => rfl⟩
  intro cdv A outer s H E c
  rintro ⟨f, c0, kind, k⟩ m ⟨hm, hc0, h0⟩
  simp only at hm hc0 h0
  change WB _ _ [some (.x f), some (.d (.str kind)), some (.d (.int (k : Int))), none, none] m _
  rw [fd_of hm]
  refine wb_cons ?_
  refine ws_if ?_
  refine wt_cmp op_eq (nomark _) ?_
  refine v 1 ?_
  refine we_str ?_
  refine eq_S ?_
  refine ⟨_, rfl, ?_⟩
  refine ⟨fun hc1 => ?_, fun hc1 => ?_⟩
  · skip
    refine wb_cons ?_
    refine ws_ret ?_
    refine we_callTy c_tuple rfl T.b_tuple (by decide +kernel) ?_
    refine wa_cons ?_
    refine we_lcD [("_law_hour", 4)] c.calm c.nd (blkOk_by (N := n_l_history) (sc := defScope s_l_history) (by decide +kernel)) ?_
    refine wi_rng1 rfl T.b_range ?_
    refine wa_cons ?_
    refine v 2 ?_
    refine wa_nil ?_
    refine ⟨_, rfl, by omega, by omega, ?_⟩
    refine ⟨fun i acc m' => ∃ (c : Int × Int) (ss : List Str), FOk c ∧ acc = (ss.map PyData.str).map .d ∧ m' = m.put f (fdO c) ∧ ss.length = i ∧ ∀ x ∈ ss, x.length ≤ 3, ?_, ?_, ?_⟩
    · exact ⟨c0, [], hc0, rfl, rfl, rfl, fun _ h => by simp at h⟩
    · intro i2 d2 acc2 m2 hd2 hi2
      obtain ⟨cc2, ss2, hcc2, rfl, rfl, hl2, hs2⟩ := hi2
      obtain ⟨hlt2, rfl⟩ := intsD_get hd2
      refine ⟨by rw [List.length_map, List.length_map, hl2]; omega, fun s0 H0 C cl fp => ?_⟩
      refine wg_name 4 c.nd rfl (by walk_at "zloc") ?_
      intro s0 H0 C cl fp
      refine ⟨fun _ s0 H0 C cl fp => ?_, fun hb => Bool.noConfusion hb⟩
      refine we_call c.blk (av_l_pick T) (by decide) rfl ?_
      refine wa_cons ?_
      refine v 0 ?_
      refine wa_cons ?_
      refine we_lst ?_
      refine wa_cons ?_
      refine we_str ?_
      refine wa_cons ?_
      refine we_str ?_
      refine wa_cons ?_
      refine we_str ?_
      refine wa_cons ?_
      refine we_str ?_
      refine wa_cons ?_
      refine we_str ?_
      refine wa_cons ?_
      refine we_str ?_
      refine wa_cons ?_
      refine we_str ?_
      refine wa_nil ?_
      refine ⟨[_, _, _, _, _, _, _], rfl, by simp, ?_⟩
      refine wa_nil ?_
      refine use_l_pickD (by assumption) (by walk_at "zln") (by walk_at "zln") fun d3 c3 hc3 mem3 => ?_
      obtain ⟨x, rfl, hx⟩ := pick_txt (by assumption)
      exact ⟨_, ss2 ++ [x], by assumption, by simp, rfl, by simp [hl2], fun y hy => by
        rcases List.mem_append.mp hy with h | h
        · exact hs2 y h
        · rw [List.mem_singleton.mp h]; exact hx⟩
    · intro acc2 m2 ⟨cc2, ss2, hcc2, e12, e22, hl2, hs2⟩
      subst e12 e22
      refine ⟨ss2.map PyData.str, rfl, ?_⟩
      rw [intsD_length] at hl2
      refine wa_nil ?_
      walk_at "ztuple"
      exact ⟨_, Sub.refl, .S ss2, _, by assumption, (by show ss2.length = k; omega), ⟨of_decide_eq_true hc1, hs2⟩, rfl, Mem.put_put.symm⟩
  · refine wb_nil ?_
    refine wb_cons ?_
    refine ws_set 3 c.nd rfl (by walk_at "zloc") ?_
    refine we_call c (av_l_pick T) (by decide) rfl ?_
    refine wa_cons ?_
    refine v 0 ?_
    refine wa_cons ?_
    refine we_lst ?_
    refine wa_cons ?_
    refine we_op op_pow ?_
    refine we_int ?_
    refine we_int ?_
    refine r2_I (by walk_at "zsm") ?_
    refine wa_cons ?_
    refine we_int ?_
    refine wa_cons ?_
    refine we_int ?_
    refine wa_nil ?_
    refine ⟨[_, _, _], rfl, by simp, ?_⟩
    refine wa_nil ?_
    refine use_l_pickD (by assumption) (by walk_at "zln") (by walk_at "zln") fun d4 c4 hc4 mem4 => ?_
    obtain ⟨far, rfl⟩ := far_int (by assumption)
    refine wb_cons ?_
    refine ws_ret ?_
    refine we_callTy c_tuple rfl T.b_tuple (by decide +kernel) ?_
    refine wa_cons ?_
    refine we_lcD [("_law_hour", 4)] c.calm c.nd (blkOk_by (N := n_l_history) (sc := defScope s_l_history) (by decide +kernel)) ?_
    refine wi_rng1 rfl T.b_range ?_
    refine wa_cons ?_
    refine v 2 ?_
    refine wa_nil ?_
    refine ⟨_, rfl, by omega, by omega, ?_⟩
    refine ⟨fun i acc m' => ∃ (c : Int × Int) (ss : List Int), FOk c ∧ acc = (ss.map PyData.int).map .d ∧ m' = m.put f (fdO c) ∧ ss.length = i, ?_, ?_, ?_⟩
    · exact ⟨_, [], (by assumption), rfl, rfl, rfl⟩
    · intro i5 d5 acc5 m5 hd5 hi5
      obtain ⟨cc5, ss5, hcc5, rfl, rfl, hl5⟩ := hi5
      obtain ⟨hlt5, rfl⟩ := intsD_get hd5
      refine ⟨by rw [List.length_map, List.length_map, hl5]; omega, fun s0 H0 C cl fp => ?_⟩
      refine wg_name 4 c.nd rfl (by walk_at "zloc") ?_
      intro s0 H0 C cl fp
      refine ⟨fun _ s0 H0 C cl fp => ?_, fun hb => Bool.noConfusion hb⟩
      refine we_call c.blk (av_l_pick T) (by decide) rfl ?_
      refine wa_cons ?_
      refine v 0 ?_
      refine wa_cons ?_
      refine we_lst ?_
      refine wa_cons ?_
      refine we_int ?_
      refine wa_cons ?_
      refine we_int ?_
      refine wa_cons ?_
      refine we_neg (i0 := ()) ?_
      refine we_int ?_
      refine ⟨_, rfl, ?_⟩
      refine wa_cons ?_
      refine we_int ?_
      refine wa_cons ?_
      refine we_neg (i0 := ()) ?_
      refine we_int ?_
      refine ⟨_, rfl, ?_⟩
      refine wa_cons ?_
      refine v 3 ?_
      refine wa_cons ?_
      refine we_op op_sub ?_
      refine we_int ?_
      refine v 3 ?_
      refine r2_I0 ?_
      refine wa_cons ?_
      refine we_int ?_
      refine wa_nil ?_
      refine ⟨[_, _, _, _, _, _, _, _], rfl, by simp, ?_⟩
      refine wa_nil ?_
      refine use_l_pickD (by assumption) (by walk_at "zln") (by walk_at "zln") fun d6 c6 hc6 mem6 => ?_
      obtain ⟨x, rfl⟩ := pick_int (by assumption)
      exact ⟨_, ss5 ++ [x], by assumption, by simp, rfl, by simp [hl5]⟩
    · intro acc5 m5 ⟨cc5, ss5, hcc5, e15, e25, hl5⟩
      subst e15 e25
      refine ⟨ss5.map PyData.int, rfl, ?_⟩
      rw [intsD_length] at hl5
      refine wa_nil ?_
      walk_at "ztuple"
      exact ⟨_, Sub.refl, .I ss5, _, by assumption, (by show ss5.length = k; omega), of_decide_eq_false hc1, rfl, Mem.put_put.symm⟩
theorem av_summary (T : Txt K mg) : Av P w K mg base 1 "summary" p_summary S_summary := by
  obtain ⟨f, fd, Fn, hmg⟩ := T.f_summary
  refine ⟨f, fd, fn_G Fn sc_summary (fun _ => rfl) ?_, hmg, Fn.kp, Fn.binds fun _ _ _ _ _ _ us hl => match us, hl with | [_, _, _], _ => rfl⟩
  intro cdv A outer s H E c
  rintro ⟨kind, hv, a, b⟩ m ⟨hok, hab, hb, hlen⟩
  simp only at hok hab hb hlen
  change WB _ _ [some (.d (.str kind)), some (.d (.tuple hv.ds)), some (.d (.tuple [.int (a : Int), .int (b : Int)])), none] m _
  refine wb_cons ?_
  refine ws_set 3 c.nd rfl (by walk_at "zloc") ?_
  refine we_slice sl_Z ?_
  refine v 1 ?_
  refine wo_some ?_
  refine we_ix ix_seq ?_
  refine v 2 ?_
  refine we_int ?_
  walk_at "z[]"
  refine ⟨_, rfl, ?_⟩
  refine wo_some ?_
  refine we_ix ix_seq ?_
  refine v 2 ?_
  refine we_int ?_
  walk_at "z[]"
  refine ⟨_, rfl, ?_⟩
  walk_at "z:"
  rw [HV.cut_ds (by omega) hb]
  have hok' := HV.cut_ok (a := a) (b := b) hok
  have hlen' := HV.cut_len (a := a) hb
  generalize hu : hv.cut a b = u at *
  refine wb_cons ?_
  refine ws_if ?_
  refine wt_cmp op_eq (nomark _) ?_
  refine v 0 ?_
  refine we_str ?_
  refine eq_S ?_
  refine ⟨_, rfl, ?_⟩
  refine ⟨fun hc1 => ?_, fun hc1 => ?_⟩
  · have hk := of_decide_eq_true hc1
    obtain ⟨i, t, rfl⟩ := HV.int_of hok' (by rw [hk]; decide +kernel) (by omega)
    refine wb_cons ?_
    refine ws_ret ?_
    refine we_callB (c_sumZ c.calm) rfl T.b_sum (by decide +kernel) ?_
    refine wa_cons ?_
    refine v 3 ?_
    refine wa_nil ?_
    refine sum_Z (ns := i :: t) (.inr rfl) ?_
    exact ⟨_, Sub.refl, by show _ = Ent.d ((hv.cut a b).sm kind); rw [hu]; simp [HV.sm, smI, hk], rfl⟩
  · refine wb_nil ?_
    refine wb_cons ?_
    refine ws_if ?_
    refine wt_cmp op_eq (nomark _) ?_
    refine v 0 ?_
    refine we_str ?_
    refine eq_S ?_
    refine ⟨_, rfl, ?_⟩
    refine ⟨fun hc2 => ?_, fun hc2 => ?_⟩
    · have hk := of_decide_eq_true hc2
      obtain ⟨xs, rfl, hx⟩ := HV.str_of hok' hk
      refine wb_cons ?_
      refine ws_ret ?_
      refine we_join ?_
      refine we_str ?_
      refine ⟨by walk_at "zty", ?_⟩
      refine wa_cons ?_
      refine v 3 ?_
      refine wa_nil ?_
      refine join_T (ys := xs) (by have := sum_len hx; have e : (HV.S xs).len = xs.length := rfl; exact join_len (by omega)) ?_
      exact ⟨_, Sub.refl, by show _ = Ent.d ((hv.cut a b).sm kind); rw [hu]; rfl, rfl⟩
    · have hk := of_decide_eq_false hc2
      obtain ⟨i, t, rfl⟩ := HV.int_of hok' hk (by omega)
      refine wb_nil ?_
      refine wb_cons ?_
      refine ws_if ?_
      refine wt_cmp op_in_seq rfl ?_
      refine v 0 ?_
      refine we_tup ?_
      refine wa_cons ?_
      refine we_str ?_
      refine wa_cons ?_
      refine we_str ?_
      refine wa_nil ?_
      refine ⟨[_, _], rfl, by simp, ?_⟩
      walk_at "zin"
      refine ⟨_, rfl, ?_⟩
      refine ⟨fun hc3 => ?_, fun hc3 => ?_⟩
      · have hin := is_in2 hc3
        refine wb_cons ?_
        refine ws_ret ?_
        refine we_if ?_
        refine wt_cmp op_eq (nomark _) ?_
        refine v 0 ?_
        refine we_str ?_
        refine eq_S ?_
        refine ⟨_, rfl, ?_⟩
        refine ⟨fun hc4 => ?_, fun hc4 => ?_⟩
        · have hg := of_decide_eq_true hc4
          refine we_callB (c_maxZ c) rfl T.b_max (by decide +kernel) ?_
          refine wa_cons ?_
          refine v 3 ?_
          refine wa_nil ?_
          refine max_Z (i := i) (ns := t) (.inr rfl) ?_
          refine ⟨_, Sub.refl, ?_, rfl⟩
          show _ = Ent.d ((hv.cut a b).sm kind)
          rw [hu, hg]
          first | rw [sm_greatest] | rw [sm_least]
        · have hg := (is_in2 hc3).resolve_left (of_decide_eq_false hc4)
          refine we_callB (c_minZ c) rfl T.b_min (by decide +kernel) ?_
          refine wa_cons ?_
          refine v 3 ?_
          refine wa_nil ?_
          refine min_Z (i := i) (ns := t) (.inr rfl) ?_
          refine ⟨_, Sub.refl, ?_, rfl⟩
          show _ = Ent.d ((hv.cut a b).sm kind)
          rw [hu, hg]
          first | rw [sm_greatest] | rw [sm_least]
      · have hnin := not_in2 hc3
        refine wb_nil ?_
        refine wb_cons ?_
        refine ws_ret ?_
        refine we_if ?_
        refine wt_cmp op_eq (nomark _) ?_
        refine v 0 ?_
        refine we_str ?_
        refine eq_S ?_
        refine ⟨_, rfl, ?_⟩
        refine ⟨fun hc5 => ?_, fun hc5 => ?_⟩
        · have hg := of_decide_eq_true hc5
          refine we_ix ix_seq ?_
          refine v 3 ?_
          refine we_int ?_
          refine ix_T (d := .int i) (atI_nat (j := 0) rfl) ?_
          refine ⟨_, Sub.refl, ?_, rfl⟩
          show _ = Ent.d ((hv.cut a b).sm kind)
          rw [hu]
          first | rw [hg, sm_first] | rw [sm_last (of_decide_eq_false hc1) hnin.1 hnin.2 hg]
        · have hg := of_decide_eq_false hc5
          refine we_ix ix_seq ?_
          refine v 3 ?_
          refine we_neg (i0 := ()) ?_
          refine we_int ?_
          refine ⟨_, rfl, ?_⟩
          refine ix_T (last_get i t) ?_
          refine ⟨_, Sub.refl, ?_, rfl⟩
          show _ = Ent.d ((hv.cut a b).sm kind)
          rw [hu]
          first | rw [hg, sm_first] | rw [sm_last (of_decide_eq_false hc1) hnin.1 hnin.2 hg]
theorem av_l_joined (T : Txt K mg) : Av P w K mg base 1 "_law_joined" p_l_joined S_joined := by
  obtain ⟨f, fd, Fn, hmg⟩ := T.f_l_joined
  refine ⟨f, fd, fn_G Fn sc_l_joined (fun _ => rfl) ?_, hmg, Fn.kp, Fn.binds fun _ _ _ _ _ _ us hl => match us, hl with | [_, _, _], _ => rfl⟩
  intro cdv A outer s H E c
  rintro ⟨kind, a, b⟩ m ⟨h1, h2⟩
  simp only at h1 h2
  change WB _ _ [some (.d (.str kind)), some (.d a), some (.d b)] m _
  refine wb_cons ?_
  refine ws_if ?_
  refine wt_cmp op_in_seq rfl ?_
  refine v 0 ?_
  refine we_lst ?_
  refine wa_cons ?_
  refine we_str ?_
  refine wa_cons ?_
  refine we_str ?_
  refine wa_nil ?_
  refine ⟨[_, _], rfl, by simp, ?_⟩
  walk_at "zin"
  refine ⟨_, rfl, ?_⟩
  refine ⟨fun hc1 => ?_, fun hc1 => ?_⟩
  · have hin := is_in2 hc1
    refine wb_cons ?_
    refine ws_ret ?_
    refine we_op op_addZ ?_
    refine v 1 ?_
    refine v 2 ?_
    by_cases hkl : kind = "list"
    · obtain ⟨x, rfl, hx⟩ := h1.str hkl
      obtain ⟨y, rfl, hy⟩ := h2.str hkl
      exact add_S (by omega) ⟨_, Sub.refl, rfl, rfl⟩
    · obtain ⟨i, rfl⟩ := h1.int hkl
      obtain ⟨j, rfl⟩ := h2.int hkl
      refine add_I ⟨_, Sub.refl, ?_, rfl⟩
      show _ = Ent.d (.int (jnI kind i j))
      rw [hin.resolve_right hkl, jnI, if_pos rfl]
    skip
  · have hnin := not_in2 hc1
    refine wb_nil ?_
    refine wb_cons ?_
    refine ws_if ?_
    refine wt_cmp op_in_seq rfl ?_
    refine v 0 ?_
    refine we_lst ?_
    refine wa_cons ?_
    refine we_str ?_
    refine wa_cons ?_
    refine we_str ?_
    refine wa_nil ?_
    refine ⟨[_, _], rfl, by simp, ?_⟩
    walk_at "zin"
    refine ⟨_, rfl, ?_⟩
    refine ⟨fun hc2 => ?_, fun hc2 => ?_⟩
    · have hin := is_in2 hc2
      obtain ⟨i, rfl⟩ := h1.int hnin.2
      obtain ⟨j, rfl⟩ := h2.int hnin.2
      refine wb_cons ?_
      refine ws_ret ?_
      refine we_ix ix_seq ?_
      refine we_lst ?_
      refine wa_cons ?_
      refine we_callB (c_max2 c.calm) rfl T.b_max (by decide +kernel) ?_
      refine wa_cons ?_
      refine v 1 ?_
      refine wa_cons ?_
      refine v 2 ?_
      refine wa_nil ?_
      refine max_II ?_
      refine wa_cons ?_
      refine we_callB (c_min2 c.calm) rfl T.b_min (by decide +kernel) ?_
      refine wa_cons ?_
      refine v 1 ?_
      refine wa_cons ?_
      refine v 2 ?_
      refine wa_nil ?_
      refine min_II ?_
      refine wa_nil ?_
      refine ⟨[_, _], rfl, by simp, ?_⟩
      refine we_callTy c_int1 rfl T.b_int (by decide +kernel) ?_
      refine wa_cons ?_
      refine we_cmp op_eq (nomark _) ?_
      refine v 0 ?_
      refine we_str ?_
      refine eq_S ?_
      refine wa_nil ?_
      walk_at "zint"
      by_cases hg : kind = "least"
      · rw [decide_eq_true hg]
        refine ix_L (d := .int (min i j)) .d rfl ⟨_, Sub.refl, ?_, rfl⟩
        show _ = Ent.d (.int (jnI kind i j))
        rw [hg, jnI, if_neg (by decide +kernel), if_neg (by decide +kernel), if_pos rfl]
      · rw [decide_eq_false hg]
        refine ix_L (d := .int (max i j)) .d rfl ⟨_, Sub.refl, ?_, rfl⟩
        show _ = Ent.d (.int (jnI kind i j))
        rw [hin.resolve_right hg, jnI, if_neg (by decide +kernel), if_pos rfl]
      skip
    · have hnin2 := not_in2 hc2
      refine wb_nil ?_
      refine wb_cons ?_
      refine ws_ret ?_
      refine we_if ?_
      refine wt_cmp op_eq (nomark _) ?_
      refine v 0 ?_
      refine we_str ?_
      refine eq_S ?_
      refine ⟨_, rfl, ?_⟩
      refine ⟨fun hc3 => ?_, fun hc3 => ?_⟩
      · have hg := of_decide_eq_true hc3
        refine v 1 ?_
        obtain ⟨i, rfl⟩ := h1.int hnin.2
        obtain ⟨j, rfl⟩ := h2.int hnin.2
        refine ⟨_, Sub.refl, ?_, rfl⟩
        show _ = Ent.d (.int (jnI kind i j))
        first
          | rw [hg, jnI, if_neg (by decide +kernel), if_neg (by decide +kernel), if_neg (by decide +kernel), if_pos rfl]
          | rw [jnI, if_neg hnin.1, if_neg hnin2.1, if_neg hnin2.2, if_neg hg]
      · have hg := of_decide_eq_false hc3
        refine v 2 ?_
        obtain ⟨i, rfl⟩ := h1.int hnin.2
        obtain ⟨j, rfl⟩ := h2.int hnin.2
        refine ⟨_, Sub.refl, ?_, rfl⟩
        show _ = Ent.d (.int (jnI kind i j))
        first
          | rw [hg, jnI, if_neg (by decide +kernel), if_neg (by decide +kernel), if_neg (by decide +kernel), if_pos rfl]
          | rw [jnI, if_neg hnin.1, if_neg hnin2.1, if_neg hnin2.2, if_neg hg]
theorem g_law {f : Addr} {fd : FuncData} (Fn : Fun K "law" "law" s_law f fd) (T : Txt K mg) : FnG P w K mg base 4 f fd p_law (spW K (lawS 63)) := by
  refine fn_G Fn sc_law (fun _ => rfl) ?_
  intro cdv A outer s H E c
  rintro ns m ⟨hlen, hbits, _⟩
  change WB _ _ [some (.d (.list (ns.map .int))), none, none, none, none, none, none, none, none, none, none, none, none, none, none, none, none] m _
  refine wb_cons ?_
  refine ws_for (vs := [1]) c.pass c.calm ?_
  refine wi_rng1 rfl T.b_range ?_
  refine wa_cons ?_
  refine we_callB (c_max2 c.calm) rfl T.b_max (by decide +kernel) ?_
  refine wa_cons ?_
  refine we_int ?_
  refine wa_cons ?_
  refine we_callB (c_min2 c.calm) rfl T.b_min (by decide +kernel) ?_
  refine wa_cons ?_
  refine we_int ?_
  refine wa_cons ?_
  refine we_callB c_len rfl T.b_len (by decide +kernel) ?_
  refine wa_cons ?_
  refine v 0 ?_
  refine wa_nil ?_
  walk_at "zlen"
  refine wa_nil ?_
  refine min_II ?_
  refine wa_nil ?_
  refine max_II ?_
  refine wa_nil ?_
  refine ⟨_, rfl, by omega, by omega, ?_⟩
  refine ⟨fun i n' m' => ∃ (a1 a2 a3 a4 a5 a6 a7 a8 a9 a10 a11 a12 a13 a14 a15 a16 : Option Ent), n' = [some (.d (.list (ns.map .int))), a1, a2, a3, a4, a5, a6, a7, a8, a9, a10, a11, a12, a13, a14, a15, a16], ?_, ?_, ?_⟩
  · exact ⟨_, _, _, _, _, _, _, _, _, _, _, _, _, _, _, _, rfl⟩
  · intro i1 d1 n1 m1 hd1 hi1
    obtain ⟨a1, a2, a3, a4, a5, a6, a7, a8, a9, a10, a11, a12, a13, a14, a15, a16, rfl⟩ := hi1
    obtain ⟨hlt1, rfl⟩ := intsD_get hd1
    rw [Int.zero_add]
    refine wg_name 1 c.nd rfl (by walk_at "zloc") ?_
    refine wb_cons ?_
    refine ws_set 2 c.nd rfl (by walk_at "zloc") ?_
    refine we_call c (av_l_feed T) (by decide) rfl ?_
    refine wa_cons ?_
    refine v 0 ?_
    refine wa_cons ?_
    refine v 1 ?_
    refine wa_nil ?_
    refine use_l_feed (by omega) hbits fun f c2 hf2 hc2 => ?_
    generalize hw1 : (some (Ent.d (PyData.int _)) : Option Ent) = w1
    refine wb_cons ?_
    refine ws_for (vs := [3]) c.pass c.calm ?_
    refine wi_list ?_
    refine we_lst ?_
    refine wa_cons ?_
    refine we_str ?_
    refine wa_cons ?_
    refine we_str ?_
    refine wa_cons ?_
    refine we_str ?_
    refine wa_cons ?_
    refine we_str ?_
    refine wa_cons ?_
    refine we_str ?_
    refine wa_cons ?_
    refine we_str ?_
    refine wa_nil ?_
    refine ⟨[_, _, _, _, _, _], rfl, by simp, ?_⟩
    refine ⟨_, rfl, ?_⟩
    refine ⟨fun i n' m' => ∃ (c : Int × Int) (b3 b4 b5 b6 b7 b8 b9 b10 b11 b12 b13 b14 b15 b16 : Option Ent), FOk c ∧ n' = [some (.d (.list (ns.map .int))), w1, some (.x f), b3, b4, b5, b6, b7, b8, b9, b10, b11, b12, b13, b14, b15, b16] ∧ m' = m1.put f (fdO c), ?_, ?_, ?_⟩
    · exact ⟨_, _, _, _, _, _, _, _, _, _, _, _, _, _, _, (by assumption), rfl, rfl⟩
    · intro i3 d3 n3 m3 hd3 hi3
      obtain ⟨c3, b3, b4, b5, b6, b7, b8, b9, b10, b11, b12, b13, b14, b15, b16, hc3, rfl, rfl⟩ := hi3
      obtain ⟨kind, rfl⟩ := kinds_get hd3
      refine wg_name 3 c.nd rfl (by walk_at "zloc") ?_
      refine wb_cons ?_
      refine ws_set 4 c.nd rfl (by walk_at "zloc") ?_
      refine we_op op_addZ ?_
      refine we_int ?_
      refine we_call c (av_l_take T) (by decide) rfl ?_
      refine wa_cons ?_
      refine v 2 ?_
      refine wa_cons ?_
      refine we_int ?_
      refine wa_nil ?_
      refine use_l_take (by assumption) (by decide) (by decide) fun th c4 hc4 lo4 hi4 => ?_
      obtain ⟨hh, eh, hh1, hh2⟩ : ∃ hh : Nat, 3 + th = (hh : Int) ∧ 3 ≤ hh ∧ hh ≤ 33 := ⟨(3 + th).toNat, by omega, by omega, by omega⟩
      refine add_I ?_
      rw [eh]
      refine wb_cons ?_
      refine ws_set 5 c.nd rfl (by walk_at "zloc") ?_
      refine we_call c (av_l_history T) (by decide) rfl ?_
      refine wa_cons ?_
      refine v 2 ?_
      refine wa_cons ?_
      refine v 3 ?_
      refine wa_cons ?_
      refine v 4 ?_
      refine wa_nil ?_
      refine use_l_history (by assumption) (by omega) fun hv c5 hc5 hl ok => ?_
      refine wb_cons ?_
      refine ws_for (vs := [6]) c.pass c.calm ?_
      refine wi_rng1 rfl T.b_range ?_
      refine wa_cons ?_
      refine we_int ?_
      refine wa_nil ?_
      refine ⟨_, rfl, by omega, by omega, ?_⟩
      refine ⟨fun i n' m' => ∃ (c : Int × Int) (d6 d7 d8 d9 d10 d11 d12 d13 d14 d15 d16 : Option Ent), FOk c ∧ n' = [some (.d (.list (ns.map .int))), w1, some (.x f), some (.d (.str kind)), some (.d (.int (hh : Int))), some (.d (.tuple hv.ds)), d6, d7, d8, d9, d10, d11, d12, d13, d14, d15, d16] ∧ m' = m1.put f (fdO c), ?_, ?_, ?_⟩
      · exact ⟨_, _, _, _, _, _, _, _, _, _, _, _, (by assumption), rfl, rfl⟩
      · intro i6 d6 n6 m6 hd6 hi6
        obtain ⟨c6, d6, d7, d8, d9, d10, d11, d12, d13, d14, d15, d16, hc6, rfl, rfl⟩ := hi6
        refine wg_name 6 c.nd rfl (by walk_at "zloc") ?_
        refine wb_cons ?_
        refine ws_asg (vs := [7, 8]) ?_
        refine we_call c (av_l_stretch T) (by decide) rfl ?_
        refine wa_cons ?_
        refine v 2 ?_
        refine wa_cons ?_
        refine v 4 ?_
        refine wa_nil ?_
        refine use_l_stretch (by assumption) (by omega) (by omega) fun a b c7 hc7 lt le => ?_
        refine wg_tup c.calm ?_ rfl
        refine wgs_cons ?_
        refine wg_name 7 c.nd rfl (by walk_at "zloc") ?_
        refine wgs_cons ?_
        refine wg_name 8 c.nd rfl (by walk_at "zloc") ?_
        refine wgs_nil ?_
        refine wb_cons ?_
        refine ws_set 9 c.nd rfl (by walk_at "zloc") ?_
        refine we_call c (av_summary T) (by decide) rfl ?_
        refine wa_cons ?_
        refine v 3 ?_
        refine wa_cons ?_
        refine v 5 ?_
        refine wa_cons ?_
        refine we_tup ?_
        refine wa_cons ?_
        refine v 7 ?_
        refine wa_cons ?_
        refine v 8 ?_
        refine wa_nil ?_
        refine ⟨[_, _], rfl, by simp, ?_⟩
        refine wa_nil ?_
        refine use_summary ok lt (by omega) (by omega) ?_
        refine wb_cons ?_
        refine ws_if ?_
        refine wt_cmp op_gt (nomark _) ?_
        refine we_op op_sub ?_
        refine v 8 ?_
        refine v 7 ?_
        refine r2_I0 ?_
        refine we_int ?_
        refine r2_B0 ?_
        refine ⟨_, rfl, ?_⟩
        refine ⟨fun hc9 => ?_, fun hc9 => ?_⟩
        · have hgt := of_decide_eq_true hc9
          refine wb_cons ?_
          refine ws_set 10 c.nd rfl (by walk_at "zloc") ?_
          refine we_op op_addZ ?_
          refine we_op op_addZ ?_
          refine v 7 ?_
          refine we_int ?_
          walk_at "z+"
          refine we_call c (av_l_take T) (by decide) rfl ?_
          refine wa_cons ?_
          refine v 2 ?_
          refine wa_cons ?_
          refine we_op op_sub ?_
          refine we_op op_sub ?_
          refine v 8 ?_
          refine v 7 ?_
          refine r2_I0 ?_
          refine we_int ?_
          refine r2_I0 ?_
          refine wa_nil ?_
          refine use_l_take (by assumption) (by omega) (by omega) fun tm c10 hc10 lo10 hi10 => ?_
          obtain ⟨mid, em, hm1, hm2⟩ : ∃ mid : Nat, (a : Int) + 1 + tm = (mid : Int) ∧ a < mid ∧ mid < b := ⟨((a : Int) + 1 + tm).toNat, by omega, by omega, by omega⟩
          refine add_I ?_
          rw [em]
          refine wb_cons ?_
          refine ws_set 11 c.nd rfl (by walk_at "zloc") ?_
          refine we_call c (av_summary T) (by decide) rfl ?_
          refine wa_cons ?_
          refine v 3 ?_
          refine wa_cons ?_
          refine v 5 ?_
          refine wa_cons ?_
          refine we_tup ?_
          refine wa_cons ?_
          refine v 7 ?_
          refine wa_cons ?_
          refine v 10 ?_
          refine wa_nil ?_
          refine ⟨[_, _], rfl, by simp, ?_⟩
          refine wa_nil ?_
          refine use_summary ok hm1 (by omega) (by omega) ?_
          refine wb_cons ?_
          refine ws_if ?_
          refine wt_cmp op_ne (nomark _) ?_
          refine v 9 ?_
          refine we_call c (av_l_joined T) (by decide) rfl ?_
          refine wa_cons ?_
          refine v 3 ?_
          refine wa_cons ?_
          refine v 11 ?_
          refine wa_cons ?_
          refine we_call c (av_summary T) (by decide) rfl ?_
          refine wa_cons ?_
          refine v 3 ?_
          refine wa_cons ?_
          refine v 5 ?_
          refine wa_cons ?_
          refine we_tup ?_
          refine wa_cons ?_
          refine v 10 ?_
          refine wa_cons ?_
          refine v 8 ?_
          refine wa_nil ?_
          refine ⟨[_, _], rfl, by simp, ?_⟩
          refine wa_nil ?_
          refine use_summary ok hm2 (by omega) (by omega) ?_
          refine wa_nil ?_
          refine use_l_joined (HV.sm_V1 (HV.cut_ok ok) (by rw [HV.cut_len (by omega)]; omega)) (HV.sm_V1 (HV.cut_ok ok) (by rw [HV.cut_len (by omega)]; omega)) ?_
          rw [HV.sm_join hm1 hm2 (by omega)]
          refine V1.same (HV.sm_V1 (HV.cut_ok ok) (by rw [HV.cut_len (by omega)]; omega)) ?_
          refine ⟨_, rfl, ?_⟩
          refine ⟨fun hc14 => ?_, fun hc14 => ?_⟩
          · exact Bool.noConfusion hc14
          · refine wb_nil ?_
            refine wb_nil ?_
            refine wb_cons ?_
            refine ws_set 12 c.nd rfl (by walk_at "zloc") ?_
            refine we_call c (av_l_history T) (by decide) rfl ?_
            refine wa_cons ?_
            refine v 2 ?_
            refine wa_cons ?_
            refine v 3 ?_
            refine wa_cons ?_
            refine v 4 ?_
            refine wa_nil ?_
            refine use_l_history (by assumption) (by omega) fun ho c15 hc15 hol ook => ?_
            refine wb_cons ?_
            refine ws_set 13 c.nd rfl (by walk_at "zloc") ?_
            refine we_op op_addZ ?_
            refine we_op op_addZ ?_
            refine we_slice sl_Z ?_
            refine v 12 ?_
            refine wo_none ?_
            refine wo_some ?_
            refine v 7 ?_
            refine ⟨_, rfl, ?_⟩
            walk_at "z:"
            refine we_slice sl_Z ?_
            refine v 5 ?_
            refine wo_some ?_
            refine v 7 ?_
            refine ⟨_, rfl, ?_⟩
            refine wo_some ?_
            refine v 8 ?_
            refine ⟨_, rfl, ?_⟩
            walk_at "z:"
            refine add_T (by have q1 := cutD_le (xs := ho.ds) (lo := none) (hi := some (a : Int)); have q2 := cutD_le (xs := hv.ds) (lo := some (a : Int)) (hi := some (b : Int)); rw [HV.ds_len] at q1 q2; omega) ?_
            refine we_slice sl_Z ?_
            refine v 12 ?_
            refine wo_some ?_
            refine v 8 ?_
            refine ⟨_, rfl, ?_⟩
            refine wo_none ?_
            walk_at "z:"
            obtain ⟨mx, emx, mok, mlen, mcut⟩ := HV.mix (a := a) (b := b) ok ook hl hol lt (by omega)
            refine add_T (by rw [← List.length_append, ← emx, HV.ds_len]; omega) ?_
            rw [← emx]
            refine wb_cons ?_
            refine ws_if ?_
            refine wt_cmp op_ne (nomark _) ?_
            refine we_call c (av_summary T) (by decide) rfl ?_
            refine wa_cons ?_
            refine v 3 ?_
            refine wa_cons ?_
            refine v 13 ?_
            refine wa_cons ?_
            refine we_tup ?_
            refine wa_cons ?_
            refine v 7 ?_
            refine wa_cons ?_
            refine v 8 ?_
            refine wa_nil ?_
            refine ⟨[_, _], rfl, by simp, ?_⟩
            refine wa_nil ?_
            refine use_summary mok lt (by omega) (by omega) ?_
            rw [mcut]
            refine v 9 ?_
            refine V1.same (HV.sm_V1 (HV.cut_ok ok) (by rw [HV.cut_len (by omega)]; omega)) ?_
            refine ⟨_, rfl, ?_⟩
            refine ⟨fun hc17 => ?_, fun hc17 => ?_⟩
            · exact Bool.noConfusion hc17
            · refine wb_nil ?_
              refine wb_cons ?_
              refine ws_if ?_
              refine wt_cmp op_in_seq rfl ?_
              refine v 3 ?_
              refine we_lst ?_
              refine wa_cons ?_
              refine we_str ?_
              refine wa_cons ?_
              refine we_str ?_
              refine wa_nil ?_
              refine ⟨[_, _], rfl, by simp, ?_⟩
              walk_at "zin"
              refine ⟨_, rfl, ?_⟩
              refine ⟨fun hc18 => ?_, fun hc18 => ?_⟩
              · have hin := is_in2 hc18
                obtain ⟨xs, rfl⟩ : ∃ xs, hv = .I xs := by
                  cases hv with
                  | I xs => exact ⟨xs, rfl⟩
                  | S xs =>
                    have e := ok.1
                    rcases hin with h | h <;> (rw [h] at e; exact absurd e (by decide +kernel))
                have hxl : xs.length = hh := hl
                refine wb_cons ?_
                refine ws_set 14 c.nd rfl (by walk_at "zloc") ?_
                refine we_callTy c_tuple rfl T.b_tuple (by decide +kernel) ?_
                refine wa_cons ?_
                refine we_lcD [("_law_value", 16)] c.calm c.nd (blkOk_by (N := n_law) (sc := defScope s_law) (by decide +kernel)) ?_
                refine wi_tup ?_
                refine v 5 ?_
                refine ⟨_, rfl, ?_⟩
                refine ⟨fun i acc m' => acc = (((xs.take i).map fun x => (0 - x)).map PyData.int).map .d ∧ ∃ c : Int × Int, FOk c ∧ m' = m1.put f (fdO c), ?_, ?_, ?_⟩
                · exact ⟨rfl, _, (by assumption), rfl⟩
                · intro i19 d19 acc19 m19 hd19 hi19
                  obtain ⟨rfl, c19, hc19, rfl⟩ := hi19
                  obtain ⟨x, rfl, hx⟩ := ints_get hd19
                  refine ⟨by simp; omega, fun s0 H0 C cl fp => ?_⟩
                  refine wg_name 16 c.nd rfl (by walk_at "zloc") ?_
                  intro s0 H0 C cl fp
                  refine ⟨fun _ s0 H0 C cl fp => ?_, fun hb => Bool.noConfusion hb⟩
                  refine we_op op_sub ?_
                  refine we_int ?_
                  refine v 16 ?_
                  refine r2_I0 ?_
                  exact ⟨by rw [List.take_add_one, hx]; simp, _, (by assumption), rfl⟩
                · intro acc19 m19 ⟨e119, c19, hc19, e219⟩
                  subst e119 e219
                  refine ⟨(xs.map fun x => 0 - x).map PyData.int, by simp [HV.ds], ?_⟩
                  refine wa_nil ?_
                  walk_at "ztuple"
                  refine wb_cons ?_
                  refine ws_set 15 c.nd rfl (by walk_at "zloc") ?_
                  refine we_if ?_
                  refine wt_cmp op_eq (nomark _) ?_
                  refine v 3 ?_
                  refine we_str ?_
                  refine eq_S ?_
                  refine ⟨_, rfl, ?_⟩
                  refine ⟨fun hc20 => ?_, fun hc20 => ?_⟩
                  · have hkg := of_decide_eq_true hc20
                    refine we_str ?_
                    refine wb_cons ?_
                    refine ws_if ?_
                    refine wt_cmp op_ne (nomark _) ?_
                    refine we_call c (av_summary T) (by decide) rfl ?_
                    refine wa_cons ?_
                    refine v 15 ?_
                    refine wa_cons ?_
                    refine v 14 ?_
                    refine wa_cons ?_
                    refine we_tup ?_
                    refine wa_cons ?_
                    refine v 7 ?_
                    refine wa_cons ?_
                    refine v 8 ?_
                    refine wa_nil ?_
                    refine ⟨[_, _], rfl, by simp, ?_⟩
                    refine wa_nil ?_
                    refine use_summary (h := .I (xs.map fun x => 0 - x)) (by show _ ≠ _; decide +kernel) lt (by show _ ≤ List.length _; rw [List.length_map]; omega) (by show List.length _ ≤ _; rw [List.length_map]; omega) ?_
                    rw [sm_neg (k := kind) lt (by omega) (by first | exact .inl ⟨hkg, rfl⟩ | exact .inr ⟨hkg, rfl⟩)]
                    refine we_op op_sub ?_
                    refine we_int ?_
                    refine v 9 ?_
                    refine r2_I0 ?_
                    refine ne_V (v := .int _) (u := .int _) rfl rfl rfl ?_
                    rw [decide_eq_true rfl]
                    refine ⟨_, rfl, ?_⟩
                    refine ⟨fun hc22 => ?_, fun hc22 => ?_⟩
                    · exact Bool.noConfusion hc22
                    · refine wb_nil ?_
                      refine wb_nil ?_
                      refine wb_nil ?_
                      exact ⟨_, _, _, _, _, _, _, _, _, _, _, _, (by assumption), rfl, rfl⟩
                  · have hkg := hin.resolve_left (of_decide_eq_false hc20)
                    refine we_str ?_
                    refine wb_cons ?_
                    refine ws_if ?_
                    refine wt_cmp op_ne (nomark _) ?_
                    refine we_call c (av_summary T) (by decide) rfl ?_
                    refine wa_cons ?_
                    refine v 15 ?_
                    refine wa_cons ?_
                    refine v 14 ?_
                    refine wa_cons ?_
                    refine we_tup ?_
                    refine wa_cons ?_
                    refine v 7 ?_
                    refine wa_cons ?_
                    refine v 8 ?_
                    refine wa_nil ?_
                    refine ⟨[_, _], rfl, by simp, ?_⟩
                    refine wa_nil ?_
                    refine use_summary (h := .I (xs.map fun x => 0 - x)) (by show _ ≠ _; decide +kernel) lt (by show _ ≤ List.length _; rw [List.length_map]; omega) (by show List.length _ ≤ _; rw [List.length_map]; omega) ?_
                    rw [sm_neg (k := kind) lt (by omega) (by first | exact .inl ⟨hkg, rfl⟩ | exact .inr ⟨hkg, rfl⟩)]
                    refine we_op op_sub ?_
                    refine we_int ?_
                    refine v 9 ?_
                    refine r2_I0 ?_
                    refine ne_V (v := .int _) (u := .int _) rfl rfl rfl ?_
                    rw [decide_eq_true rfl]
                    refine ⟨_, rfl, ?_⟩
                    refine ⟨fun hc24 => ?_, fun hc24 => ?_⟩
                    · exact Bool.noConfusion hc24
                    · refine wb_nil ?_
                      refine wb_nil ?_
                      refine wb_nil ?_
                      exact ⟨_, _, _, _, _, _, _, _, _, _, _, _, (by assumption), rfl, rfl⟩
              · refine wb_nil ?_
                refine wb_nil ?_
                exact ⟨_, _, _, _, _, _, _, _, _, _, _, _, (by assumption), rfl, rfl⟩
        · have hgt := of_decide_eq_false hc9
          refine wb_cons ?_
          refine ws_if ?_
          refine wt_cmp op_ne (nomark _) ?_
          refine v 9 ?_
          refine we_ix ix_seq ?_
          refine v 5 ?_
          refine v 7 ?_
          have hb1 : b = a + 1 := by omega
          refine ix_T (d := (hv.cut a b).sm kind) (by rw [hb1]; exact HV.sm_one (by omega)) ?_
          refine V1.same (HV.sm_V1 (HV.cut_ok ok) (by rw [HV.cut_len (by omega)]; omega)) ?_
          refine ⟨_, rfl, ?_⟩
          refine ⟨fun hc25 => ?_, fun hc25 => ?_⟩
          · exact Bool.noConfusion hc25
          · refine wb_nil ?_
            refine wb_nil ?_
            refine wb_cons ?_
            refine ws_set 12 c.nd rfl (by walk_at "zloc") ?_
            refine we_call c (av_l_history T) (by decide) rfl ?_
            refine wa_cons ?_
            refine v 2 ?_
            refine wa_cons ?_
            refine v 3 ?_
            refine wa_cons ?_
            refine v 4 ?_
            refine wa_nil ?_
            refine use_l_history (by assumption) (by omega) fun ho c26 hc26 hol ook => ?_
            refine wb_cons ?_
            refine ws_set 13 c.nd rfl (by walk_at "zloc") ?_
            refine we_op op_addZ ?_
            refine we_op op_addZ ?_
            refine we_slice sl_Z ?_
            refine v 12 ?_
            refine wo_none ?_
            refine wo_some ?_
            refine v 7 ?_
            refine ⟨_, rfl, ?_⟩
            walk_at "z:"
            refine we_slice sl_Z ?_
            refine v 5 ?_
            refine wo_some ?_
            refine v 7 ?_
            refine ⟨_, rfl, ?_⟩
            refine wo_some ?_
            refine v 8 ?_
            refine ⟨_, rfl, ?_⟩
            walk_at "z:"
            refine add_T (by have q1 := cutD_le (xs := ho.ds) (lo := none) (hi := some (a : Int)); have q2 := cutD_le (xs := hv.ds) (lo := some (a : Int)) (hi := some (b : Int)); rw [HV.ds_len] at q1 q2; omega) ?_
            refine we_slice sl_Z ?_
            refine v 12 ?_
            refine wo_some ?_
            refine v 8 ?_
            refine ⟨_, rfl, ?_⟩
            refine wo_none ?_
            walk_at "z:"
            obtain ⟨mx, emx, mok, mlen, mcut⟩ := HV.mix (a := a) (b := b) ok ook hl hol lt (by omega)
            refine add_T (by rw [← List.length_append, ← emx, HV.ds_len]; omega) ?_
            rw [← emx]
            refine wb_cons ?_
            refine ws_if ?_
            refine wt_cmp op_ne (nomark _) ?_
            refine we_call c (av_summary T) (by decide) rfl ?_
            refine wa_cons ?_
            refine v 3 ?_
            refine wa_cons ?_
            refine v 13 ?_
            refine wa_cons ?_
            refine we_tup ?_
            refine wa_cons ?_
            refine v 7 ?_
            refine wa_cons ?_
            refine v 8 ?_
            refine wa_nil ?_
            refine ⟨[_, _], rfl, by simp, ?_⟩
            refine wa_nil ?_
            refine use_summary mok lt (by omega) (by omega) ?_
            rw [mcut]
            refine v 9 ?_
            refine V1.same (HV.sm_V1 (HV.cut_ok ok) (by rw [HV.cut_len (by omega)]; omega)) ?_
            refine ⟨_, rfl, ?_⟩
            refine ⟨fun hc28 => ?_, fun hc28 => ?_⟩
            · exact Bool.noConfusion hc28
            · refine wb_nil ?_
              refine wb_cons ?_
              refine ws_if ?_
              refine wt_cmp op_in_seq rfl ?_
              refine v 3 ?_
              refine we_lst ?_
              refine wa_cons ?_
              refine we_str ?_
              refine wa_cons ?_
              refine we_str ?_
              refine wa_nil ?_
              refine ⟨[_, _], rfl, by simp, ?_⟩
              walk_at "zin"
              refine ⟨_, rfl, ?_⟩
              refine ⟨fun hc29 => ?_, fun hc29 => ?_⟩
              · have hin := is_in2 hc29
                obtain ⟨xs, rfl⟩ : ∃ xs, hv = .I xs := by
                  cases hv with
                  | I xs => exact ⟨xs, rfl⟩
                  | S xs =>
                    have e := ok.1
                    rcases hin with h | h <;> (rw [h] at e; exact absurd e (by decide +kernel))
                have hxl : xs.length = hh := hl
                refine wb_cons ?_
                refine ws_set 14 c.nd rfl (by walk_at "zloc") ?_
                refine we_callTy c_tuple rfl T.b_tuple (by decide +kernel) ?_
                refine wa_cons ?_
                refine we_lcD [("_law_value", 16)] c.calm c.nd (blkOk_by (N := n_law) (sc := defScope s_law) (by decide +kernel)) ?_
                refine wi_tup ?_
                refine v 5 ?_
                refine ⟨_, rfl, ?_⟩
                refine ⟨fun i acc m' => acc = (((xs.take i).map fun x => (0 - x)).map PyData.int).map .d ∧ ∃ c : Int × Int, FOk c ∧ m' = m1.put f (fdO c), ?_, ?_, ?_⟩
                · exact ⟨rfl, _, (by assumption), rfl⟩
                · intro i30 d30 acc30 m30 hd30 hi30
                  obtain ⟨rfl, c30, hc30, rfl⟩ := hi30
                  obtain ⟨x, rfl, hx⟩ := ints_get hd30
                  refine ⟨by simp; omega, fun s0 H0 C cl fp => ?_⟩
                  refine wg_name 16 c.nd rfl (by walk_at "zloc") ?_
                  intro s0 H0 C cl fp
                  refine ⟨fun _ s0 H0 C cl fp => ?_, fun hb => Bool.noConfusion hb⟩
                  refine we_op op_sub ?_
                  refine we_int ?_
                  refine v 16 ?_
                  refine r2_I0 ?_
                  exact ⟨by rw [List.take_add_one, hx]; simp, _, (by assumption), rfl⟩
                · intro acc30 m30 ⟨e130, c30, hc30, e230⟩
                  subst e130 e230
                  refine ⟨(xs.map fun x => 0 - x).map PyData.int, by simp [HV.ds], ?_⟩
                  refine wa_nil ?_
                  walk_at "ztuple"
                  refine wb_cons ?_
                  refine ws_set 15 c.nd rfl (by walk_at "zloc") ?_
                  refine we_if ?_
                  refine wt_cmp op_eq (nomark _) ?_
                  refine v 3 ?_
                  refine we_str ?_
                  refine eq_S ?_
                  refine ⟨_, rfl, ?_⟩
                  refine ⟨fun hc31 => ?_, fun hc31 => ?_⟩
                  · have hkg := of_decide_eq_true hc31
                    refine we_str ?_
                    refine wb_cons ?_
                    refine ws_if ?_
                    refine wt_cmp op_ne (nomark _) ?_
                    refine we_call c (av_summary T) (by decide) rfl ?_
                    refine wa_cons ?_
                    refine v 15 ?_
                    refine wa_cons ?_
                    refine v 14 ?_
                    refine wa_cons ?_
                    refine we_tup ?_
                    refine wa_cons ?_
                    refine v 7 ?_
                    refine wa_cons ?_
                    refine v 8 ?_
                    refine wa_nil ?_
                    refine ⟨[_, _], rfl, by simp, ?_⟩
                    refine wa_nil ?_
                    refine use_summary (h := .I (xs.map fun x => 0 - x)) (by show _ ≠ _; decide +kernel) lt (by show _ ≤ List.length _; rw [List.length_map]; omega) (by show List.length _ ≤ _; rw [List.length_map]; omega) ?_
                    rw [sm_neg (k := kind) lt (by omega) (by first | exact .inl ⟨hkg, rfl⟩ | exact .inr ⟨hkg, rfl⟩)]
                    refine we_op op_sub ?_
                    refine we_int ?_
                    refine v 9 ?_
                    refine r2_I0 ?_
                    refine ne_V (v := .int _) (u := .int _) rfl rfl rfl ?_
                    rw [decide_eq_true rfl]
                    refine ⟨_, rfl, ?_⟩
                    refine ⟨fun hc33 => ?_, fun hc33 => ?_⟩
                    · exact Bool.noConfusion hc33
                    · refine wb_nil ?_
                      refine wb_nil ?_
                      refine wb_nil ?_
                      exact ⟨_, _, _, _, _, _, _, _, _, _, _, _, (by assumption), rfl, rfl⟩
                  · have hkg := hin.resolve_left (of_decide_eq_false hc31)
                    refine we_str ?_
                    refine wb_cons ?_
                    refine ws_if ?_
                    refine wt_cmp op_ne (nomark _) ?_
                    refine we_call c (av_summary T) (by decide) rfl ?_
                    refine wa_cons ?_
                    refine v 15 ?_
                    refine wa_cons ?_
                    refine v 14 ?_
                    refine wa_cons ?_
                    refine we_tup ?_
                    refine wa_cons ?_
                    refine v 7 ?_
                    refine wa_cons ?_
                    refine v 8 ?_
                    refine wa_nil ?_
                    refine ⟨[_, _], rfl, by simp, ?_⟩
                    refine wa_nil ?_
                    refine use_summary (h := .I (xs.map fun x => 0 - x)) (by show _ ≠ _; decide +kernel) lt (by show _ ≤ List.length _; rw [List.length_map]; omega) (by show List.length _ ≤ _; rw [List.length_map]; omega) ?_
                    rw [sm_neg (k := kind) lt (by omega) (by first | exact .inl ⟨hkg, rfl⟩ | exact .inr ⟨hkg, rfl⟩)]
                    refine we_op op_sub ?_
                    refine we_int ?_
                    refine v 9 ?_
                    refine r2_I0 ?_
                    refine ne_V (v := .int _) (u := .int _) rfl rfl rfl ?_
                    rw [decide_eq_true rfl]
                    refine ⟨_, rfl, ?_⟩
                    refine ⟨fun hc35 => ?_, fun hc35 => ?_⟩
                    · exact Bool.noConfusion hc35
                    · refine wb_nil ?_
                      refine wb_nil ?_
                      refine wb_nil ?_
                      exact ⟨_, _, _, _, _, _, _, _, _, _, _, _, (by assumption), rfl, rfl⟩
              · refine wb_nil ?_
                refine wb_nil ?_
                exact ⟨_, _, _, _, _, _, _, _, _, _, _, _, (by assumption), rfl, rfl⟩
      · intro n6 m6 hi6
        obtain ⟨c6, d6, d7, d8, d9, d10, d11, d12, d13, d14, d15, d16, hc6, rfl, rfl⟩ := hi6
        refine wb_nil ?_
        exact ⟨_, _, _, _, _, _, _, _, _, _, _, _, _, _, _, (by assumption), rfl, rfl⟩
    · intro n3 m3 hi3
      obtain ⟨c3, b3, b4, b5, b6, b7, b8, b9, b10, b11, b12, b13, b14, b15, b16, hc3, rfl, rfl⟩ := hi3
      refine wb_nil ?_
      exact ⟨_, _, _, _, _, _, _, _, _, _, _, _, _, _, _, _, rfl⟩
  · intro n1 m1 hi1
    obtain ⟨a1, a2, a3, a4, a5, a6, a7, a8, a9, a10, a11, a12, a13, a14, a15, a16, rfl⟩ := hi1
    refine wb_cons ?_
    refine ws_ret ?_
    refine we_bl ?_
    exact ⟨_, Sub.refl, rfl⟩
end
theorem all_mk {l : PySem.W.OpenLaw} {w : World} {K : PySem.W.Frag} {h : Heap} {mg : Str → Option Value} {fa : Addr} (X : K.In h) (G : h.Ns mainGlobals mg) (hfa : mg "law" = some (.ref fa))
    {f0 : Addr} {od0 an0 : Option Addr} {sl0 : Array (Option Value)} {oc0 kV0 dc0 pm0 cd0 ct0 : Value}
    (a0 : PySem.W.nsIn K mainGlobals "summary" = some (some (.ref f0)))
    (l0 : K.lookup f0 = some ⟨oc0, od0, .func (PySem.W.fnOf "summary" "summary" (defArgs s_summary) (defBody s_summary) (defScope s_summary) .none kV0 dc0 pm0 an0 cd0 ct0), sl0⟩)
    (c0 : PySem.W.codeIn K cd0 "summary" = true) (k0 : PySem.W.keepIn K (.ref f0) = true)
    {f1 : Addr} {od1 an1 : Option Addr} {sl1 : Array (Option Value)} {oc1 kV1 dc1 pm1 cd1 ct1 : Value}
    (a1 : PySem.W.nsIn K mainGlobals "_law_feed" = some (some (.ref f1)))
    (l1 : K.lookup f1 = some ⟨oc1, od1, .func (PySem.W.fnOf "_law_feed" "_law_feed" (defArgs s_l_feed) (defBody s_l_feed) (defScope s_l_feed) .none kV1 dc1 pm1 an1 cd1 ct1), sl1⟩)
    (c1 : PySem.W.codeIn K cd1 "_law_feed" = true) (k1 : PySem.W.keepIn K (.ref f1) = true)
    {f2 : Addr} {od2 an2 : Option Addr} {sl2 : Array (Option Value)} {oc2 kV2 dc2 pm2 cd2 ct2 : Value}
    (a2 : PySem.W.nsIn K mainGlobals "_law_take" = some (some (.ref f2)))
    (l2 : K.lookup f2 = some ⟨oc2, od2, .func (PySem.W.fnOf "_law_take" "_law_take" (defArgs s_l_take) (defBody s_l_take) (defScope s_l_take) .none kV2 dc2 pm2 an2 cd2 ct2), sl2⟩)
    (c2 : PySem.W.codeIn K cd2 "_law_take" = true) (k2 : PySem.W.keepIn K (.ref f2) = true)
    {f3 : Addr} {od3 an3 : Option Addr} {sl3 : Array (Option Value)} {oc3 kV3 dc3 pm3 cd3 ct3 : Value}
    (a3 : PySem.W.nsIn K mainGlobals "_law_pick" = some (some (.ref f3)))
    (l3 : K.lookup f3 = some ⟨oc3, od3, .func (PySem.W.fnOf "_law_pick" "_law_pick" (defArgs s_l_pick) (defBody s_l_pick) (defScope s_l_pick) .none kV3 dc3 pm3 an3 cd3 ct3), sl3⟩)
    (c3 : PySem.W.codeIn K cd3 "_law_pick" = true) (k3 : PySem.W.keepIn K (.ref f3) = true)
    {f4 : Addr} {od4 an4 : Option Addr} {sl4 : Array (Option Value)} {oc4 kV4 dc4 pm4 cd4 ct4 : Value}
    (a4 : PySem.W.nsIn K mainGlobals "_law_stretch" = some (some (.ref f4)))
    (l4 : K.lookup f4 = some ⟨oc4, od4, .func (PySem.W.fnOf "_law_stretch" "_law_stretch" (defArgs s_l_stretch) (defBody s_l_stretch) (defScope s_l_stretch) .none kV4 dc4 pm4 an4 cd4 ct4), sl4⟩)
    (c4 : PySem.W.codeIn K cd4 "_law_stretch" = true) (k4 : PySem.W.keepIn K (.ref f4) = true)
    {f5 : Addr} {od5 an5 : Option Addr} {sl5 : Array (Option Value)} {oc5 kV5 dc5 pm5 cd5 ct5 : Value}
    (a5 : PySem.W.nsIn K mainGlobals "_law_history" = some (some (.ref f5)))
    (l5 : K.lookup f5 = some ⟨oc5, od5, .func (PySem.W.fnOf "_law_history" "_law_history" (defArgs s_l_history) (defBody s_l_history) (defScope s_l_history) .none kV5 dc5 pm5 an5 cd5 ct5), sl5⟩)
    (c5 : PySem.W.codeIn K cd5 "_law_history" = true) (k5 : PySem.W.keepIn K (.ref f5) = true)
    {f6 : Addr} {od6 an6 : Option Addr} {sl6 : Array (Option Value)} {oc6 kV6 dc6 pm6 cd6 ct6 : Value}
    (a6 : PySem.W.nsIn K mainGlobals "_law_joined" = some (some (.ref f6)))
    (l6 : K.lookup f6 = some ⟨oc6, od6, .func (PySem.W.fnOf "_law_joined" "_law_joined" (defArgs s_l_joined) (defBody s_l_joined) (defScope s_l_joined) .none kV6 dc6 pm6 an6 cd6 ct6), sl6⟩)
    (c6 : PySem.W.codeIn K cd6 "_law_joined" = true) (k6 : PySem.W.keepIn K (.ref f6) = true)
    {f7 : Addr} {od7 an7 : Option Addr} {sl7 : Array (Option Value)} {oc7 kV7 dc7 pm7 cd7 ct7 : Value}
    (a7 : PySem.W.nsIn K mainGlobals "law" = some (some (.ref f7)))
    (l7 : K.lookup f7 = some ⟨oc7, od7, .func (PySem.W.fnOf "law" "law" (defArgs s_law) (defBody s_law) (defScope s_law) .none kV7 dc7 pm7 an7 cd7 ct7), sl7⟩)
    (c7 : PySem.W.codeIn K cd7 "law" = true) (k7 : PySem.W.keepIn K (.ref f7) = true)
    (z_abs : PySem.W.nsIn K mainGlobals "abs" = some none)
    (z_int : PySem.W.nsIn K mainGlobals "int" = some none)
    (z_len : PySem.W.nsIn K mainGlobals "len" = some none)
    (z_max : PySem.W.nsIn K mainGlobals "max" = some none)
    (z_min : PySem.W.nsIn K mainGlobals "min" = some none)
    (z_range : PySem.W.nsIn K mainGlobals "range" = some none)
    (z_sum : PySem.W.nsIn K mainGlobals "sum" = some none)
    (z_tuple : PySem.W.nsIn K mainGlobals "tuple" = some none)
    : ∃ fd : FuncData, (∀ (s : Shared) (v : Value), BindsTo s fd ⟨[v], []⟩ [("_law_script", v)]) ∧ ∀ base : Heap, K.In base → base.Ns mainGlobals mg → FnG l.prog w K mg base 4 fa fd ["_law_script"] (spW K (lawS 63)) := by
  have e := hfa.symm.trans (PySem.W.mg_of X G a7)
  cases e
  have T : Txt K mg := ⟨PySem.W.mg_none_of X G z_abs, PySem.W.mg_none_of X G z_int, PySem.W.mg_none_of X G z_len, PySem.W.mg_none_of X G z_max, PySem.W.mg_none_of X G z_min, PySem.W.mg_none_of X G z_range, PySem.W.mg_none_of X G z_sum, PySem.W.mg_none_of X G z_tuple, ⟨_, _, fun_mk (st := s_summary) l0 c0 k0, PySem.W.mg_of X G a0⟩, ⟨_, _, fun_mk (st := s_l_feed) l1 c1 k1, PySem.W.mg_of X G a1⟩, ⟨_, _, fun_mk (st := s_l_take) l2 c2 k2, PySem.W.mg_of X G a2⟩, ⟨_, _, fun_mk (st := s_l_pick) l3 c3 k3, PySem.W.mg_of X G a3⟩, ⟨_, _, fun_mk (st := s_l_stretch) l4 c4 k4, PySem.W.mg_of X G a4⟩, ⟨_, _, fun_mk (st := s_l_history) l5 c5 k5, PySem.W.mg_of X G a5⟩, ⟨_, _, fun_mk (st := s_l_joined) l6 c6 k6, PySem.W.mg_of X G a6⟩⟩
  exact ⟨_, fun s v => .of_eq rfl, fun base _ _ => g_law (fun_mk (st := s_law) l7 c7 k7) T⟩
end T
open PySem PySem.W PyProof.Rows in
set_option maxRecDepth 100000 in
set_option maxHeartbeats 0 in
theorem PySem.Challenge.cw_spanvault_k05_whole_summaries_of_parts_holds : PySem.Challenge.rw_spanvault_k05_whole_summaries_of_parts.Holds := by
  w_on; o_law; k_head; (case hw => w_witness2)
  k_fill
  refine Z.walk_G (l := PySem.Challenge.rw_spanvault_k05_whole_summaries_of_parts) (n := 63) (k := 4) (x := "_law_script") rfl (by decide) rfl ⟨rfl, by decide, by decide⟩ (fun w h Y => PySem.W.kIn_of Y) ?F
  case F =>
    intro w mg fa h KX G hmg
    refine' T.all_mk KX G hmg ?a0 ?l0 ?c0 ?k0 ?a1 ?l1 ?c1 ?k1 ?a2 ?l2 ?c2 ?k2 ?a3 ?l3 ?c3 ?k3 ?a4 ?l4 ?c4 ?k4 ?a5 ?l5 ?c5 ?k5 ?a6 ?l6 ?c6 ?k6 ?a7 ?l7 ?c7 ?k7 ?z_abs ?z_int ?z_len ?z_max ?z_min ?z_range ?z_sum ?z_tuple
    (case a0 => k_is)
    (case l0 => k_is)
    (case c0 => k_is)
    (case k0 => k_is)
    (case a1 => k_is)
    (case l1 => k_is)
    (case c1 => k_is)
    (case k1 => k_is)
    (case a2 => k_is)
    (case l2 => k_is)
    (case c2 => k_is)
    (case k2 => k_is)
    (case a3 => k_is)
    (case l3 => k_is)
    (case c3 => k_is)
    (case k3 => k_is)
    (case a4 => k_is)
    (case l4 => k_is)
    (case c4 => k_is)
    (case k4 => k_is)
    (case a5 => k_is)
    (case l5 => k_is)
    (case c5 => k_is)
    (case k5 => k_is)
    (case a6 => k_is)
    (case l6 => k_is)
    (case c6 => k_is)
    (case k6 => k_is)
    (case a7 => k_is)
    (case l7 => k_is)
    (case c7 => k_is)
    (case k7 => k_is)
    (case z_abs => k_is)
    (case z_int => k_is)
    (case z_len => k_is)
    (case z_max => k_is)
    (case z_min => k_is)
    (case z_range => k_is)
    (case z_sum => k_is)
    (case z_tuple => k_is)

