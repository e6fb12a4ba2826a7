import PyProof.Rows.All
import Wide.All
import OpenK.AllK
import Wide.FinOn
import HandS.ForMost
import HandS.Property
import HandS.MakeKwOnly
import HandS.IsInst
import HandS.DictComp
import HandS.ListItems
import HandS.SortRule
import HandS.SortInts
import HandS.Style
import HandS.Wide
import HandS.Flow
import HandS.Walk
import HandS.Zip
import HandS.TupAny
import HandS.Conv
import PySem.Challenge.RW_eventdeliveries_k59_explanations_known_b
set_option Elab.async false
set_option linter.all false
set_option maxRecDepth 100000
set_option maxHeartbeats 4000000
/-! DL1: deep values, cells, worlds; steps. -/
namespace DL
open PySem PySem.Spec PyProof.Rows L2
inductive D where
  | non | bl (b : Bool) | int (i : Int) | str (s : Str) | ty (n : String) | adr (a : Addr) | ptr (k : Nat)
  | lst (xs : List D) | tup (xs : List D) | obj (C : Addr) (L : List Str) (xs : List D) | scr (ns : List Int)
inductive Cel where
  | lst (xs : List D) | dK (kvs : List (Key × D)) | lk (kvs : List (Key × D)) | ins (C : Addr) (L : List Str) (xs : List D) | gone
structure Wd where
  al : List Addr
  H : Hp
  cs : List Cel
def Cel.live : Cel → Bool
  | .gone => false
  | .lk _ => false
  | _ => true
def Wd.mu (W : Wd) (a : Addr) : Prop := ∃ (k : Nat) (c : Cel), W.al[k]? = some a ∧ W.cs[k]? = some c ∧ c.live = true
/-- a list of the written part -/
def KL (K : PySem.W.Frag) (a : Addr) (xs : List V) : Prop :=
  ∃ (o : Obj) (its : Array Value) (n : Nat), K.lookup a = some o ∧ o.cls = .type "list" ∧ o.dict = none ∧ o.data = .seq its n ∧ its.size ≤ sizeLine ∧ Vals xs its.toList
mutual
def Is (K : PySem.W.Frag) (W : Wd) : D → V → Prop
  | .non, v => v = .non
  | .bl b, v => v = .bl b
  | .int i, v => v = .int i
  | .str s, v => v = .str s
  | .ty n, v => v = .ty n
  | .adr a, v => v = .ref a
  | .ptr k, v => ∃ a, W.al[k]? = some a ∧ v = .ref a
  | .lst ds, v => ∃ a vs, v = .ref a ∧ W.H a = some (.lst vs) ∧ ¬ W.mu a ∧ Iss K W ds vs
  | .tup ds, v => ∃ a vs, v = .ref a ∧ W.H a = some (.tup vs) ∧ ¬ W.mu a ∧ Iss K W ds vs
  | .obj C L ds, v => ∃ a dx vs, v = .ref a ∧ W.H a = some (.ins C dx ((L.take ds.length).zip vs)) ∧ ¬ W.mu a ∧ ds.length ≤ L.length ∧ Iss K W ds vs
  | .scr ns, v => ∃ a, v = .ref a ∧ ((∃ o, W.H a = some (.frz o (.lst (ns.map V.int))) ∧ ¬ W.mu a) ∨ KL K a (ns.map V.int))
def Iss (K : PySem.W.Frag) (W : Wd) : List D → List V → Prop
  | [], vs => vs = []
  | d :: ds, vs => ∃ v r, vs = v :: r ∧ Is K W d v ∧ Iss K W ds r
end
def IsK (K : PySem.W.Frag) (W : Wd) : List (Key × D) → List (Key × V) → Prop
  | [], vs => vs = []
  | (k, d) :: r, vs => ∃ v s, vs = (k, v) :: s ∧ Is K W d v ∧ IsK K W r s
mutual
/-- all cells that are spoken of lie below n -/
def Bd (n : Nat) : D → Prop
  | .ptr k => k < n
  | .lst ds => Bds n ds
  | .tup ds => Bds n ds
  | .obj _ _ ds => Bds n ds
  | _ => True
def Bds (n : Nat) : List D → Prop
  | [] => True
  | d :: ds => Bd n d ∧ Bds n ds
end
def BdK (n : Nat) : List (Key × D) → Prop
  | [] => True
  | (_, d) :: r => Bd n d ∧ BdK n r
structure Stp (lo : Nat) (W W' : Wd) : Prop where
  keep : ∀ a o, W.H a = some o → ¬ W.mu a → W'.H a = some o
  al : ∀ k a, k < lo → W.al[k]? = some a → W'.al[k]? = some a
  fresh : ∀ a, W'.mu a → W.mu a ∨ W.H a = none
theorem Stp.refl {lo : Nat} {W : Wd} : Stp lo W W := ⟨fun _ _ h _ => h, fun _ _ _ h => h, fun _ h => .inl h⟩
theorem Stp.tr {lo l1 : Nat} {W W1 W2 : Wd} (a : Stp lo W W1) (b : Stp l1 W1 W2) (h : ∀ k x, k < lo → W1.al[k]? = some x → k < l1) : Stp lo W W2 where
  keep := fun x o e n => b.keep x o (a.keep x o e n) fun m => (a.fresh x m).elim n fun z => by rw [z] at e; cases e
  al := fun k x hk e => let e1 := a.al k x hk e; b.al k x (h k x hk e1) e1
  fresh := fun x m => (b.fresh x m).elim (a.fresh x) fun z => by
    by_cases hm : W.mu x
    · exact .inl hm
    · cases e : W.H x with
      | none => exact .inr rfl
      | some o => rw [a.keep x o e hm] at z; cases z
theorem Stp.mono {lo l1 : Nat} {W W' : Wd} (a : Stp l1 W W') (h : lo ≤ l1) : Stp lo W W' := ⟨a.keep, fun k x hk => a.al k x (Nat.lt_of_lt_of_le hk h), a.fresh⟩
/-- behind a full step -/
theorem Stp.full {lo : Nat} {W W1 W2 : Wd} (a : Stp lo W W1) (b : Stp W1.al.length W1 W2) : Stp lo W W2 :=
  a.tr b fun k x _ e => (List.getElem?_eq_some_iff.mp e).1
theorem Stp.lenLe {W W' : Wd} (a : Stp W.al.length W W') : W.al.length ≤ W'.al.length := by
  rcases Nat.eq_zero_or_pos W.al.length with z | z
  · rw [z]; exact Nat.zero_le _
  · have hk : W.al.length - 1 < W.al.length := by omega
    have e := a.al _ _ hk (List.getElem?_eq_getElem hk)
    have := (List.getElem?_eq_some_iff.mp e).1
    omega
theorem Stp.nmu {lo : Nat} {W W' : Wd} (S : Stp lo W W') {a : Addr} {o : HO} (e : W.H a = some o) (n : ¬ W.mu a) : ¬ W'.mu a := fun m =>
  (S.fresh a m).elim n fun z => by rw [z] at e; cases e
section
variable {K : PySem.W.Frag} {W W' : Wd}
theorem iss_len : ∀ {ds : List D} {vs : List V}, Iss K W ds vs → ds.length = vs.length
  | [], vs, h => by cases (show vs = [] from h); rfl
  | d :: ds, vs, h => by
    obtain ⟨v, r, rfl, _, h2⟩ := h
    simp [iss_len h2]
mutual
theorem is_stp {lo : Nat} (S : Stp lo W W') : ∀ (d : D) (v : V), Is K W d v → Bd lo d → Is K W' d v
  | .non, v, h, _ => h
  | .bl _, v, h, _ => h
  | .int _, v, h, _ => h
  | .str _, v, h, _ => h
  | .ty _, v, h, _ => h
  | .adr _, v, h, _ => h
  | .ptr k, v, h, b => by
    obtain ⟨a, e, r⟩ := h
    exact ⟨a, S.al k a b e, r⟩
  | .lst ds, v, h, b => by
    obtain ⟨a, vs, r, e, n, q⟩ := h
    exact ⟨a, vs, r, S.keep a _ e n, S.nmu e n, iss_stp S ds vs q b⟩
  | .tup ds, v, h, b => by
    obtain ⟨a, vs, r, e, n, q⟩ := h
    exact ⟨a, vs, r, S.keep a _ e n, S.nmu e n, iss_stp S ds vs q b⟩
  | .obj C L ds, v, h, b => by
    obtain ⟨a, dx, vs, r, e, n, hl, q⟩ := h
    exact ⟨a, dx, vs, r, S.keep a _ e n, S.nmu e n, hl, iss_stp S ds vs q b⟩
  | .scr ns, v, h, b => by
    obtain ⟨a, r, ⟨o, e, n⟩ | k⟩ := h
    · exact ⟨a, r, .inl ⟨o, S.keep a _ e n, S.nmu e n⟩⟩
    · exact ⟨a, r, .inr k⟩
theorem iss_stp {lo : Nat} (S : Stp lo W W') : ∀ (ds : List D) (vs : List V), Iss K W ds vs → Bds lo ds → Iss K W' ds vs
  | [], vs, h, _ => h
  | d :: ds, vs, h, b => by
    obtain ⟨v, r, e, h1, h2⟩ := h
    exact ⟨v, r, e, is_stp S d v h1 b.1, iss_stp S ds r h2 b.2⟩
end
theorem isK_stp {lo : Nat} (S : Stp lo W W') : ∀ (fs : List (Key × D)) (gs : List (Key × V)), IsK K W fs gs → BdK lo fs → IsK K W' fs gs
  | [], gs, h, _ => h
  | (f, d) :: fs, gs, h, b => by
    obtain ⟨v, r, e, h1, h2⟩ := h
    exact ⟨v, r, e, is_stp S d v h1 b.1, isK_stp S fs r h2 b.2⟩
mutual
theorem is_bd : ∀ (d : D) (v : V), Is K W d v → Bd W.al.length d
  | .non, v, h => trivial
  | .bl _, v, h => trivial
  | .int _, v, h => trivial
  | .str _, v, h => trivial
  | .ty _, v, h => trivial
  | .adr _, v, h => trivial
  | .ptr k, v, h => by
    obtain ⟨a, e, r⟩ := h
    exact (List.getElem?_eq_some_iff.mp e).1
  | .lst ds, v, h => by
    obtain ⟨a, vs, r, e, n, q⟩ := h
    exact iss_bd ds vs q
  | .tup ds, v, h => by
    obtain ⟨a, vs, r, e, n, q⟩ := h
    exact iss_bd ds vs q
  | .obj C L ds, v, h => by
    obtain ⟨a, dx, vs, r, e, n, hl, q⟩ := h
    exact iss_bd ds vs q
  | .scr ns, v, h => trivial
theorem iss_bd : ∀ (ds : List D) (vs : List V), Iss K W ds vs → Bds W.al.length ds
  | [], vs, h => trivial
  | d :: ds, vs, h => by
    obtain ⟨v, r, e, h1, h2⟩ := h
    exact ⟨is_bd d v h1, iss_bd ds r h2⟩
end
theorem isK_bd : ∀ (fs : List (Key × D)) (gs : List (Key × V)), IsK K W fs gs → BdK W.al.length fs
  | [], gs, h => trivial
  | (f, d) :: fs, gs, h => by
    obtain ⟨v, r, e, h1, h2⟩ := h
    exact ⟨is_bd d v h1, isK_bd fs r h2⟩
/-- a full step keeps all that is known -/
theorem Is.to {d : D} {v : V} (h : Is K W d v) (S : Stp W.al.length W W') : Is K W' d v := is_stp S d v h (is_bd d v h)
theorem Iss.to {d : List D} {v : List V} (h : Iss K W d v) (S : Stp W.al.length W W') : Iss K W' d v := iss_stp S d v h (iss_bd d v h)
theorem IsK.to {d : List (Key × D)} {v : List (Key × V)} (h : IsK K W d v) (S : Stp W.al.length W W') : IsK K W' d v := isK_stp S d v h (isK_bd d v h)
theorem Iss.get : ∀ {ds : List D} {vs : List V} {i : Nat} {d : D}, Iss K W ds vs → ds[i]? = some d → ∃ v, vs[i]? = some v ∧ Is K W d v
  | [], vs, i, d, h, e => by simp at e
  | x :: ds, vs, 0, d, h, e => by
    obtain ⟨v, r, rfl, h1, h2⟩ := h
    simp at e; subst e
    exact ⟨v, by simp, h1⟩
  | x :: ds, vs, i + 1, d, h, e => by
    obtain ⟨v, r, rfl, h1, h2⟩ := h
    simp at e
    obtain ⟨w, e2, h3⟩ := Iss.get h2 e
    exact ⟨w, by simpa using e2, h3⟩
theorem Iss.get' {ds : List D} {vs : List V} {i : Nat} {v : V} (h : Iss K W ds vs) (e : vs[i]? = some v) : ∃ d, ds[i]? = some d ∧ Is K W d v := by
  have hl := iss_len h
  have hi := (List.getElem?_eq_some_iff.mp e).1
  have hd : ds[i]? = some ds[i] := List.getElem?_eq_getElem (by omega)
  obtain ⟨w, e2, h3⟩ := h.get hd
  rw [e] at e2; cases e2
  exact ⟨_, hd, h3⟩
theorem Iss.append : ∀ {ds es : List D} {vs us : List V}, Iss K W ds vs → Iss K W es us → Iss K W (ds ++ es) (vs ++ us)
  | [], es, vs, us, h, q => by cases (show vs = [] from h); exact q
  | d :: ds, es, vs, us, h, q => by
    obtain ⟨v, r, rfl, h1, h2⟩ := h
    exact ⟨v, r ++ us, rfl, h1, Iss.append h2 q⟩
theorem Iss.one {d : D} {v : V} (h : Is K W d v) : Iss K W [d] [v] := ⟨v, [], rfl, h, rfl⟩
theorem Iss.take : ∀ {ds : List D} {vs : List V} (n : Nat), Iss K W ds vs → Iss K W (ds.take n) (vs.take n)
  | _, _, 0, _ => by simp [Iss]
  | [], vs, n + 1, h => by cases (show vs = [] from h); simp [Iss]
  | d :: ds, vs, n + 1, h => by
    obtain ⟨v, r, rfl, h1, h2⟩ := h
    exact ⟨v, r.take n, rfl, h1, Iss.take n h2⟩
theorem Iss.drop : ∀ {ds : List D} {vs : List V} (n : Nat), Iss K W ds vs → Iss K W (ds.drop n) (vs.drop n)
  | _, _, 0, h => h
  | [], vs, n + 1, h => by cases (show vs = [] from h); simp [Iss]
  | d :: ds, vs, n + 1, h => by
    obtain ⟨v, r, rfl, h1, h2⟩ := h
    exact Iss.drop n h2
theorem Iss.set {e : D} {u : V} (q : Is K W e u) : ∀ {ds : List D} {vs : List V} (n : Nat), Iss K W ds vs → Iss K W (ds.set n e) (vs.set n u)
  | [], vs, n, h => by cases (show vs = [] from h); simp [Iss]
  | d :: ds, vs, 0, h => by
    obtain ⟨v, r, rfl, h1, h2⟩ := h
    exact ⟨u, r, rfl, q, h2⟩
  | d :: ds, vs, n + 1, h => by
    obtain ⟨v, r, rfl, h1, h2⟩ := h
    exact ⟨v, r.set n u, rfl, h1, Iss.set q n h2⟩
theorem Iss.reverse {ds : List D} {vs : List V} (h : Iss K W ds vs) : Iss K W ds.reverse vs.reverse := by
  induction ds generalizing vs with
  | nil => cases (show vs = [] from h); simp [Iss]
  | cons d ds ih =>
    obtain ⟨v, r, rfl, h1, h2⟩ := h
    simp only [List.reverse_cons]
    exact (ih h2).append (.one h1)
theorem Iss.eraseIdx : ∀ {ds : List D} {vs : List V} (n : Nat), Iss K W ds vs → Iss K W (ds.eraseIdx n) (vs.eraseIdx n)
  | [], vs, n, h => by cases (show vs = [] from h); simp [Iss]
  | d :: ds, vs, 0, h => by
    obtain ⟨v, r, rfl, h1, h2⟩ := h
    exact h2
  | d :: ds, vs, n + 1, h => by
    obtain ⟨v, r, rfl, h1, h2⟩ := h
    exact ⟨v, r.eraseIdx n, rfl, h1, Iss.eraseIdx n h2⟩
theorem Iss.map {α : Type} {f : α → D} {g : α → V} (h : ∀ x, Is K W (f x) (g x)) : ∀ xs : List α, Iss K W (xs.map f) (xs.map g)
  | [] => rfl
  | x :: xs => ⟨g x, xs.map g, rfl, h x, Iss.map h xs⟩
/-- data of one kind, read off -/
theorem Iss.vals {α : Type} {f : α → D} {g : α → V} (h : ∀ x v, Is K W (f x) v → v = g x) : ∀ {xs : List α} {vs : List V}, Iss K W (xs.map f) vs → vs = xs.map g
  | [], vs, q => q
  | x :: xs, vs, q => by
    obtain ⟨v, r, rfl, h1, h2⟩ := q
    rw [h x v h1, Iss.vals h h2]
    rfl
theorem Iss.ints {xs : List Int} {vs : List V} (h : Iss K W (xs.map D.int) vs) : vs = xs.map V.int := Iss.vals (f := D.int) (fun _ _ q => by exact q) h
theorem Iss.strs {xs : List Str} {vs : List V} (h : Iss K W (xs.map D.str) vs) : vs = xs.map V.str := Iss.vals (f := D.str) (fun _ _ q => by exact q) h
theorem Iss.bls {xs : List Bool} {vs : List V} (h : Iss K W (xs.map D.bl) vs) : vs = xs.map V.bl := Iss.vals (f := D.bl) (fun _ _ q => by exact q) h
end
section
variable {K : PySem.W.Frag} {W : Wd}
def CelIs (K : PySem.W.Frag) (W : Wd) (a : Addr) : Cel → Prop
  | .lst ds => ∃ vs, W.H a = some (.lst vs) ∧ Iss K W ds vs
  | .dK kvs => ∃ vs, W.H a = some (.dK vs) ∧ IsK K W kvs vs
  | .lk kvs => ∃ o vs, W.H a = some (.frz o (.dK vs)) ∧ IsK K W kvs vs
  | .ins C L ds => ∃ dx vs, W.H a = some (.ins C dx ((L.take ds.length).zip vs)) ∧ ds.length ≤ L.length ∧ Iss K W ds vs
  | .gone => True
structure Rel (K : PySem.W.Frag) (W : Wd) : Prop where
  len : W.al.length = W.cs.length
  nd : W.al.Nodup
  cel : ∀ (k : Nat) (a : Addr) (c : Cel), W.al[k]? = some a → W.cs[k]? = some c → CelIs K W a c
  there : ∀ a ∈ W.al, ∃ o, W.H a = some o
abbrev Sd := List (Option D)
abbrev Cs := List Cel
structure Sl (K : PySem.W.Frag) (W : Wd) (δ : Sd) (σ : L2.St) : Prop where
  len : δ.length = σ.length
  at_ : ∀ (i : Nat) (d : D), δ[i]? = some (some d) → ∃ v, σ[i]? = some (some v) ∧ Is K W d v
theorem Sl.to {W' : Wd} {δ : Sd} {σ : L2.St} (h : Sl K W δ σ) (S : Stp W.al.length W W') : Sl K W' δ σ :=
  ⟨h.len, fun i d e => let ⟨v, e1, q⟩ := h.at_ i d e; ⟨v, e1, q.to S⟩⟩
theorem Sl.set {δ : Sd} {σ : L2.St} (h : Sl K W δ σ) {d : D} {v : V} (q : Is K W d v) (i : Nat) : Sl K W (δ.set i (some d)) (σ.set i (some v)) := by
  refine ⟨by simp [h.len], fun j e ej => ?_⟩
  by_cases hj : i = j
  · subst hj
    have hi : i < δ.length := by
      have := (List.getElem?_eq_some_iff.mp ej).1
      simpa using this
    rw [List.getElem?_set_self hi] at ej
    cases ej
    exact ⟨v, by rw [List.getElem?_set_self (by rw [← h.len]; exact hi)], q⟩
  · rw [List.getElem?_set_ne hj] at ej ⊢
    exact h.at_ j e ej
theorem nd_at {al : List Addr} (h : al.Nodup) {i j : Nat} {a : Addr} (e1 : al[i]? = some a) (e2 : al[j]? = some a) : i = j := by
  obtain ⟨h1, e1⟩ := List.getElem?_eq_some_iff.mp e1
  obtain ⟨h2, e2⟩ := List.getElem?_eq_some_iff.mp e2
  exact (List.getElem_inj h).mp (e1.trans e2.symm)
/-- what a value not mutable stays when cell k is written: the world -/
def Wd.put (W : Wd) (k : Nat) (a : Addr) (o : HO) (c : Cel) : Wd := ⟨W.al, upd W.H a o, W.cs.set k c⟩
theorem put_stp {k : Nat} {a : Addr} {o : HO} {c c0 : Cel} (e : W.al[k]? = some a) (e0 : W.cs[k]? = some c0) (hl : c0.live = true) : Stp W.al.length W (W.put k a o c) where
  keep := fun b u h n => by
    show upd W.H a o b = some u
    rw [upd_ne (fun z => n (by subst z; exact ⟨k, c0, e, e0, hl⟩))]
    exact h
  al := fun _ _ _ h => h
  fresh := fun b ⟨j, cj, e1, e2, e3⟩ => by
    refine .inl ?_
    by_cases hj : k = j
    · subst hj
      have e1' : W.al[k]? = some b := e1
      rw [e] at e1'; cases e1'
      exact ⟨k, c0, e, e0, hl⟩
    · refine ⟨j, cj, e1, ?_, e3⟩
      have e2' : (W.cs.set k c)[j]? = some cj := e2
      rw [List.getElem?_set_ne hj] at e2'
      exact e2'
theorem CelIs.to {W' : Wd} {a : Addr} : ∀ {c : Cel}, CelIs K W a c → Stp W.al.length W W' → (∀ o, W.H a = some o → W'.H a = some o) → CelIs K W' a c
  | .lst ds, h, S, k => by
    obtain ⟨vs, e, q⟩ := h
    exact ⟨vs, k _ e, q.to S⟩
  | .dK ds, h, S, k => by
    obtain ⟨vs, e, q⟩ := h
    exact ⟨vs, k _ e, q.to S⟩
  | .lk ds, h, S, k => by
    obtain ⟨o, vs, e, q⟩ := h
    exact ⟨o, vs, k _ e, q.to S⟩
  | .ins C L ds, h, S, k => by
    obtain ⟨dx, vs, e, hl, q⟩ := h
    exact ⟨dx, vs, k _ e, hl, q.to S⟩
  | .gone, _, _, _ => trivial
theorem Rel.put (R : Rel K W) {k : Nat} {a : Addr} {o : HO} {c c0 : Cel} (e : W.al[k]? = some a) (e0 : W.cs[k]? = some c0) (hl : c0.live = true)
    (new : CelIs K (W.put k a o c) a c) : Rel K (W.put k a o c) where
  len := by show W.al.length = (W.cs.set k c).length; simp [R.len]
  nd := R.nd
  cel := fun j b cj e1 e2 => by
    by_cases hj : k = j
    · subst hj
      have e1' : W.al[k]? = some b := e1
      rw [e] at e1'; cases e1'
      have hk : k < W.cs.length := by rw [← R.len]; exact (List.getElem?_eq_some_iff.mp e).1
      have e2' : (W.cs.set k c)[k]? = some cj := e2
      rw [List.getElem?_set_self hk] at e2'; cases e2'
      exact new
    · have e2' : (W.cs.set k c)[j]? = some cj := e2
      rw [List.getElem?_set_ne hj] at e2'
      refine (R.cel j b cj e1 e2').to (put_stp e e0 hl) fun u hu => ?_
      show upd W.H a o b = some u
      rw [upd_ne fun z => hj (by subst z; exact nd_at R.nd e e1)]
      exact hu
  there := fun b hb => by
    by_cases hba : b = a
    · subst hba; exact ⟨o, upd_same⟩
    · obtain ⟨u, hu⟩ := R.there b hb
      exact ⟨u, by show upd W.H a o b = some u; rw [upd_ne hba]; exact hu⟩
/-- a new cell -/
def Wd.push (W : Wd) (p : Addr) (o : HO) (c : Cel) : Wd := ⟨W.al ++ [p], upd W.H p o, W.cs ++ [c]⟩
theorem push_stp (hp : W.H p = none) (o : HO) (c : Cel) (hl : W.al.length = W.cs.length) : Stp W.al.length W (W.push p o c) where
  keep := fun b u h n => by
    show upd W.H p o b = some u
    rw [upd_ne (ne_of_none h hp)]; exact h
  al := fun k x hk e => by
    show (W.al ++ [p])[k]? = some x
    rw [List.getElem?_append_left hk]; exact e
  fresh := fun b ⟨j, cj, e1, e2, e3⟩ => by
    have e1' : (W.al ++ [p])[j]? = some b := e1
    have e2' : (W.cs ++ [c])[j]? = some cj := e2
    by_cases hj : j < W.al.length
    · rw [List.getElem?_append_left hj] at e1'
      rw [List.getElem?_append_left (by omega)] at e2'
      exact .inl ⟨j, cj, e1', e2', e3⟩
    · have hj2 : j = W.al.length := by
        have := (List.getElem?_eq_some_iff.mp e1').1
        simp at this
        omega
      subst hj2
      simp at e1'
      subst e1'
      exact .inr hp
theorem Rel.push (R : Rel K W) {p : Addr} (hp : W.H p = none) {o : HO} {c : Cel} (new : CelIs K (W.push p o c) p c) : Rel K (W.push p o c) where
  len := by show (W.al ++ [p]).length = (W.cs ++ [c]).length; simp [R.len]
  nd := by
    show (W.al ++ [p]).Nodup
    refine nd_snoc R.nd fun m => ?_
    obtain ⟨u, hu⟩ := R.there p m
    rw [hp] at hu; cases hu
  cel := fun j b cj e1 e2 => by
    have e1' : (W.al ++ [p])[j]? = some b := e1
    have e2' : (W.cs ++ [c])[j]? = some cj := e2
    by_cases hj : j < W.al.length
    · rw [List.getElem?_append_left hj] at e1'
      rw [List.getElem?_append_left (by rw [← R.len]; exact hj)] at e2'
      refine (R.cel j b cj e1' e2').to (push_stp hp o c R.len) fun u hu => ?_
      show upd W.H p o b = some u
      rw [upd_ne (ne_of_none hu hp)]; exact hu
    · have hj2 : j = W.al.length := by
        have := (List.getElem?_eq_some_iff.mp e1').1
        simp at this
        omega
      subst hj2
      simp at e1'
      subst e1'
      rw [R.len] at e2'
      simp at e2'
      subst e2'
      exact new
  there := fun b hb => by
    have hb' : b ∈ W.al ++ [p] := hb
    rcases List.mem_append.mp hb' with m | m
    · obtain ⟨u, hu⟩ := R.there b m
      exact ⟨u, by show upd W.H p o b = some u; rw [upd_ne (ne_of_none hu hp)]; exact hu⟩
    · have : b = p := by simpa using m
      subst this
      exact ⟨o, upd_same⟩
/-- a new thing that is no cell -/
def Wd.add (W : Wd) (p : Addr) (o : HO) : Wd := ⟨W.al, upd W.H p o, W.cs⟩
theorem add_mu {p : Addr} {o : HO} {a : Addr} : (W.add p o).mu a ↔ W.mu a := Iff.rfl
theorem add_stp (hp : W.H p = none) (o : HO) : Stp W.al.length W (W.add p o) where
  keep := fun b u h n => by
    show upd W.H p o b = some u
    rw [upd_ne (ne_of_none h hp)]; exact h
  al := fun _ _ _ h => h
  fresh := fun b m => .inl m
theorem Rel.add (R : Rel K W) {p : Addr} (hp : W.H p = none) (o : HO) : Rel K (W.add p o) where
  len := R.len
  nd := R.nd
  cel := fun j b cj e1 e2 => (R.cel j b cj e1 e2).to (add_stp hp o) fun u hu => by
    show upd W.H p o b = some u
    rw [upd_ne (ne_of_none hu hp)]; exact hu
  there := fun b hb => let ⟨u, hu⟩ := R.there b hb; ⟨u, by show upd W.H p o b = some u; rw [upd_ne (ne_of_none hu hp)]; exact hu⟩
theorem Rel.nmu (R : Rel K W) {p : Addr} (hp : W.H p = none) : ¬ W.mu p := fun ⟨k, c, e1, _, _⟩ => by
  obtain ⟨u, hu⟩ := R.there p (List.mem_of_getElem? e1)
  rw [hp] at hu; cases hu
theorem Rel.newLst (R : Rel K W) {p : Addr} (hp : W.H p = none) {ds : List D} {vs : List V} (q : Iss K W ds vs) : Is K (W.add p (.lst vs)) (.lst ds) (.ref p) :=
  ⟨p, vs, rfl, upd_same, R.nmu hp, q.to (add_stp hp _)⟩
theorem Rel.newTup (R : Rel K W) {p : Addr} (hp : W.H p = none) {ds : List D} {vs : List V} (q : Iss K W ds vs) : Is K (W.add p (.tup vs)) (.tup ds) (.ref p) :=
  ⟨p, vs, rfl, upd_same, R.nmu hp, q.to (add_stp hp _)⟩
end
end DL
/-! DL2: readings over deep states, and how they are lifted to HandS. -/
namespace DL
open PySem PySem.Spec PyProof.Rows L2
/-- the heap is the world's part and a part that is not looked at -/
structure Jn (G F H : Hp) : Prop where
  sub : ∀ a o, G a = some o → H a = some o
  out : ∀ a o, F a = some o → H a = some o ∧ G a = none
  all : ∀ a o, H a = some o → G a = some o ∨ F a = some o
theorem Jn.none {G F H : Hp} (j : Jn G F H) {a : Addr} (h : H a = Option.none) : G a = Option.none := by
  cases e : G a with
  | none => rfl
  | some o => rw [j.sub a o e] at h; cases h
theorem Jn.new {G F H : Hp} (j : Jn G F H) {p : Addr} (h : H p = Option.none) (o : HO) : Jn (upd G p o) F (upd H p o) where
  sub := fun a u e => by
    by_cases ha : a = p
    · subst ha; rw [upd_same] at e ⊢; exact e
    · rw [upd_ne ha] at e ⊢; exact j.sub a u e
  out := fun a u e => by
    have ha : a ≠ p := fun z => by subst z; rw [(j.out a u e).1] at h; cases h
    rw [upd_ne ha, upd_ne ha]; exact j.out a u e
  all := fun a u e => by
    by_cases ha : a = p
    · subst ha; rw [upd_same] at e ⊢; exact .inl e
    · rw [upd_ne ha] at e ⊢; exact j.all a u e
theorem Jn.put {G F H : Hp} (j : Jn G F H) {p : Addr} {o0 : HO} (h : G p = some o0) (o : HO) : Jn (upd G p o) F (upd H p o) where
  sub := fun a u e => by
    by_cases ha : a = p
    · subst ha; rw [upd_same] at e ⊢; exact e
    · rw [upd_ne ha] at e ⊢; exact j.sub a u e
  out := fun a u e => by
    have ha : a ≠ p := fun z => by subst z; rw [(j.out a u e).2] at h; cases h
    rw [upd_ne ha, upd_ne ha]; exact j.out a u e
  all := fun a u e => by
    by_cases ha : a = p
    · subst ha; rw [upd_same] at e ⊢; exact .inl e
    · rw [upd_ne ha] at e ⊢; exact j.all a u e
/-- something new that is not looked at -/
theorem Jn.hide {G F H : Hp} (j : Jn G F H) {p : Addr} (h : H p = Option.none) (o : HO) : Jn G (upd F p o) (upd H p o) where
  sub := fun a u e => by
    have ha : a ≠ p := fun z => by subst z; rw [j.sub a u e] at h; cases h
    rw [upd_ne ha]; exact j.sub a u e
  out := fun a u e => by
    by_cases ha : a = p
    · subst ha; rw [upd_same] at e ⊢; exact ⟨e, j.none h⟩
    · rw [upd_ne ha] at e ⊢; exact j.out a u e
  all := fun a u e => by
    by_cases ha : a = p
    · subst ha; rw [upd_same] at e ⊢; exact .inr e
    · rw [upd_ne ha] at e ⊢; exact j.all a u e
theorem Jn.putF {G F H : Hp} (j : Jn G F H) {p : Addr} {o0 : HO} (h : F p = some o0) (o : HO) : Jn G (upd F p o) (upd H p o) where
  sub := fun a u e => by
    have ha : a ≠ p := fun z => by subst z; rw [(j.out a _ h).2] at e; cases e
    rw [upd_ne ha]; exact j.sub a u e
  out := fun a u e => by
    by_cases ha : a = p
    · subst ha; rw [upd_same] at e ⊢; exact ⟨e, (j.out a _ h).2⟩
    · rw [upd_ne ha] at e ⊢; exact j.out a u e
  all := fun a u e => by
    by_cases ha : a = p
    · subst ha; rw [upd_same] at e ⊢; exact .inr e
    · rw [upd_ne ha] at e ⊢; exact j.all a u e
/-- what was hidden is shown -/
theorem Jn.show_ {G F H : Hp} (j : Jn G F H) {p : Addr} {o : HO} (h : F p = some o) : Jn (upd G p o) (fun a => if a = p then Option.none else F a) H where
  sub := fun a u e => by
    by_cases ha : a = p
    · subst ha; rw [upd_same] at e; cases e; exact (j.out a _ h).1
    · rw [upd_ne ha] at e; exact j.sub a u e
  out := fun a u e => by
    by_cases ha : a = p
    · rw [if_pos ha] at e; cases e
    · rw [if_neg ha] at e; rw [upd_ne ha]; exact j.out a u e
  all := fun a u e => by
    by_cases ha : a = p
    · subst ha; rw [upd_same]; rw [(j.out a _ h).1] at e; exact .inl e
    · rw [upd_ne ha, if_neg ha]; exact j.all a u e
theorem Jn.all_ (H : Hp) : Jn H (fun _ => Option.none) H := ⟨fun _ _ h => h, fun a o (h : (Option.none : Option HO) = some o) => (by cases h), fun _ _ h => Or.inl h⟩
abbrev QD := D → Cs → Prop
abbrev TED := Sd → Cs → QD → Prop
abbrev TTD := Sd → Cs → (Bool → Cs → Prop) → Prop
abbrev TAD := Sd → Cs → (List D → Cs → Prop) → Prop
abbrev TGD := D → Sd → Cs → (Sd → Cs → Prop) → Prop
abbrev TGDs := List D → Sd → Cs → (Sd → Cs → Prop) → Prop
structure EndsD where
  nx : Sd → Cs → Prop
  rt : QD
  bk : Sd → Cs → Prop := fun _ _ => False
  ct : Sd → Cs → Prop := fun _ _ => False
abbrev TSD := Nat → EndsD → Sd → Cs → Prop
/-- the world behind, and what is wanted there -/
def Aft (K : PySem.W.Frag) (W : Wd) (F : Hp) (R : QD) (Q : VK) : Prop :=
  ∀ (v : V) (W' : Wd) (d : D) (H' : Hp), Stp W.al.length W W' → Rel K W' → Jn W'.H F H' → Is K W' d v → R d W'.cs → Q v H'
def up (K : PySem.W.Frag) (t : TED) : TE := fun σ H Q => ∃ (W : Wd) (F : Hp) (δ : Sd) (R : QD), Jn W.H F H ∧ Rel K W ∧ Sl K W δ σ ∧ t δ W.cs R ∧ Aft K W F R Q
def upT (K : PySem.W.Frag) (t : TTD) : TT := fun σ H Q => ∃ (W : Wd) (F : Hp) (δ : Sd) (R : Bool → Cs → Prop), Jn W.H F H ∧ Rel K W ∧ Sl K W δ σ ∧ t δ W.cs R ∧
  ∀ (b : Bool) (W' : Wd) (H' : Hp), Stp W.al.length W W' → Rel K W' → Jn W'.H F H' → R b W'.cs → Q b H'
def upA (K : PySem.W.Frag) (t : TAD) : TA := fun σ H Q => ∃ (W : Wd) (F : Hp) (δ : Sd) (R : List D → Cs → Prop), Jn W.H F H ∧ Rel K W ∧ Sl K W δ σ ∧ t δ W.cs R ∧
  ∀ (vs : List V) (W' : Wd) (ds : List D) (H' : Hp), Stp W.al.length W W' → Rel K W' → Jn W'.H F H' → Iss K W' ds vs → R ds W'.cs → Q vs H'
def upG (K : PySem.W.Frag) (g : TGD) : TG := fun v σ H Q => ∃ (W : Wd) (F : Hp) (δ : Sd) (d : D) (R : Sd → Cs → Prop), Jn W.H F H ∧ Rel K W ∧ Sl K W δ σ ∧ Is K W d v ∧ g d δ W.cs R ∧
  ∀ (σ' : L2.St) (W' : Wd) (δ' : Sd) (H' : Hp), Stp W.al.length W W' → Rel K W' → Jn W'.H F H' → Sl K W' δ' σ' → R δ' W'.cs → Q σ' H'
def upGs (K : PySem.W.Frag) (g : TGDs) : TGs := fun vs σ H Q => ∃ (W : Wd) (F : Hp) (δ : Sd) (ds : List D) (R : Sd → Cs → Prop), Jn W.H F H ∧ Rel K W ∧ Sl K W δ σ ∧ Iss K W ds vs ∧ g ds δ W.cs R ∧
  ∀ (σ' : L2.St) (W' : Wd) (δ' : Sd) (H' : Hp), Stp W.al.length W W' → Rel K W' → Jn W'.H F H' → Sl K W' δ' σ' → R δ' W'.cs → Q σ' H'
structure Lk (K : PySem.W.Frag) (lo : Nat) (W : Wd) (F : Hp) (E : EndsD) (N : Ends) : Prop where
  nx : ∀ (σ : L2.St) (W' : Wd) (δ : Sd) (H' : Hp), Stp lo W W' → Rel K W' → Jn W'.H F H' → Sl K W' δ σ → lo ≤ W'.al.length → E.nx δ W'.cs → N.nx σ H'
  bk : ∀ (σ : L2.St) (W' : Wd) (δ : Sd) (H' : Hp), Stp lo W W' → Rel K W' → Jn W'.H F H' → Sl K W' δ σ → lo ≤ W'.al.length → E.bk δ W'.cs → N.bk σ H'
  ct : ∀ (σ : L2.St) (W' : Wd) (δ : Sd) (H' : Hp), Stp lo W W' → Rel K W' → Jn W'.H F H' → Sl K W' δ σ → lo ≤ W'.al.length → E.ct δ W'.cs → N.ct σ H'
  rt : ∀ (v : V) (W' : Wd) (d : D) (H' : Hp), Stp lo W W' → Rel K W' → Jn W'.H F H' → lo ≤ W'.al.length → Is K W' d v → E.rt d W'.cs → N.rt v H'
def upS (K : PySem.W.Frag) (t : TSD) : TS := fun N σ H => ∃ (W : Wd) (F : Hp) (δ : Sd) (lo : Nat) (E : EndsD), Jn W.H F H ∧ Rel K W ∧ Sl K W δ σ ∧ lo ≤ W.al.length ∧ t lo E δ W.cs ∧ Lk K lo W F E N
theorem Lk.to {K : PySem.W.Frag} {lo : Nat} {W W1 : Wd} {F : Hp} {E : EndsD} {N : Ends} (L : Lk K lo W F E N) (S : Stp lo W W1) : Lk K lo W1 F E N where
  nx := fun σ W' δ H' S' => L.nx σ W' δ H' (S.tr S' fun _ _ h _ => h)
  bk := fun σ W' δ H' S' => L.bk σ W' δ H' (S.tr S' fun _ _ h _ => h)
  ct := fun σ W' δ H' S' => L.ct σ W' δ H' (S.tr S' fun _ _ h _ => h)
  rt := fun v W' d H' S' => L.rt v W' d H' (S.tr S' fun _ _ h _ => h)
def DE (X : Cx) (e : Expr) (t : TED) : Prop := PE X e (up X.K t)
def DT (X : Cx) (e : Expr) (t : TTD) : Prop := PT X e (upT X.K t)
def DW (X : Cx) (e : Expr) (t : TTD) : Prop := PW X e (upT X.K t)
def DA (X : Cx) (es : List Expr) (t : TAD) : Prop := PA X es (upA X.K t)
def DG (X : Cx) (e : Expr) (g : TGD) : Prop := PG X e (upG X.K g)
def DGs (X : Cx) (es : List Expr) (g : TGDs) : Prop := PGs X es (upGs X.K g)
def DS (X : Cx) (st : Stmt) (t : TSD) : Prop := PS X st (upS X.K t)
def DSs (X : Cx) (st : List Stmt) (t : TSD) : Prop := PSs X st (upS X.K t)
section
variable {X : Cx} {e : Expr} {es : List Expr} {st : Stmt} {sts : List Stmt}
theorem pe_imp {t t' : TE} (h : PE X e t) (k : ∀ σ H Q, t' σ H Q → t σ H Q) : PE X e t' := ⟨fun pins s σ H Q I q => h.run pins s σ H Q I (k σ H Q q)⟩
theorem pt_imp {t t' : TT} (h : PT X e t) (k : ∀ σ H Q, t' σ H Q → t σ H Q) : PT X e t' := ⟨fun pins s σ H Q I q => h.run pins s σ H Q I (k σ H Q q)⟩
theorem pw_imp {t t' : TT} (h : PW X e t) (k : ∀ σ H Q, t' σ H Q → t σ H Q) : PW X e t' := ⟨fun wh pins s σ H Q I q => h.run wh pins s σ H Q I (k σ H Q q)⟩
theorem pa_imp {t t' : TA} (h : PA X es t) (k : ∀ σ H Q, t' σ H Q → t σ H Q) : PA X es t' := ⟨fun pos pins s σ H Q I q => h.run pos pins s σ H Q I (k σ H Q q)⟩
theorem pg_imp {t t' : TG} (h : PG X e t) (k : ∀ v σ H Q, t' v σ H Q → t v σ H Q) : PG X e t' := ⟨fun pins s σ H v u Q I r q => h.run pins s σ H v u Q I r (k v σ H Q q)⟩
theorem pgs_imp {t t' : TGs} (h : PGs X es t) (k : ∀ v σ H Q, t' v σ H Q → t v σ H Q) : PGs X es t' := ⟨fun pins s σ H v u Q I r q => h.run pins s σ H v u Q I r (k v σ H Q q)⟩
theorem ps_imp {t t' : TS} (h : PS X st t) (k : ∀ N σ H, t' N σ H → t N σ H) : PS X st t' := ⟨fun pins s σ H N I q => h.run pins s σ H N I (k N σ H q)⟩
theorem pss_imp {t t' : TS} (h : PSs X sts t) (k : ∀ N σ H, t' N σ H → t N σ H) : PSs X sts t' := ⟨fun pins s σ H N I q => h.run pins s σ H N I (k N σ H q)⟩
end
/-! ### names and constants -/
def gotD (o : Option (Option D)) (Q : D → Prop) : Prop := match o with
  | some (some d) => Q d
  | _ => False
def dVar (i : Nat) : TED := fun δ cs Q => gotD δ[i]? fun d => Q d cs
def dC (d : D) : TED := fun _ cs Q => Q d cs
section
variable {X : Cx}
theorem up_var {K : PySem.W.Frag} {i : Nat} : ∀ σ H Q, up K (dVar i) σ H Q → tVar i σ H Q := fun σ H Q ⟨W, F, δ, R, j, rel, sl, t, k⟩ => by
  have t' : gotD δ[i]? fun d => R d W.cs := t
  unfold gotD at t'
  split at t'
  · rename_i d e
    obtain ⟨v, ev, q⟩ := sl.at_ i d e
    exact ⟨v, ev, k v W d H .refl rel j q t'⟩
  · exact t'.elim
theorem dv (i : Nat) {x : Str} {pos : Pos} (hN : X.N[i]? = some x := by rfl) (hv : Vis X.env.scope x := by first | exact Or.inl rfl | exact Or.inr (Or.inl rfl) | exact Or.inr (Or.inr rfl)) (hd : (x == ("__debug__" : Str)) = false := by decide)
    (hcd : (x == ("__classdict__" : Str)) = false := by decide) : DE X (.Name x pos) (dVar i) := pe_imp (pe_var hN hv hd hcd) up_var
theorem up_c {K : PySem.W.Frag} {d : D} {v : V} (h : ∀ W, Is K W d v) : ∀ σ H Q, up K (dC d) σ H Q → tC v σ H Q := fun σ H Q ⟨W, F, δ, R, j, rel, sl, t, k⟩ => k v W d H .refl rel j (h W) t
theorem de_int {i : Int} {j pos} : DE X (.Constant (.int i) j pos) (dC (.int i)) := pe_imp pe_int (up_c fun _ => rfl)
theorem de_bl {b : Bool} {j pos} : DE X (.Constant (.bool b) j pos) (dC (.bl b)) := pe_imp pe_bl (up_c fun _ => rfl)
theorem de_non {j pos} : DE X (.Constant .none j pos) (dC .non) := pe_imp pe_non (up_c fun _ => rfl)
theorem de_str {x : Str} {j pos} : DE X (.Constant (.str x) j pos) (dC (.str x)) := pe_imp pe_str (up_c fun _ => rfl)
theorem de_gInt {x : Str} {i : Int} {t : Tok} {pos : Pos} (hg : Gl X x) (hm : X.mg x = some (.int i t)) (hd : (x == ("__debug__" : Str)) = false := by decide) : DE X (.Name x pos) (dC (.int i)) := pe_imp (pe_glob (v := .int i) hg hm ⟨t, rfl⟩ hd) (up_c fun _ => rfl)
theorem de_gStr {x : Str} {i : Str} {t : Tok} {pos : Pos} (hg : Gl X x) (hm : X.mg x = some (.str i t)) (hd : (x == ("__debug__" : Str)) = false := by decide) : DE X (.Name x pos) (dC (.str i)) := pe_imp (pe_glob (v := .str i) hg hm ⟨t, rfl⟩ hd) (up_c fun _ => rfl)
theorem de_gAdr {x : Str} {a : Addr} {pos : Pos} (hg : Gl X x) (hm : X.mg x = some (.ref a)) (hd : (x == ("__debug__" : Str)) = false := by decide) : DE X (.Name x pos) (dC (.adr a)) := pe_imp (pe_glob (v := .ref a) hg hm rfl hd) (up_c fun _ => rfl)
theorem de_ty {x : Str} {n : String} {pos : Pos} (hg : Gl X x) (hm : X.mg x = none) (hv : bootBuiltins x = some (.type n)) (hn : x ≠ "__name__" := by decide) (hd : (x == ("__debug__" : Str)) = false := by decide) : DE X (.Name x pos) (dC (.ty n)) :=
  pe_imp (pe_bltn (v := .ty n) hg hm hv rfl hn hd) (up_c fun _ => rfl)
end
/-! ### operators -/
abbrev R2D := D → D → Cs → QD → Prop
def Ok2 (K : PySem.W.Frag) (r : R2) (r' : R2D) : Prop := ∀ (W : Wd) (F H : Hp) (x y : V) (dx dy : D) (Q : VK) (R : QD), Jn W.H F H → Rel K W → Is K W dx x → Is K W dy y → r' dx dy W.cs R → Aft K W F R Q → r x y H Q
def Ok1 (K : PySem.W.Frag) (r : V → Hp → VK → Prop) (r' : D → Cs → QD → Prop) : Prop := ∀ (W : Wd) (F H : Hp) (x : V) (dx : D) (Q : VK) (R : QD), Jn W.H F H → Rel K W → Is K W dx x → r' dx W.cs R → Aft K W F R Q → r x H Q
def OkN (K : PySem.W.Frag) (r : List V → Hp → VK → Prop) (r' : List D → Cs → QD → Prop) : Prop := ∀ (W : Wd) (F H : Hp) (xs : List V) (ds : List D) (Q : VK) (R : QD), Jn W.H F H → Rel K W → Iss K W ds xs → r' ds W.cs R → Aft K W F R Q → r xs H Q
def dOp (r' : R2D) (ta tb : TED) : TED := fun δ cs Q => ta δ cs fun x c1 => tb δ c1 fun y c2 => r' x y c2 Q
def dUn (r' : D → Cs → QD → Prop) (ta : TED) : TED := fun δ cs Q => ta δ cs fun x c1 => r' x c1 Q
theorem Aft.to {K : PySem.W.Frag} {W W1 : Wd} {F : Hp} {R : QD} {Q : VK} (A : Aft K W F R Q) (S : Stp W.al.length W W1) : Aft K W1 F R Q := fun v W' d H' S' => A v W' d H' (S.full S')
theorem up_op {K : PySem.W.Frag} {r : R2} {r' : R2D} {ta tb : TED} (ok : Ok2 K r r') : ∀ σ H Q, up K (dOp r' ta tb) σ H Q → tOp r (up K ta) (up K tb) σ H Q := fun σ H Q ⟨W, F, δ, R, j, rel, sl, t, k⟩ =>
  ⟨W, F, δ, _, j, rel, sl, t, fun x W1 dx H1 S1 rel1 j1 ix q1 => ⟨W1, F, δ, _, j1, rel1, sl.to S1, q1, fun y W2 dy H2 S2 rel2 j2 iy q2 =>
    ok W2 F H2 x y dx dy Q R j2 rel2 (ix.to S2) iy q2 (k.to (S1.full S2))⟩⟩
theorem up_un {K : PySem.W.Frag} {r : V → Hp → VK → Prop} {r' : D → Cs → QD → Prop} {ta : TED} (ok : Ok1 K r r') : ∀ σ H Q, up K (dUn r' ta) σ H Q → tUn r (up K ta) σ H Q := fun σ H Q ⟨W, F, δ, R, j, rel, sl, t, k⟩ =>
  ⟨W, F, δ, _, j, rel, sl, t, fun x W1 dx H1 S1 rel1 j1 ix q1 => ok W1 F H1 x dx Q R j1 rel1 ix q1 (k.to S1)⟩
section
variable {X : Cx} {a b : Expr} {ta tb : TED} {pos : Pos}
theorem de_op {op : Operator} {r : R2} {r' : R2D} (ho : OpR X (binaryOp op) r) (ok : Ok2 X.K r r') (ha : DE X a ta) (hb : DE X b tb) : DE X (.BinOp a op b pos) (dOp r' ta tb) := pe_imp (pe_op ho ha hb) (up_op ok)
theorem de_un {op : UnaryOp} {r : V → Hp → VK → Prop} {r' : D → Cs → QD → Prop} (ho : UnR X (unaryOp op) r) (ok : Ok1 X.K r r') (ha : DE X a ta) : DE X (.UnaryOp op a pos) (dUn r' ta) := pe_imp (pe_un ho ha) (up_un ok)
theorem de_cmp {op : CmpOp} {r : R2} {r' : R2D} (ho : OpR X (compareOp op) r) (ok : Ok2 X.K r r') (ha : DE X a ta) (hb : DE X b tb) (h1 : behindInMarks op b = false := by first | exact nobehind _ (by decide) (by decide) | rfl) : DE X (.Compare a [op] [b] pos) (dOp r' ta tb) :=
  pe_imp (pe_cmpR ho ha hb h1) (up_op ok)
end
/-! ### tests -/
def asBl (d : D) (Q : Bool → Prop) : Prop := match d with
  | .bl b => Q b
  | _ => False
theorem asBl_is {K : PySem.W.Frag} {W : Wd} {d : D} {v : V} {Q : Bool → Prop} (i : Is K W d v) (h : asBl d Q) : ∃ b, v = .bl b ∧ Q b := by
  cases d <;> first | exact h.elim | exact ⟨_, i, h⟩
def dB (t : TED) : TTD := fun δ cs Q => t δ cs fun d c1 => asBl d fun b => Q b c1
theorem up_b {K : PySem.W.Frag} {t : TED} : ∀ σ H Q, upT K (dB t) σ H Q → tB (up K t) σ H Q := fun σ H Q ⟨W, F, δ, R, j, rel, sl, t, k⟩ =>
  ⟨W, F, δ, _, j, rel, sl, t, fun v W1 d H1 S1 rel1 j1 i q => let ⟨b, e, q⟩ := asBl_is i q; ⟨b, e, k b W1 H1 S1 rel1 j1 q⟩⟩
def brn (b : Bool) (A B : Prop) : Prop := (b = true → A) ∧ (b = false → B)
def dAnd (t u : TTD) : TTD := fun δ cs Q => t δ cs fun b c1 => brn b (u δ c1 Q) (Q false c1)
def dOr (t u : TTD) : TTD := fun δ cs Q => t δ cs fun b c1 => brn b (Q true c1) (u δ c1 Q)
def dNot (t : TTD) : TTD := fun δ cs Q => t δ cs fun b c1 => Q (!b) c1
def dIfE (t : TTD) (a b : TED) : TED := fun δ cs Q => t δ cs fun k c1 => brn k (a δ c1 Q) (b δ c1 Q)
def dAndV (a b : TED) : TED := fun δ cs Q => a δ cs fun d c1 => asBl d fun k => brn k (b δ c1 Q) (Q (.bl false) c1)
def dOrV (a b : TED) : TED := fun δ cs Q => a δ cs fun d c1 => asBl d fun k => brn k (Q (.bl true) c1) (b δ c1 Q)
def dNotV (a : TED) : TED := fun δ cs Q => a δ cs fun d c1 => asBl d fun k => Q (.bl (!k)) c1
def dChain (r r' : R2D) (ta tb tc : TED) : TED := fun δ cs Q => ta δ cs fun x c1 => tb δ c1 fun y c2 => r x y c2 fun z c3 => asBl z fun k => brn k (tc δ c3 fun w c4 => r' y w c4 Q) (Q (.bl false) c3)
section
variable {X : Cx} {a b c : Expr} {ta tb tc : TED} {tt uu : TTD} {pos : Pos} {rest : List Expr}
theorem dt_val (h : DE X a ta) (he : ∀ whole, isTrue a X.env whole = (do let v ← whole; standAt a.pos; holding [v] (truthy v)) := by intro _; rfl) : DT X a (dB ta) := pt_imp (pt_val h he) up_b
theorem dt_cmp {op : CmpOp} {r : R2} {r' : R2D} (ho : OpR X (compareOp op) r) (ok : Ok2 X.K r r') (ha : DE X a ta) (hb : DE X b tb) (hm : behindInMarks op b = false := by first | exact nobehind _ (by decide) (by decide) | rfl) : DT X (.Compare a [op] [b] pos) (dB (dOp r' ta tb)) :=
  pt_imp (pt_cmpR ho ha hb hm) fun σ H Q h => let ⟨W, F, δ, R, j, rel, sl, t, k⟩ := h
    up_op ok σ H _ ⟨W, F, δ, _, j, rel, sl, t, fun v W1 d H1 S1 rel1 j1 i q => let ⟨b, e, q⟩ := asBl_is i q; ⟨b, e, k b W1 H1 S1 rel1 j1 q⟩⟩
theorem brn_if {b : Bool} {A B A' B' : Prop} (h : brn b A B) (f : A → A') (g : B → B') : if b = true then A' else B' := by
  cases b
  · rw [if_neg Bool.false_ne_true]; exact g (h.2 rfl)
  · rw [if_pos rfl]; exact f (h.1 rfl)
theorem dw_and1 (ha : DT X a tt) : DW X (.BoolOp .And [a] pos) tt := pw_and1 ha
theorem dw_or1 (ha : DT X a tt) : DW X (.BoolOp .Or [a] pos) tt := pw_or1 ha
theorem dw_and (ha : DT X a tt) (hb : DW X (.BoolOp .And (b :: rest) pos) uu) : DW X (.BoolOp .And (a :: b :: rest) pos) (dAnd tt uu) :=
  pw_imp (pw_and ha hb) fun σ H Q ⟨W, F, δ, R, j, rel, sl, t, k⟩ => ⟨W, F, δ, _, j, rel, sl, t, fun b W1 H1 S1 rel1 j1 q =>
    brn_if q (fun q => ⟨W1, F, δ, R, j1, rel1, sl.to S1, q, fun b2 W2 H2 S2 => k b2 W2 H2 (S1.full S2)⟩) fun q => k false W1 H1 S1 rel1 j1 q⟩
theorem dw_or (ha : DT X a tt) (hb : DW X (.BoolOp .Or (b :: rest) pos) uu) : DW X (.BoolOp .Or (a :: b :: rest) pos) (dOr tt uu) :=
  pw_imp (pw_or ha hb) fun σ H Q ⟨W, F, δ, R, j, rel, sl, t, k⟩ => ⟨W, F, δ, _, j, rel, sl, t, fun b W1 H1 S1 rel1 j1 q =>
    brn_if q (fun q => k true W1 H1 S1 rel1 j1 q) fun q => ⟨W1, F, δ, R, j1, rel1, sl.to S1, q, fun b2 W2 H2 S2 => k b2 W2 H2 (S1.full S2)⟩⟩
theorem dt_w (h : DW X a tt) : DT X a tt := PW.pt h
theorem dt_not (ha : DT X a tt) : DT X (.UnaryOp .Not a pos) (dNot tt) :=
  pt_imp (pt_not ha) fun σ H Q ⟨W, F, δ, R, j, rel, sl, t, k⟩ => ⟨W, F, δ, _, j, rel, sl, t, fun b W1 H1 S1 rel1 j1 q => k (!b) W1 H1 S1 rel1 j1 q⟩
theorem de_ifE (hc : DT X c tt) (ha : DE X a ta) (hb : DE X b tb) : DE X (.IfExp c a b pos) (dIfE tt ta tb) :=
  pe_imp (pe_ifExp hc ha hb) fun σ H Q ⟨W, F, δ, R, j, rel, sl, t, k⟩ => ⟨W, F, δ, _, j, rel, sl, t, fun b W1 H1 S1 rel1 j1 q =>
    brn_if q (fun q => ⟨W1, F, δ, R, j1, rel1, sl.to S1, q, k.to S1⟩) fun q => ⟨W1, F, δ, R, j1, rel1, sl.to S1, q, k.to S1⟩⟩
theorem de_one {op} (h : DE X a ta) : DE X (.BoolOp op [a] pos) ta := pe_one h
theorem de_and (ha : DE X a ta) (hb : DE X (.BoolOp .And (b :: rest) pos) tb) : DE X (.BoolOp .And (a :: b :: rest) pos) (dAndV ta tb) :=
  pe_imp (pe_and ha hb) fun σ H Q ⟨W, F, δ, R, j, rel, sl, t, k⟩ => ⟨W, F, δ, _, j, rel, sl, t, fun v W1 d H1 S1 rel1 j1 i q =>
    let ⟨b, e, q⟩ := asBl_is i q; ⟨b, e, brn_if q (fun q => ⟨W1, F, δ, R, j1, rel1, sl.to S1, q, k.to S1⟩) fun q => k (.bl false) W1 (.bl false) H1 S1 rel1 j1 rfl q⟩⟩
theorem de_or (ha : DE X a ta) (hb : DE X (.BoolOp .Or (b :: rest) pos) tb) : DE X (.BoolOp .Or (a :: b :: rest) pos) (dOrV ta tb) :=
  pe_imp (pe_or ha hb) fun σ H Q ⟨W, F, δ, R, j, rel, sl, t, k⟩ => ⟨W, F, δ, _, j, rel, sl, t, fun v W1 d H1 S1 rel1 j1 i q =>
    let ⟨b, e, q⟩ := asBl_is i q; ⟨b, e, brn_if q (fun q => k (.bl true) W1 (.bl true) H1 S1 rel1 j1 rfl q) fun q => ⟨W1, F, δ, R, j1, rel1, sl.to S1, q, k.to S1⟩⟩⟩
theorem de_not (ha : DE X a ta) : DE X (.UnaryOp .Not a pos) (dNotV ta) :=
  pe_imp (pe_not ha) fun σ H Q ⟨W, F, δ, R, j, rel, sl, t, k⟩ => ⟨W, F, δ, _, j, rel, sl, t, fun v W1 d H1 S1 rel1 j1 i q =>
    let ⟨b, e, q⟩ := asBl_is i q; ⟨b, e, k (.bl (!b)) W1 (.bl (!b)) H1 S1 rel1 j1 rfl q⟩⟩
theorem up_chain {K : PySem.W.Frag} {r r' : R2} {d d' : R2D} (o1 : Ok2 K r d) (o2 : Ok2 K r' d') : ∀ σ H Q, up K (dChain d d' ta tb tc) σ H Q → tChain r r' (up K ta) (up K tb) (up K tc) σ H Q := fun σ H Q ⟨W, F, δ, R, j, rel, sl, t, k⟩ =>
  ⟨W, F, δ, _, j, rel, sl, t, fun x W1 dx H1 S1 rel1 j1 ix q1 => ⟨W1, F, δ, _, j1, rel1, sl.to S1, q1, fun y W2 dy H2 S2 rel2 j2 iy q2 =>
    o1 W2 F H2 x y dx dy _ _ j2 rel2 (ix.to S2) iy q2 fun z W3 dz H3 S3 rel3 j3 iz q3 =>
      let ⟨b, e, q3⟩ := asBl_is iz q3
      ⟨b, e, brn_if q3 (fun q => ⟨W3, F, δ, _, j3, rel3, sl.to ((S1.full S2).full S3), q, fun w W4 dw H4 S4 rel4 j4 iw q4 =>
        o2 W4 F H4 y w dy dw Q R j4 rel4 (iy.to (S3.full S4)) iw q4 (k.to (((S1.full S2).full S3).full S4))⟩) fun q => k (.bl false) W3 (.bl false) H3 ((S1.full S2).full S3) rel3 j3 rfl q⟩⟩⟩
theorem de_chain {op op' : CmpOp} {r r' : R2} {d d' : R2D} (ho : OpR X (compareOp op) r) (o1 : Ok2 X.K r d) (ho' : OpR X (compareOp op') r') (o2 : Ok2 X.K r' d') (ha : DE X a ta) (hb : DE X b tb) (hc : DE X c tc)
    (hm : lastMarks [op, op'] [b, c] = false := by with_unfolding_all rfl) : DE X (.Compare a [op, op'] [b, c] pos) (dChain d d' ta tb tc) := pe_imp (pe_chain ho ho' ha hb hc hm) (up_chain o1 o2)
theorem dt_chain {op op' : CmpOp} {r r' : R2} {d d' : R2D} (ho : OpR X (compareOp op) r) (o1 : Ok2 X.K r d) (ho' : OpR X (compareOp op') r') (o2 : Ok2 X.K r' d') (ha : DE X a ta) (hb : DE X b tb) (hc : DE X c tc)
    (hm : lastMarks [op, op'] [b, c] = false := by with_unfolding_all rfl) : DT X (.Compare a [op, op'] [b, c] pos) (dB (dChain d d' ta tb tc)) :=
  pt_imp (pt_chain ho ho' ha hb hc hm) fun σ H Q h => let ⟨W, F, δ, R, j, rel, sl, t, k⟩ := h
    up_chain o1 o2 σ H _ ⟨W, F, δ, _, j, rel, sl, t, fun v W1 d H1 S1 rel1 j1 i q => let ⟨b, e, q⟩ := asBl_is i q; ⟨b, e, k b W1 H1 S1 rel1 j1 q⟩⟩
end
/-! ### argument lists, displays -/
def dNil : TAD := fun _ cs Q => Q [] cs
def dCons (t : TED) (r : TAD) : TAD := fun δ cs Q => t δ cs fun d c1 => r δ c1 fun ds c2 => Q (d :: ds) c2
def dTup (t : TAD) : TED := fun δ cs Q => t δ cs fun ds c1 => ds.length ≤ sizeLine ∧ Q (.tup ds) c1
def dLst (t : TAD) : TED := fun δ cs Q => t δ cs fun ds c1 => ds.length ≤ sizeLine ∧ Q (.lst ds) c1
def dLstP (t : TAD) : TED := fun δ cs Q => t δ cs fun ds c1 => ds.length ≤ sizeLine ∧ Q (.ptr c1.length) (c1 ++ [.lst ds])
theorem push_is {K : PySem.W.Frag} {W : Wd} (rel : Rel K W) {p : Addr} {o : HO} {c : Cel} : Is K (W.push p o c) (.ptr W.cs.length) (.ref p) := ⟨p, by
  show (W.al ++ [p])[W.cs.length]? = some p
  rw [← rel.len]; simp, rfl⟩
section
variable {X : Cx} {e : Expr} {es : List Expr} {t : TED} {r : TAD} {pos : Pos}
theorem da_nil : DA X [] dNil := pa_imp pa_nil fun σ H Q ⟨W, F, δ, R, j, rel, sl, t, k⟩ => k [] W [] H .refl rel j rfl t
theorem da_cons (ha : DE X e t) (hr : DA X es r) (hs : starEach (e :: es) X.env = (false, eval e X.env) :: starEach es X.env := by rfl) : DA X (e :: es) (dCons t r) :=
  pa_imp (pa_cons ha hr hs) fun σ H Q ⟨W, F, δ, R, j, rel, sl, t, k⟩ => ⟨W, F, δ, _, j, rel, sl, t, fun v W1 d H1 S1 rel1 j1 i q => ⟨W1, F, δ, _, j1, rel1, sl.to S1, q, fun vs W2 ds H2 S2 rel2 j2 is q2 =>
    k (v :: vs) W2 (d :: ds) H2 (S1.full S2) rel2 j2 ⟨v, vs, rfl, i.to S2, is⟩ q2⟩⟩
theorem de_tup {x1} (h : DA X es r) : DE X (.Tuple es x1 pos) (dTup r) :=
  pe_imp (pe_tup h) fun σ H Q ⟨W, F, δ, R, j, rel, sl, t, k⟩ => ⟨W, F, δ, _, j, rel, sl, t, fun vs W1 ds H1 S1 rel1 j1 is q => ⟨by rw [← iss_len is]; exact q.1, fun p hp =>
    k (.ref p) (W1.add p (.tup vs)) (.tup ds) _ (S1.full (add_stp (j1.none hp) _)) (rel1.add (j1.none hp) _) (j1.new hp _) (rel1.newTup (j1.none hp) is) q.2⟩⟩
theorem de_lst (h : DA X es r) : DE X (.List es pos) (dLst r) :=
  pe_imp (pe_lst h) fun σ H Q ⟨W, F, δ, R, j, rel, sl, t, k⟩ => ⟨W, F, δ, _, j, rel, sl, t, fun vs W1 ds H1 S1 rel1 j1 is q => ⟨by rw [← iss_len is]; exact q.1, fun p hp =>
    k (.ref p) (W1.add p (.lst vs)) (.lst ds) _ (S1.full (add_stp (j1.none hp) _)) (rel1.add (j1.none hp) _) (j1.new hp _) (rel1.newLst (j1.none hp) is) q.2⟩⟩
theorem Rel.pushLst {K : PySem.W.Frag} {W : Wd} (rel : Rel K W) {p : Addr} (hp : W.H p = none) {ds : List D} {vs : List V} (is : Iss K W ds vs) : Rel K (W.push p (.lst vs) (.lst ds)) :=
  rel.push hp ⟨vs, upd_same, is.to (push_stp hp _ _ rel.len)⟩
theorem de_lstP (h : DA X es r) : DE X (.List es pos) (dLstP r) :=
  pe_imp (pe_lst h) fun σ H Q ⟨W, F, δ, R, j, rel, sl, t, k⟩ => ⟨W, F, δ, _, j, rel, sl, t, fun vs W1 ds H1 S1 rel1 j1 is q => ⟨by rw [← iss_len is]; exact q.1, fun p hp =>
    k (.ref p) (W1.push p (.lst vs) (.lst ds)) (.ptr W1.cs.length) _ (S1.full (push_stp (j1.none hp) _ _ rel1.len)) (rel1.pushLst (j1.none hp) is) (j1.new hp _) (push_is rel1) q.2⟩⟩
end
/-! ### ghost steps: slots are forgotten, cells are dropped or seen as values -/
def Gh (lo : Nat) (δ : Sd) (cs : Cs) (δ' : Sd) (cs' : Cs) : Prop := ∀ (K : PySem.W.Frag) (W : Wd) (σ : L2.St), W.cs = cs → lo ≤ W.al.length → Rel K W → Sl K W δ σ →
  ∃ W' : Wd, W'.H = W.H ∧ W'.cs = cs' ∧ Stp lo W W' ∧ Rel K W' ∧ Sl K W' δ' σ ∧ lo ≤ W'.al.length
def GhV (lo : Nat) (d : D) (cs : Cs) (d' : D) (cs' : Cs) : Prop := ∀ (K : PySem.W.Frag) (W : Wd) (v : V), W.cs = cs → lo ≤ W.al.length → Rel K W → Is K W d v →
  ∃ W' : Wd, W'.H = W.H ∧ W'.cs = cs' ∧ Stp lo W W' ∧ Rel K W' ∧ Is K W' d' v ∧ lo ≤ W'.al.length
theorem Gh.refl {lo : Nat} {δ : Sd} {cs : Cs} : Gh lo δ cs δ cs := fun K W σ e h rel sl => ⟨W, rfl, e, .refl, rel, sl, h⟩
theorem GhV.refl {lo : Nat} {d : D} {cs : Cs} : GhV lo d cs d cs := fun K W σ e h rel sl => ⟨W, rfl, e, .refl, rel, sl, h⟩
/-! ### statements -/
def dSeq (a b : TSD) : TSD := fun lo E δ cs => a lo { E with nx := fun δ' cs' => b lo E δ' cs' } δ cs
def dRet (t : TED) : TSD := fun lo E δ cs => t δ cs E.rt
def dRetN : TSD := fun lo E _ cs => E.rt .non cs
def dPass : TSD := fun lo E δ cs => E.nx δ cs
def dBreak : TSD := fun lo E δ cs => E.bk δ cs
def dCont : TSD := fun lo E δ cs => E.ct δ cs
def dDrop (t : TED) : TSD := fun lo E δ cs => t δ cs fun _ c1 => E.nx δ c1
def dIf (c : TTD) (a b : TSD) : TSD := fun lo E δ cs => c δ cs fun k c1 => brn k (a lo E δ c1) (b lo E δ c1)
def dSet (i : Nat) (t : TED) : TSD := fun lo E δ cs => t δ cs fun d c1 => E.nx (δ.set i (some d)) c1
def dAsg (t : TED) (g : TGD) : TSD := fun lo E δ cs => t δ cs fun d c1 => g d δ c1 E.nx
def dNever : TSD := fun _ _ _ _ => False
/-- a ghost step ahead of a statement -/
def dGh (t : TSD) : TSD := fun lo E δ cs => ∃ δ' cs', Gh lo δ cs δ' cs' ∧ t lo E δ' cs'
section
variable {X : Cx} {e c : Expr} {st : Stmt} {sts a b : List Stmt} {t : TED} {tt : TTD} {s u : TSD} {pos : Pos}
theorem Aft.ofLk {K : PySem.W.Frag} {lo : Nat} {W : Wd} {F : Hp} {E : EndsD} {N : Ends} (L : Lk K lo W F E N) (h : lo ≤ W.al.length) : Aft K W F E.rt N.rt := fun v W' d H' S rel j i q => L.rt v W' d H' (S.mono h) rel j (Nat.le_trans h S.lenLe) i q
theorem dss_nil : DSs X [] dPass := pss_imp pss_nil fun N σ H ⟨W, F, δ, lo, E, j, rel, sl, hl, t, L⟩ => L.nx σ W δ H .refl rel j sl hl t
theorem dss_cons (h1 : DS X st s) (h2 : DSs X sts u) : DSs X (st :: sts) (dSeq s u) :=
  pss_imp (pss_cons h1 h2) fun N σ H ⟨W, F, δ, lo, E, j, rel, sl, hl, t, L⟩ => ⟨W, F, δ, lo, _, j, rel, sl, hl, t, ⟨fun σ' W' δ' H' S rel' j' sl' hl' q => ⟨W', F, δ', lo, E, j', rel', sl', hl', q, L.to S⟩, L.bk, L.ct, L.rt⟩⟩
theorem dss_one (h1 : DS X st s) : DSs X [st] s := pss_one h1
theorem ds_pass : DS X (.Pass pos) dPass := ps_imp ps_pass fun N σ H ⟨W, F, δ, lo, E, j, rel, sl, hl, t, L⟩ => L.nx σ W δ H .refl rel j sl hl t
theorem ds_break : DS X (.Break pos) dBreak := ps_imp ps_break fun N σ H ⟨W, F, δ, lo, E, j, rel, sl, hl, t, L⟩ => L.bk σ W δ H .refl rel j sl hl t
theorem ds_cont : DS X (.Continue pos) dCont := ps_imp ps_continue fun N σ H ⟨W, F, δ, lo, E, j, rel, sl, hl, t, L⟩ => L.ct σ W δ H .refl rel j sl hl t
theorem ds_ret (h : DE X e t) : DS X (.Return (some e) pos) (dRet t) := ps_imp (ps_ret h) fun N σ H ⟨W, F, δ, lo, E, j, rel, sl, hl, t, L⟩ => ⟨W, F, δ, _, j, rel, sl, t, .ofLk L hl⟩
theorem ds_retN : DS X (.Return none pos) dRetN := ps_imp ps_retN fun N σ H ⟨W, F, δ, lo, E, j, rel, sl, hl, t, L⟩ => L.rt .non W .non H .refl rel j hl rfl t
theorem ds_expr (h : DE X e t) (hs : swapsWith e none pos.line X.env = pure false := by rfl) : DS X (.Expr e pos) (dDrop t) :=
  ps_imp (ps_expr h hs) fun N σ H ⟨W, F, δ, lo, E, j, rel, sl, hl, t, L⟩ => ⟨W, F, δ, _, j, rel, sl, t, fun v W1 d H1 S1 rel1 j1 i q => L.nx σ W1 δ H1 (S1.mono hl) rel1 j1 (sl.to S1) (Nat.le_trans hl S1.lenLe) q⟩
theorem ds_if (hc : DT X c tt) (ha : DSs X a s) (hb : DSs X b u) : DS X (.If c a b pos) (dIf tt s u) :=
  ps_imp (ps_if hc ha hb) fun N σ H ⟨W, F, δ, lo, E, j, rel, sl, hl, t, L⟩ => ⟨W, F, δ, _, j, rel, sl, t, fun k W1 H1 S1 rel1 j1 q =>
    brn_if q (fun q => ⟨W1, F, δ, lo, E, j1, rel1, sl.to S1, Nat.le_trans hl S1.lenLe, q, L.to (S1.mono hl)⟩) fun q => ⟨W1, F, δ, lo, E, j1, rel1, sl.to S1, Nat.le_trans hl S1.lenLe, q, L.to (S1.mono hl)⟩⟩
theorem ds_set {i : Nat} {x : Str} {pos' : Pos} (hN : X.N.Nodup) (hi : X.N[i]? = some x) (hx : Loc X.env.scope x) (he : DE X e t) (hs : swapsWith e (some (.Name x pos')) pos.line X.env = pure false := by rfl) (hf : X.fn x = true ∨ X.env.scope.names.lookup x = some .local := by first | exact .inl rfl | exact .inr rfl | assumption) :
    DS X (.Assign [.Name x pos'] e pos) (dSet i t) :=
  ps_imp (ps_set hN hi hx he hs hf) fun N σ H ⟨W, F, δ, lo, E, j, rel, sl, hl, t, L⟩ => ⟨W, F, δ, _, j, rel, sl, t, fun v W1 d H1 S1 rel1 j1 i1 q =>
    L.nx _ W1 _ H1 (S1.mono hl) rel1 j1 ((sl.to S1).set i1 i) (Nat.le_trans hl S1.lenLe) q⟩
theorem ds_asg {tg : Expr} {g : TGD} (he : DE X e t) (hg : DG X tg g) (hs : swapsWithSole [tg] e pos.line X.env = pure false := by rfl) (hw : swappedStores [tg] e X.env = pure none := by rfl)
    (h1 : (assignEach [tg] X.env).map (·.2) = [assign tg X.env] := by rfl) : DS X (.Assign [tg] e pos) (dAsg t g) :=
  ps_imp (ps_asg he hg hs hw h1) fun N σ H ⟨W, F, δ, lo, E, j, rel, sl, hl, t, L⟩ => ⟨W, F, δ, _, j, rel, sl, t, fun v W1 d H1 S1 rel1 j1 i1 q =>
    ⟨W1, F, δ, d, _, j1, rel1, sl.to S1, i1, q, fun σ' W' δ' H' S' rel' j' sl' q' => L.nx σ' W' δ' H' ((S1.full S').mono hl) rel' j' sl' (Nat.le_trans hl (S1.full S').lenLe) q'⟩⟩
theorem ds_never : DS X st dNever := ps_imp ps_never fun N σ H ⟨_, _, _, _, _, _, _, _, _, t, _⟩ => t.elim
theorem dss_never : DSs X sts dNever := pss_imp pss_never fun N σ H ⟨_, _, _, _, _, _, _, _, _, t, _⟩ => t.elim
theorem up_gh {K : PySem.W.Frag} : ∀ N σ H, upS K (dGh s) N σ H → upS K s N σ H := fun N σ H ⟨W, F, δ, lo, E, j, rel, sl, hl, ⟨δ', cs', g, t⟩, L⟩ => by
  obtain ⟨W', e, ec, S, rel', sl', hl'⟩ := g K W σ rfl hl rel sl
  exact ⟨W', F, δ', lo, E, e.symm ▸ j, rel', sl', hl', ec.symm ▸ t, L.to S⟩
theorem ds_gh (h : DS X st s) : DS X st (dGh s) := ps_imp h up_gh
theorem dss_gh (h : DSs X sts s) : DSs X sts (dGh s) := pss_imp h up_gh
end
end DL
/-! DL3: loops and comprehensions over deep states. -/
namespace DL
open PySem PySem.Spec PyProof.Rows L2
/-! ### while -/
def dWhile (c : TTD) (tb : TSD) : TSD := fun lo E δ cs => ∃ I : Nat → Sd → Cs → Prop, (∃ m, I m δ cs) ∧ ∀ m δ cs, I m δ cs → lo ≤ cs.length →
  c δ cs fun b c1 => brn b (tb lo { nx := fun δ' c' => ∃ δ2 c2 m', m' < m ∧ Gh lo δ' c' δ2 c2 ∧ I m' δ2 c2, rt := E.rt, bk := E.nx, ct := fun δ' c' => ∃ δ2 c2 m', m' < m ∧ Gh lo δ' c' δ2 c2 ∧ I m' δ2 c2 } δ c1) (E.nx δ c1)
section
variable {X : Cx} {c : Expr} {body : List Stmt} {tc : TTD} {tb : TSD} {pos : Pos}
theorem up_while {K : PySem.W.Frag} : ∀ N σ H, upS K (dWhile tc tb) N σ H → tWhile (upT K tc) (upS K tb) N σ H := fun N σ H ⟨W0, F, δ0, lo, E, j, rel, sl, hl, ⟨I, ⟨m0, i0⟩, turn⟩, L⟩ => by
  refine ⟨fun m σ H => ∃ (W : Wd) (δ : Sd), Jn W.H F H ∧ Rel K W ∧ Sl K W δ σ ∧ lo ≤ W.al.length ∧ Stp lo W0 W ∧ I m δ W.cs, ⟨m0, W0, δ0, j, rel, sl, hl, .refl, i0⟩, ?_⟩
  rintro m σ H ⟨W, δ, j, rel, sl, hl, S, im⟩
  refine ⟨W, F, δ, _, j, rel, sl, turn m δ W.cs im (by rw [← rel.len]; exact hl), fun b W1 H1 S1 rel1 j1 q => brn_if q (fun q => ?_) fun q => ?_⟩
  · have hl1 : lo ≤ W1.al.length := Nat.le_trans hl S1.lenLe
    have S01 : Stp lo W0 W1 := S.tr (S1.mono hl) fun _ _ h _ => h
    have again : ∀ (σ' : L2.St) (W' : Wd) (δ' : Sd) (H' : Hp), Stp lo W1 W' → Rel K W' → Jn W'.H F H' → Sl K W' δ' σ' → lo ≤ W'.al.length → (∃ δ2 c2 m', m' < m ∧ Gh lo δ' W'.cs δ2 c2 ∧ I m' δ2 c2) →
        ∃ m', m' < m ∧ ∃ (W : Wd) (δ : Sd), Jn W.H F H' ∧ Rel K W ∧ Sl K W δ σ' ∧ lo ≤ W.al.length ∧ Stp lo W0 W ∧ I m' δ W.cs := by
      rintro σ' W' δ' H' S' rel' j' sl' hl' ⟨δ2, c2, m', hm, gh, im'⟩
      obtain ⟨W2, e, ec, S2, rel2, sl2, hl2⟩ := gh K W' σ' rfl hl' rel' sl'
      exact ⟨m', hm, W2, δ2, e.symm ▸ j', rel2, sl2, hl2, (S01.tr S' fun _ _ h _ => h).tr S2 fun _ _ h _ => h, ec.symm ▸ im'⟩
    refine ⟨fun σ' H' => ∃ m', m' < m ∧ ∃ (W : Wd) (δ : Sd), Jn W.H F H' ∧ Rel K W ∧ Sl K W δ σ' ∧ lo ≤ W.al.length ∧ Stp lo W0 W ∧ I m' δ W.cs, fun _ _ h => h, ?_⟩
    exact ⟨W1, F, δ, lo, _, j1, rel1, sl.to S1, hl1, q, ⟨again, fun σ' W' δ' H' S' => L.nx σ' W' δ' H' (S01.tr S' fun _ _ h _ => h), again, fun v W' d H' S' => L.rt v W' d H' (S01.tr S' fun _ _ h _ => h)⟩⟩
  · exact L.nx σ W1 δ H1 (S.tr (S1.mono hl) fun _ _ h _ => h) rel1 j1 (sl.to S1) (Nat.le_trans hl S1.lenLe) q
theorem ds_while (hp : PassesOwn (model X.prog X.w) X.A X.env X.xe) (hc : DT X c tc) (hb : DSs X body tb) : DS X (.While c body [] pos) (dWhile tc tb) := ps_imp (ps_while hp hc hb) up_while
end
/-! ### what is walked -/
structure IterOk (K : PySem.W.Frag) (W1 : Wd) (J : It) (ds : List D) (G : Cs → Prop) : Prop where
  goes : ∀ (i : Nat) (W : Wd) (F H : Hp), Stp W1.al.length W1 W → Rel K W → Jn W.H F H → G W.cs → i < ds.length → J.go i H
  stops : ∀ (W : Wd) (F H : Hp), Stp W1.al.length W1 W → Rel K W → Jn W.H F H → G W.cs → J.stop ds.length H
  yields : ∀ (i : Nat) (W : Wd) (F H : Hp) (x : V) (H' : Hp), Stp W1.al.length W1 W → Rel K W → Jn W.H F H → G W.cs → i < ds.length → J.yld i H x H' →
    ∃ (W2 : Wd) (d : D), Jn W2.H F H' ∧ Stp W.al.length W W2 ∧ Rel K W2 ∧ W2.cs = W.cs ∧ ds[i]? = some d ∧ Is K W2 d x
abbrev TID := Sd → Cs → (List D → (Cs → Prop) → Cs → Prop) → Prop
def upI (K : PySem.W.Frag) (t : TID) : TI := fun σ H R => ∃ (W : Wd) (F : Hp) (δ : Sd) (RR : List D → (Cs → Prop) → Cs → Prop), Jn W.H F H ∧ Rel K W ∧ Sl K W δ σ ∧ t δ W.cs RR ∧
  ∀ (ds : List D) (G : Cs → Prop) (W' : Wd) (H' : Hp) (J : It), Stp W.al.length W W' → Rel K W' → Jn W'.H F H' → IterOk K W' J ds G → RR ds G W'.cs → R J H'
def DI (X : Cx) (tg iter : Expr) (t : TID) : Prop := PI X tg iter (upI X.K t)
theorem pi_imp {X : Cx} {tg iter : Expr} {t t' : TI} (h : PI X tg iter t) (k : ∀ σ H R, t' σ H R → t σ H R) : PI X tg iter t' := ⟨fun pins s σ H R I q => h.run pins s σ H R I (k σ H R q)⟩
/-! ### for -/
def dFor (ti : TID) (g : TGD) (tb : TSD) : TSD := fun lo E δ cs => ti δ cs fun ds G c1 => ∃ I : Nat → Sd → Cs → Prop, I 0 δ c1 ∧ (∀ i δ' c, I i δ' c → G c) ∧
  (∀ i d δ' c, ds[i]? = some d → I i δ' c → c1.length ≤ c.length → g d δ' c fun δ2 c2 => tb c1.length
    { nx := fun δ3 c3 => ∃ δ4 c4, Gh c1.length δ3 c3 δ4 c4 ∧ I (i + 1) δ4 c4, rt := E.rt, bk := E.nx, ct := fun δ3 c3 => ∃ δ4 c4, Gh c1.length δ3 c3 δ4 c4 ∧ I (i + 1) δ4 c4 } δ2 c2) ∧
  ∀ δ' c, I ds.length δ' c → E.nx δ' c
section
variable {X : Cx} {tg iter : Expr} {body : List Stmt} {ti : TID} {g : TGD} {tb : TSD} {pos : Pos}
theorem up_for {K : PySem.W.Frag} : ∀ N σ H, upS K (dFor ti g tb) N σ H → tFor (upI K ti) (upG K g) (upS K tb) N σ H := fun N σ H ⟨W0, F, δ0, lo, E, j, rel, sl, hl, t, L⟩ => by
  refine ⟨W0, F, δ0, _, j, rel, sl, t, fun ds G W1 H1 J S1 rel1 j1 it ⟨I, i0, hG, turn, fin⟩ => ?_⟩
  have sl1 := sl.to S1
  have hlo : lo ≤ W1.al.length := Nat.le_trans hl S1.lenLe
  have hc1 : W1.cs.length = W1.al.length := rel1.len.symm
  rw [hc1] at turn
  refine ⟨fun i m σ H => m = ds.length - i ∧ i ≤ ds.length ∧ ∃ (W : Wd) (δ : Sd), Jn W.H F H ∧ Rel K W ∧ Sl K W δ σ ∧ W1.al.length ≤ W.al.length ∧ Stp W1.al.length W1 W ∧ I i δ W.cs,
    ⟨ds.length, by simp, Nat.zero_le _, W1, δ0, j1, rel1, sl1, Nat.le_refl _, .refl, i0⟩, ?_⟩
  rintro i m σ H ⟨rfl, hi, W, δ, j, rel, sl, hlw, S, im⟩
  have S0W : Stp lo W0 W := (S1.mono hl).tr (S.mono hlo) fun _ _ h _ => h
  by_cases hlt : i < ds.length
  · have again : ∀ (W2 : Wd), Stp W1.al.length W1 W2 → ∀ (σ' : L2.St) (W' : Wd) (δ' : Sd) (H' : Hp), Stp W1.al.length W2 W' → Rel K W' → Jn W'.H F H' → Sl K W' δ' σ' → W1.al.length ≤ W'.al.length → (∃ δ4 c4, Gh W1.al.length δ' W'.cs δ4 c4 ∧ I (i + 1) δ4 c4) →
        ∃ (W : Wd) (δ : Sd), Jn W.H F H' ∧ Rel K W ∧ Sl K W δ σ' ∧ W1.al.length ≤ W.al.length ∧ Stp W1.al.length W1 W ∧ I (i + 1) δ W.cs := by
      rintro W2 S12 σ' W' δ' H' S' rel' j' sl' hl' ⟨δ4, c4, gh, im'⟩
      obtain ⟨W4, e, ec, S4, rel4, sl4, hl4⟩ := gh K W' σ' rfl hl' rel' sl'
      exact ⟨W4, δ4, e.symm ▸ j', rel4, sl4, hl4, (S12.tr S' fun _ _ h _ => h).tr S4 fun _ _ h _ => h, ec.symm ▸ im'⟩
    refine .inr ⟨it.goes i W F H S rel j (hG i δ W.cs im) hlt, fun σ' H' => ∃ (W : Wd) (δ : Sd), Jn W.H F H' ∧ Rel K W ∧ Sl K W δ σ' ∧ W1.al.length ≤ W.al.length ∧ Stp W1.al.length W1 W ∧ I (i + 1) δ W.cs, fun σ' H' q => ⟨ds.length - (i + 1), by omega, rfl, hlt, q⟩, fun x H' y => ?_⟩
    obtain ⟨W2, d, j2, S2, rel2, ec2, hd, id⟩ := it.yields i W F H x H' S rel j (hG i δ W.cs im) hlt y
    have hl2 : W1.al.length ≤ W2.al.length := Nat.le_trans hlw S2.lenLe
    refine ⟨W2, F, δ, d, _, j2, rel2, sl.to S2, id, turn i d δ W2.cs hd (ec2.symm ▸ im) (by rw [← rel2.len]; exact hl2), fun σ3 W3 δ3 H3 S3 rel3 j3 sl3 q => ?_⟩
    have S13 : Stp W1.al.length W1 W3 := (S.tr (S2.mono hlw) fun _ _ h _ => h).tr (S3.mono hl2) fun _ _ h _ => h
    have S03 : Stp lo W0 W3 := (S1.mono hl).tr (S13.mono hlo) fun _ _ h _ => h
    exact ⟨W3, F, δ3, W1.al.length, _, j3, rel3, sl3, Nat.le_trans hl2 S3.lenLe, q, ⟨again W3 S13, fun σ' W' δ' H' S' rel' j' sl' hl' q' => L.nx σ' W' δ' H' (S03.tr (S'.mono hlo) fun _ _ h _ => h) rel' j' sl' (Nat.le_trans hlo hl') q', again W3 S13,
      fun v W' d H' S' rel' j' hl' i' q' => L.rt v W' d H' (S03.tr (S'.mono hlo) fun _ _ h _ => h) rel' j' (Nat.le_trans hlo hl') i' q'⟩⟩
  · have e : i = ds.length := by omega
    subst e
    exact .inl ⟨it.stops W F H S rel j (hG _ δ W.cs im), L.nx σ W δ H S0W rel j sl (Nat.le_trans hlo hlw) (fin δ W.cs im)⟩
theorem ds_for (hp : PassesOwn (model X.prog X.w) X.A X.env X.xe) (hc : X.calm = true) (hi : DI X tg iter ti) (hg : DG X tg g) (hb : DSs X body tb)
    (hs : ∀ x, foldedSetIterable iter X.env x = pure x := by intro _; rfl) : DS X (.For tg iter body [] pos) (dFor ti g tb) := ps_imp (ps_for hp hc hi hg hb hs) up_for
end
/-! ### targets -/
def gdName (i : Nat) : TGD := fun d δ cs R => R (δ.set i (some d)) cs
def gdNil : TGDs := fun ds δ cs R => ds = [] ∧ R δ cs
def gdCons (g : TGD) (u : TGDs) : TGDs := fun ds δ cs R => match ds with
  | [] => False
  | d :: r => g d δ cs fun δ' c' => u r δ' c' R
def asT (d : D) (Q : List D → Prop) : Prop := match d with
  | .tup ds => Q ds
  | _ => False
def gdTup (n : Nat) (u : TGDs) : TGD := fun d δ cs R => asT d fun ds => ds.length = n ∧ u ds δ cs R
theorem asT_is {K : PySem.W.Frag} {W : Wd} {d : D} {v : V} {Q : List D → Prop} (i : Is K W d v) (h : asT d Q) : ∃ a ds vs, d = .tup ds ∧ v = .ref a ∧ W.H a = some (.tup vs) ∧ Iss K W ds vs ∧ Q ds := by
  cases d <;> first | exact h.elim | (obtain ⟨a, vs, e, h1, _, h2⟩ := i; exact ⟨a, _, vs, rfl, e, h1, h2, h⟩)
section
variable {X : Cx} {pos : Pos}
theorem dg_name {i : Nat} {x : Str} (hN : X.N.Nodup) (hi : X.N[i]? = some x) (hx : Loc X.env.scope x) (hf : X.fn x = true ∨ X.env.scope.names.lookup x = some .local := by first | exact .inl rfl | exact .inr rfl | assumption) : DG X (.Name x pos) (gdName i) :=
  pg_imp (pg_name hN hi hx hf) fun v σ H Q ⟨W, F, δ, d, R, j, rel, sl, id, t, k⟩ => k _ W _ H .refl rel j (sl.set id i) t
theorem dgs_nil : DGs X [] gdNil := pgs_imp pgs_nil fun vs σ H Q ⟨W, F, δ, ds, R, j, rel, sl, is, ⟨e, t⟩, k⟩ => by
  subst e
  exact ⟨is, k _ W _ H .refl rel j sl t⟩
theorem dgs_cons {e : Expr} {es : List Expr} {g : TGD} {u : TGDs} (h1 : DG X e g) (h2 : DGs X es u)
    (hs : (assignEach (e :: es) X.env).map (·.2) = assign e X.env :: (assignEach es X.env).map (·.2) := by rfl) : DGs X (e :: es) (gdCons g u) :=
  pgs_imp (pgs_cons h1 h2 hs) fun vs σ H Q ⟨W, F, δ, ds, R, j, rel, sl, is, t, k⟩ => by
    cases ds with
    | nil => exact t.elim
    | cons d r =>
      obtain ⟨v, r', rfl, h1, h2⟩ := is
      exact ⟨v, r', rfl, W, F, δ, d, _, j, rel, sl, h1, t, fun σ1 W1 δ1 H1 S1 rel1 j1 sl1 q => ⟨W1, F, δ1, r, R, j1, rel1, sl1, h2.to S1, q, fun σ' W' δ' H' S' => k σ' W' δ' H' (S1.full S')⟩⟩
theorem dg_tup {es : List Expr} {k : Nat} {u : TGDs} {n : Nat} (hc : X.calm = true) (h : DGs X es u)
    (hn : (assignEach es X.env).length = n := by rfl) (hst : (assignEach es X.env).findIdx? (·.1) = none := by rfl) : DG X (.Tuple es k pos) (gdTup n u) :=
  pg_imp (pg_tup hc h hn hst) fun v σ H Q ⟨W, F, δ, d, R, j, rel, sl, id, t, k⟩ => by
    obtain ⟨a, ds, vs, rfl, rfl, ha, is, hl, q⟩ := asT_is id t
    exact ⟨a, vs, rfl, .of (j.sub _ _ ha), by rw [← iss_len is]; exact hl, W, F, δ, ds, R, j, rel, sl, is, q, k⟩
end
/-! ### comprehensions -/
def wipeD (δ : Sd) : List Nat → Sd
  | [] => δ
  | v :: vs => (wipeD δ vs).set v none
theorem Sl.wipe {K : PySem.W.Frag} {W : Wd} {δ : Sd} {σ : L2.St} (h : Sl K W δ σ) : ∀ vs : List Nat, Sl K W (wipeD δ vs) (L2.wipe σ vs)
  | [] => h
  | v :: vs => by
    have ih := Sl.wipe h vs
    refine ⟨by simp [wipeD, L2.wipe, ih.len], fun i d e => ?_⟩
    unfold wipeD at e
    by_cases hv : v = i
    · subst hv
      have hlt := (List.getElem?_eq_some_iff.mp e).1
      rw [List.getElem?_set_self (by simpa using hlt)] at e
      cases e
    · unfold L2.wipe
      rw [List.getElem?_set_ne hv] at e ⊢
      exact ih.at_ i d e
/-- a block's target: names of its own -/
def upGw (K : PySem.W.Frag) (vs : List Nat) (g : TGD) : TG := fun v σ H Q => ∃ (W : Wd) (F : Hp) (δ : Sd) (d : D) (R : Sd → Cs → Prop), Jn W.H F H ∧ Rel K W ∧ Sl K W δ σ ∧ Is K W d v ∧ g d δ W.cs R ∧
  ∀ (σ' : L2.St) (W' : Wd) (δ' : Sd) (H' : Hp), Stp W.al.length W W' → Rel K W' → Jn W'.H F H' → Sl K W' δ' σ' → L2.wipe σ' vs = L2.wipe σ vs → R δ' W'.cs → Q σ' H'
def upGws (K : PySem.W.Frag) (vs : List Nat) (g : TGDs) : TGs := fun us σ H Q => ∃ (W : Wd) (F : Hp) (δ : Sd) (ds : List D) (R : Sd → Cs → Prop), Jn W.H F H ∧ Rel K W ∧ Sl K W δ σ ∧ Iss K W ds us ∧ g ds δ W.cs R ∧
  ∀ (σ' : L2.St) (W' : Wd) (δ' : Sd) (H' : Hp), Stp W.al.length W W' → Rel K W' → Jn W'.H F H' → Sl K W' δ' σ' → L2.wipe σ' vs = L2.wipe σ vs → R δ' W'.cs → Q σ' H'
def DGw (X : Cx) (vs : List Nat) (e : Expr) (g : TGD) : Prop := PG X e (upGw X.K vs g)
def DGws (X : Cx) (vs : List Nat) (es : List Expr) (g : TGDs) : Prop := PGs X es (upGws X.K vs g)
theorem wipe_set {σ : L2.St} {o : Option V} {i : Nat} : ∀ {vs : List Nat}, i ∈ vs → L2.wipe (σ.set i o) vs = L2.wipe σ vs
  | [], h => by cases h
  | v :: vs, h => by
    unfold L2.wipe
    by_cases hv : v = i
    · subst hv
      have key : ∀ (us : List Nat), (L2.wipe (σ.set v o) us).set v none = (L2.wipe σ us).set v none := by
        intro us
        induction us with
        | nil => simp [L2.wipe]
        | cons u us ih =>
          unfold L2.wipe
          by_cases hu : u = v
          · subst hu; simp [ih]
          · rw [List.set_comm _ _ hu, ih, List.set_comm _ _ (Ne.symm hu)]
      exact key vs
    · rw [wipe_set (List.mem_of_ne_of_mem (Ne.symm hv) h)]
section
variable {X : Cx} {pos : Pos} {vs : List Nat}
theorem dgw_name {i : Nat} {x : Str} (hN : X.N.Nodup) (hi : X.N[i]? = some x) (hx : Loc X.env.scope x) (hv : i ∈ vs) (hf : X.fn x = true ∨ X.env.scope.names.lookup x = some .local := by first | exact .inl rfl | exact .inr rfl | assumption) : DGw X vs (.Name x pos) (gdName i) :=
  pg_imp (pg_name hN hi hx hf) fun v σ H Q ⟨W, F, δ, d, R, j, rel, sl, id, t, k⟩ => k _ W _ H .refl rel j (sl.set id i) (wipe_set hv) t
theorem dgws_nil : DGws X vs [] gdNil := pgs_imp pgs_nil fun us σ H Q ⟨W, F, δ, ds, R, j, rel, sl, is, ⟨e, t⟩, k⟩ => by
  subst e
  exact ⟨is, k _ W _ H .refl rel j sl rfl t⟩
theorem dgws_cons {e : Expr} {es : List Expr} {g : TGD} {u : TGDs} (h1 : DGw X vs e g) (h2 : DGws X vs es u)
    (hs : (assignEach (e :: es) X.env).map (·.2) = assign e X.env :: (assignEach es X.env).map (·.2) := by rfl) : DGws X vs (e :: es) (gdCons g u) :=
  pgs_imp (pgs_cons h1 h2 hs) fun us σ H Q ⟨W, F, δ, ds, R, j, rel, sl, is, t, k⟩ => by
    cases ds with
    | nil => exact t.elim
    | cons d r =>
      obtain ⟨v, r', rfl, h1, h2⟩ := is
      exact ⟨v, r', rfl, W, F, δ, d, _, j, rel, sl, h1, t, fun σ1 W1 δ1 H1 S1 rel1 j1 sl1 w1 q => ⟨W1, F, δ1, r, R, j1, rel1, sl1, h2.to S1, q, fun σ' W' δ' H' S' r' j' s' w' => k σ' W' δ' H' (S1.full S') r' j' s' (w'.trans w1)⟩⟩
theorem dgw_tup {es : List Expr} {k : Nat} {u : TGDs} {n : Nat} (hc : X.calm = true) (h : DGws X vs es u)
    (hn : (assignEach es X.env).length = n := by rfl) (hst : (assignEach es X.env).findIdx? (·.1) = none := by rfl) : DGw X vs (.Tuple es k pos) (gdTup n u) :=
  pg_imp (pg_tup hc h hn hst) fun v σ H Q ⟨W, F, δ, d, R, j, rel, sl, id, t, k⟩ => by
    obtain ⟨a, ds, vs', rfl, rfl, ha, is, hl, q⟩ := asT_is id t
    exact ⟨a, vs', rfl, .of (j.sub _ _ ha), by rw [← iss_len is]; exact hl, W, F, δ, ds, R, j, rel, sl, is, q, k⟩
end
def DTs (X : Cx) (ifs : List Expr) (t : TTD) : Prop := PTs X ifs (upT X.K t)
def dYes : TTD := fun _ cs Q => Q true cs
theorem dts_nil {X : Cx} : DTs X [] dYes := ⟨fun pins s σ H Q I ⟨W, F, δ, R, j, rel, sl, t, k⟩ => pts_nil.run pins s σ H Q I (k true W H .refl rel j t)⟩
theorem dts_one {X : Cx} {c : Expr} {t : TTD} (h : DT X c t) : DTs X [c] t := pts_one h
/-- a step of the cells alone -/
def GhC (lo : Nat) (cs cs' : Cs) : Prop := ∀ (K : PySem.W.Frag) (W : Wd), W.cs = cs → lo ≤ W.al.length → Rel K W → ∃ W' : Wd, W'.H = W.H ∧ W'.cs = cs' ∧ Stp lo W W' ∧ Rel K W' ∧ lo ≤ W'.al.length
theorem GhC.refl {lo : Nat} {cs : Cs} : GhC lo cs cs := fun K W e h rel => ⟨W, rfl, e, .refl, rel, h⟩
/-- [elt for target in iter if ..] -/
def dLcW (Qd : List D → Cs → Prop) (ti : TID) (g : TGD) (tc : TTD) (te : TED) (vs : List Nat) : Sd → Cs → Prop := fun δ cs => ti δ cs fun ds G c1 => ∃ I : Nat → List D → Cs → Prop, I 0 [] c1 ∧ (∀ i acc c, I i acc c → G c) ∧
  (∀ i d acc c, ds[i]? = some d → I i acc c → c1.length ≤ c.length → g d (wipeD δ vs) c fun δ2 c2 => tc δ2 c2 fun b c3 =>
    brn b (te δ2 c3 fun y c4 => acc.length < sizeLine ∧ ∃ y' c5, GhV c1.length y c4 y' c5 ∧ Bd c1.length y' ∧ I (i + 1) (acc ++ [y']) c5) (∃ c5, GhC c1.length c3 c5 ∧ I (i + 1) acc c5)) ∧
  ∀ acc c, I ds.length acc c → Qd acc c
def dLc (ti : TID) (g : TGD) (tc : TTD) (te : TED) (vs : List Nat) : TED := fun δ cs Q => dLcW (fun acc c => Q (.lst acc) c) ti g tc te vs δ cs
/-- the new list stays open -/
def dLcP (ti : TID) (g : TGD) (tc : TTD) (te : TED) (vs : List Nat) : TED := fun δ cs Q => dLcW (fun acc c => Q (.ptr c.length) (c ++ [.lst acc])) ti g tc te vs δ cs
theorem up_lcW {K : PySem.W.Frag} {ti : TID} {g : TGD} {tc : TTD} {te : TED} {vs : List Nat} {Qd : List D → Cs → Prop} {σ : L2.St} {H : Hp} {Q : VK} {W0 : Wd} {F : Hp} {δ : Sd} (j : Jn W0.H F H) (rel : Rel K W0) (sl : Sl K W0 δ σ)
    (t : dLcW Qd ti g tc te vs δ W0.cs)
    (fin : ∀ (W : Wd) (D : Addr) (acc : List DL.D) (accV : List V) (H' : Hp), Stp W0.al.length W0 W → Rel K W → W.H D = none → Jn (upd W.H D (.lst accV)) F H' → Iss K W acc accV → Qd acc W.cs → Q (.ref D) H') :
    tLc (upI K ti) (upGw K vs g) (upT K tc) (up K te) vs σ H Q := by
  refine ⟨W0, F, δ, _, j, rel, sl, t, fun ds G W1 H1 J S1 rel1 j1 it ⟨I, i0, hG, turn, fin'⟩ => ?_⟩
  have sl1 := sl.to S1
  have hc1 : W1.cs.length = W1.al.length := rel1.len.symm
  rw [hc1] at turn
  intro Da hDa
  have hFD : F Da = none := by
    cases e : F Da with
    | none => rfl
    | some o => rw [(j1.out _ _ e).1] at hDa; cases hDa
  refine ⟨fun i m H => m = ds.length - i ∧ i ≤ ds.length ∧ ∃ (W : Wd) (acc : List D) (accV : List V), Jn W.H (upd F Da (.lst accV)) H ∧ Rel K W ∧ W1.al.length ≤ W.al.length ∧ Stp W1.al.length W1 W ∧ Iss K W acc accV ∧ Bds W1.al.length acc ∧ I i acc W.cs,
    ⟨ds.length, by simp, Nat.zero_le _, W1, [], [], j1.hide hDa _, rel1, Nat.le_refl _, .refl, rfl, trivial, i0⟩, ?_⟩
  rintro i m H ⟨rfl, hi, W, acc, accV, j, rel, hlw, S, ia, ba, im⟩
  have hWD : W.H Da = none := (j.out Da _ upd_same).2
  by_cases hlt : i < ds.length
  · refine .inr ⟨it.goes i W _ H S rel j (hG i acc W.cs im) hlt, fun H' => ∃ (W : Wd) (acc : List D) (accV : List V), Jn W.H (upd F Da (.lst accV)) H' ∧ Rel K W ∧ W1.al.length ≤ W.al.length ∧ Stp W1.al.length W1 W ∧ Iss K W acc accV ∧ Bds W1.al.length acc ∧ I (i + 1) acc W.cs,
      fun H' q => ⟨ds.length - (i + 1), by omega, rfl, hlt, q⟩, fun x H' y => ?_⟩
    obtain ⟨W2, d, j2, S2, rel2, ec2, hd, id⟩ := it.yields i W _ H x H' S rel j (hG i acc W.cs im) hlt y
    have hl2 : W1.al.length ≤ W2.al.length := Nat.le_trans hlw S2.lenLe
    have S12 : Stp W1.al.length W1 W2 := S.tr (S2.mono hlw) fun _ _ h _ => h
    have slw : Sl K W2 (wipeD δ vs) (L2.wipe σ vs) := by
      have q := sl1.wipe vs
      exact ⟨q.len, fun i d e => let ⟨v, e1, h⟩ := q.at_ i d e; ⟨v, e1, is_stp S12 d v h (is_bd d v h)⟩⟩
    refine ⟨W2, _, wipeD δ vs, d, _, j2, rel2, slw, id, turn i d acc W2.cs hd (ec2.symm ▸ im) (by rw [← rel2.len]; exact hl2), fun σ3 W3 δ3 H3 S3 rel3 j3 sl3 hw3 q => ?_⟩
    refine ⟨by rw [hw3]; exact (by
      have : ∀ (σ : L2.St) (us : List Nat), L2.wipe (L2.wipe σ us) us = L2.wipe σ us := by
        intro σ us
        have key : ∀ (ws : List Nat) (τ : L2.St), (∀ w ∈ ws, w ∈ us) → L2.wipe (L2.wipe τ ws) us = L2.wipe τ us := by
          intro ws
          induction ws with
          | nil => intro τ _; rfl
          | cons w ws ih =>
            intro τ h
            show L2.wipe ((L2.wipe τ ws).set w none) us = _
            rw [wipe_set (h w List.mem_cons_self)]
            exact ih τ fun x hx => h x (List.mem_cons_of_mem _ hx)
        exact key us σ fun _ h => h
      exact this σ vs), ?_⟩
    refine ⟨W3, _, δ3, _, j3, rel3, sl3, q, fun b W4 H4 S4 rel4 j4 q4 => brn_if q4 (fun q4 => ?_) fun q4 => ?_⟩
    · refine ⟨W4, _, δ3, _, j4, rel4, sl3.to S4, q4, fun v W5 y H5 S5 rel5 j5 iy q5 => ?_⟩
      obtain ⟨hz, y', c5, gh, hb, im'⟩ := q5
      have S35 := (S3.full S4).full S5
      have hl5 : W1.al.length ≤ W5.al.length := Nat.le_trans hl2 S35.lenLe
      obtain ⟨W6, e6, ec6, S6, rel6, iy6, hl6⟩ := gh K W5 v rfl hl5 rel5 iy
      have h5D : H5 Da = some (.lst accV) := (j5.out Da _ upd_same).1
      refine ⟨accV, h5D, by rw [← iss_len ia]; exact hz, W6, acc ++ [y'], accV ++ [v], ?_, rel6, hl6, ?_, ?_, ?_, ec6.symm ▸ im'⟩
      · have q := j5.putF (p := Da) (o0 := .lst accV) upd_same (.lst (accV ++ [v]))
        rw [upd_upd] at q
        rw [e6]; exact q
      · exact (S12.tr (S35.mono hl2) fun _ _ h _ => h).tr S6 fun _ _ h _ => h
      · have Sa : Stp W1.al.length W W6 := ((S2.mono hlw).tr (S35.mono hl2) fun _ _ h _ => h).tr S6 fun _ _ h _ => h
        exact (iss_stp Sa acc accV ia ba).append (.one iy6)
      · have : ∀ {l : List D}, Bds W1.al.length l → Bds W1.al.length (l ++ [y']) := by
          intro l
          induction l with
          | nil => intro _; exact ⟨hb, trivial⟩
          | cons a l ih => intro h; exact ⟨h.1, ih h.2⟩
        exact this ba
    · obtain ⟨c5, gh, im'⟩ := q4
      have S34 := S3.full S4
      have hl4 : W1.al.length ≤ W4.al.length := Nat.le_trans hl2 S34.lenLe
      obtain ⟨W6, e6, ec6, S6, rel6, hl6⟩ := gh K W4 rfl hl4 rel4
      have Sa : Stp W1.al.length W W6 := ((S2.mono hlw).tr (S34.mono hl2) fun _ _ h _ => h).tr S6 fun _ _ h _ => h
      exact ⟨W6, acc, accV, e6.symm ▸ j4, rel6, hl6, (S12.tr (S34.mono hl2) fun _ _ h _ => h).tr S6 fun _ _ h _ => h, iss_stp Sa acc accV ia ba, ba, ec6.symm ▸ im'⟩
  · have e : i = ds.length := by omega
    subst e
    refine .inl ⟨it.stops W _ H S rel j (hG _ acc W.cs im), fin W Da acc accV H (S1.full S) rel hWD ?_ ia (fin' acc W.cs im)⟩
    have q := j.show_ (p := Da) (o := .lst accV) upd_same
    have ef : (fun a => if a = Da then none else upd F Da (.lst accV) a) = F := by
      funext a
      by_cases ha : a = Da
      · rw [if_pos ha, ha, hFD]
      · rw [if_neg ha, upd_ne ha]
    rw [ef] at q
    exact q
theorem up_lc {K : PySem.W.Frag} {ti : TID} {g : TGD} {tc : TTD} {te : TED} {vs : List Nat} : ∀ σ H Q, up K (dLc ti g tc te vs) σ H Q → tLc (upI K ti) (upGw K vs g) (upT K tc) (up K te) vs σ H Q := fun σ H Q ⟨W0, F, δ, R, j, rel, sl, t, k⟩ =>
  up_lcW j rel sl t fun W Da acc accV H' S rel' hD j' ia q => k (.ref Da) (W.add Da (.lst accV)) (.lst acc) H' (S.full (add_stp hD _)) (rel'.add hD _) j' (rel'.newLst hD ia) q
theorem up_lcP {K : PySem.W.Frag} {ti : TID} {g : TGD} {tc : TTD} {te : TED} {vs : List Nat} : ∀ σ H Q, up K (dLcP ti g tc te vs) σ H Q → tLc (upI K ti) (upGw K vs g) (upT K tc) (up K te) vs σ H Q := fun σ H Q ⟨W0, F, δ, R, j, rel, sl, t, k⟩ =>
  up_lcW j rel sl t fun W Da acc accV H' S rel' hD j' ia q => k (.ref Da) (W.push Da (.lst accV) (.lst acc)) (.ptr W.cs.length) H' (S.full (push_stp hD _ _ rel'.len)) (rel'.pushLst hD ia) j' (push_is rel') q
section
variable {X : Cx} {elt tg iter : Expr} {ifs : List Expr} {scope : Scope} {own : List (Str × Nat)} {pos : Pos} {ti : TID} {g : TGD} {tc : TTD} {te : TED}
theorem de_lc (hc : X.calm = true) (hN : X.N.Nodup) (hi : DI X tg iter ti) (ok : BlkOk X.N X.env.scope scope own)
    (hg : ∀ (s : Shared) (H : Hp) (C : Addr) (cl : List (Str × Addr)) (fp : List Addr), DGw (X.blk s H scope (compEnvC scope cl C X.env) fp) (own.map (·.2)) tg g) (ht : ∀ (s : Shared) (H : Hp) (C : Addr) (cl : List (Str × Addr)) (fp : List Addr), DTs (X.blk s H scope (compEnvC scope cl C X.env) fp) ifs tc)
    (he : ∀ (s : Shared) (H : Hp) (C : Addr) (cl : List (Str × Addr)) (fp : List Addr), DE (X.blk s H scope (compEnvC scope cl C X.env) fp) elt te) (hs : ∀ x, foldedSetIterable iter X.env x = pure x := by intro _; rfl) :
    DE X (.ListComp elt [⟨tg, iter, ifs, 0⟩] scope pos) (dLc ti g tc te (own.map (·.2))) := pe_imp (pe_lc (g := upGw X.K (own.map fun x : Str × Nat => x.2) g) (tt := upT X.K tc) (te := up X.K te) hc hN hi ok hg ht he hs) up_lc
theorem de_lcP (hc : X.calm = true) (hN : X.N.Nodup) (hi : DI X tg iter ti) (ok : BlkOk X.N X.env.scope scope own)
    (hg : ∀ (s : Shared) (H : Hp) (C : Addr) (cl : List (Str × Addr)) (fp : List Addr), DGw (X.blk s H scope (compEnvC scope cl C X.env) fp) (own.map (·.2)) tg g) (ht : ∀ (s : Shared) (H : Hp) (C : Addr) (cl : List (Str × Addr)) (fp : List Addr), DTs (X.blk s H scope (compEnvC scope cl C X.env) fp) ifs tc)
    (he : ∀ (s : Shared) (H : Hp) (C : Addr) (cl : List (Str × Addr)) (fp : List Addr), DE (X.blk s H scope (compEnvC scope cl C X.env) fp) elt te) (hs : ∀ x, foldedSetIterable iter X.env x = pure x := by intro _; rfl) :
    DE X (.ListComp elt [⟨tg, iter, ifs, 0⟩] scope pos) (dLcP ti g tc te (own.map (·.2))) := pe_imp (pe_lc (g := upGw X.K (own.map fun x : Str × Nat => x.2) g) (tt := upT X.K tc) (te := up X.K te) hc hN hi ok hg ht he hs) up_lcP
theorem upS_setLc {K : PySem.W.Frag} {i : Nat} {t : TED} {tE : TE} (h : ∀ σ H Q, up K t σ H Q → tE σ H Q) : ∀ N σ H, upS K (dSet i t) N σ H → tAsg tE (gName i) N σ H := fun N σ H ⟨W, F, δ, lo, E, j, rel, sl, hl, t, L⟩ =>
  h σ H _ ⟨W, F, δ, _, j, rel, sl, t, fun v W1 d H1 S1 rel1 j1 i1 q => L.nx _ W1 _ H1 (S1.mono hl) rel1 j1 ((sl.to S1).set i1 i) (Nat.le_trans hl S1.lenLe) q⟩
theorem ds_setLc {i : Nat} {y : Str} {py spos : Pos} (hc : X.calm = true) (hN : X.N.Nodup) (hy : X.N[i]? = some y) (hyl : X.env.scope.names.lookup y = some .local)
    (hsw : swapsWith (.ListComp elt [⟨tg, iter, ifs, 0⟩] scope pos) (some (.Name y py)) spos.line X.env = pure true) (hi : DI X tg iter ti) (ok : BlkOk X.N X.env.scope scope own)
    (hg : ∀ (s : Shared) (H : Hp) (C : Addr) (cl : List (Str × Addr)) (fp : List Addr), DGw (X.blk s H scope (compEnvC scope cl C X.env) fp) (own.map (·.2)) tg g) (ht : ∀ (s : Shared) (H : Hp) (C : Addr) (cl : List (Str × Addr)) (fp : List Addr), DTs (X.blk s H scope (compEnvC scope cl C X.env) fp) ifs tc)
    (he : ∀ (s : Shared) (H : Hp) (C : Addr) (cl : List (Str × Addr)) (fp : List Addr), DE (X.blk s H scope (compEnvC scope cl C X.env) fp) elt te) (hs : ∀ x, foldedSetIterable iter X.env x = pure x := by intro _; rfl) :
    DS X (.Assign [.Name y py] (.ListComp elt [⟨tg, iter, ifs, 0⟩] scope pos) spos) (dSet i (dLc ti g tc te (own.map (·.2)))) := ps_imp (ps_setLc (g := upGw X.K (own.map fun x : Str × Nat => x.2) g) (tt := upT X.K tc) (te := up X.K te) hc hN hy hyl hsw hi ok hg ht he hs) (upS_setLc up_lc)
theorem ds_setLcP {i : Nat} {y : Str} {py spos : Pos} (hc : X.calm = true) (hN : X.N.Nodup) (hy : X.N[i]? = some y) (hyl : X.env.scope.names.lookup y = some .local)
    (hsw : swapsWith (.ListComp elt [⟨tg, iter, ifs, 0⟩] scope pos) (some (.Name y py)) spos.line X.env = pure true) (hi : DI X tg iter ti) (ok : BlkOk X.N X.env.scope scope own)
    (hg : ∀ (s : Shared) (H : Hp) (C : Addr) (cl : List (Str × Addr)) (fp : List Addr), DGw (X.blk s H scope (compEnvC scope cl C X.env) fp) (own.map (·.2)) tg g) (ht : ∀ (s : Shared) (H : Hp) (C : Addr) (cl : List (Str × Addr)) (fp : List Addr), DTs (X.blk s H scope (compEnvC scope cl C X.env) fp) ifs tc)
    (he : ∀ (s : Shared) (H : Hp) (C : Addr) (cl : List (Str × Addr)) (fp : List Addr), DE (X.blk s H scope (compEnvC scope cl C X.env) fp) elt te) (hs : ∀ x, foldedSetIterable iter X.env x = pure x := by intro _; rfl) :
    DS X (.Assign [.Name y py] (.ListComp elt [⟨tg, iter, ifs, 0⟩] scope pos) spos) (dSet i (dLcP ti g tc te (own.map (·.2)))) := ps_imp (ps_setLc (g := upGw X.K (own.map fun x : Str × Nat => x.2) g) (tt := upT X.K tc) (te := up X.K te) hc hN hy hyl hsw hi ok hg ht he hs) (upS_setLc up_lcP)
end
end DL
/-! DL4: operations on deep values. -/
namespace DL
open PySem PySem.Spec PyProof.Rows L2
/-! ### views -/
def asI (d : D) (Q : Int → Prop) : Prop := match d with
  | .int i => Q i
  | _ => False
def asS (d : D) (Q : Str → Prop) : Prop := match d with
  | .str s => Q s
  | _ => False
def lstAt (o : Option Cel) (Q : List D → Prop) : Prop := match o with
  | some (.lst ds) => Q ds
  | _ => False
/-- a list that stands in the heap -/
def asTL (cs : Cs) (d : D) (Q : List D → Prop) : Prop := match d with
  | .lst ds => Q ds
  | .ptr k => lstAt cs[k]? Q
  | _ => False
/-- a list that may be read -/
def asL (cs : Cs) (d : D) (Q : List D → Prop) : Prop := match d with
  | .lst ds => Q ds
  | .ptr k => lstAt cs[k]? Q
  | .scr ns => Q (ns.map .int)
  | _ => False
def dkAt (o : Option Cel) (Q : List (Key × D) → Prop) : Prop := match o with
  | some (.dK kvs) => Q kvs
  | _ => False
def asDk (cs : Cs) (d : D) (Q : List (Key × D) → Prop) : Prop := match d with
  | .ptr k => dkAt cs[k]? Q
  | _ => False
def asKey (d : D) (Q : Key → Prop) : Prop := match d with
  | .int i => Q (.inl i)
  | .str s => Q (.inr s)
  | _ => False
section
variable {K : PySem.W.Frag} {W : Wd} {F H : Hp} {d : D} {v : V}
theorem asI_is {Q : Int → Prop} (i : Is K W d v) (h : asI d Q) : ∃ n, v = .int n ∧ d = .int n ∧ Q n := by
  cases d <;> first | exact h.elim | exact ⟨_, i, rfl, h⟩
theorem asS_is {Q : Str → Prop} (i : Is K W d v) (h : asS d Q) : ∃ n, v = .str n ∧ d = .str n ∧ Q n := by
  cases d <;> first | exact h.elim | exact ⟨_, i, rfl, h⟩
theorem lstAt_is {o : Option Cel} {Q : List D → Prop} (h : lstAt o Q) : ∃ ds, o = some (.lst ds) ∧ Q ds := by
  cases o with
  | none => exact h.elim
  | some c => cases c <;> first | exact h.elim | exact ⟨_, rfl, h⟩
theorem dkAt_is {o : Option Cel} {Q : List (Key × D) → Prop} (h : dkAt o Q) : ∃ ds, o = some (.dK ds) ∧ Q ds := by
  cases o with
  | none => exact h.elim
  | some c => cases c <;> first | exact h.elim | exact ⟨_, rfl, h⟩
theorem ptr_cell (rel : Rel K W) {k : Nat} {c : Cel} (i : Is K W (.ptr k) v) (e : W.cs[k]? = some c) : ∃ a, v = .ref a ∧ W.al[k]? = some a ∧ CelIs K W a c := by
  obtain ⟨a, e1, r⟩ := i
  exact ⟨a, r, e1, rel.cel k a c e1 e⟩
theorem asTL_is {Q : List D → Prop} (rel : Rel K W) (j : Jn W.H F H) (i : Is K W d v) (h : asTL W.cs d Q) : ∃ a ds vs, v = .ref a ∧ H a = some (.lst vs) ∧ Iss K W ds vs ∧ Q ds := by
  cases d <;> first | exact h.elim | skip
  · rename_i k
    obtain ⟨ds, e, q⟩ := lstAt_is (show lstAt W.cs[k]? Q from h)
    obtain ⟨a, r, _, vs, e2, is⟩ := ptr_cell rel i e
    exact ⟨a, ds, vs, r, j.sub _ _ e2, is, q⟩
  · rename_i ds
    obtain ⟨a, vs, r, e, _, is⟩ := i
    exact ⟨a, ds, vs, r, j.sub _ _ e, is, h⟩
theorem asL_is {Q : List D → Prop} (rel : Rel K W) (j : Jn W.H F H) (i : Is K W d v) (h : asL W.cs d Q) : ∃ a ds vs, v = .ref a ∧ SqL K H a vs ∧ Iss K W ds vs ∧ Q ds := by
  cases d <;> first | exact h.elim | skip
  · rename_i k
    obtain ⟨ds, e, q⟩ := lstAt_is (show lstAt W.cs[k]? Q from h)
    obtain ⟨a, r, _, vs, e2, is⟩ := ptr_cell rel i e
    exact ⟨a, ds, vs, r, .of (j.sub _ _ e2), is, q⟩
  · rename_i ds
    obtain ⟨a, vs, r, e, _, is⟩ := i
    exact ⟨a, ds, vs, r, .of (j.sub _ _ e), is, h⟩
  · rename_i ns
    obtain ⟨a, r, e⟩ := i
    refine ⟨a, _, ns.map V.int, r, ?_, Iss.map (f := D.int) (g := V.int) (fun _ => by exact rfl) ns, h⟩
    rcases e with ⟨o, e, _⟩ | e
    · exact .inl (.inr ⟨o, j.sub _ _ e⟩)
    · exact .inr e
theorem asDk_is {Q : List (Key × D) → Prop} (rel : Rel K W) (j : Jn W.H F H) (i : Is K W d v) (h : asDk W.cs d Q) : ∃ k a ds vs, d = .ptr k ∧ v = .ref a ∧ W.al[k]? = some a ∧ W.cs[k]? = some (.dK ds) ∧ W.H a = some (.dK vs) ∧ IsK K W ds vs ∧ Q ds := by
  cases d <;> first | exact h.elim | skip
  rename_i k
  obtain ⟨ds, e, q⟩ := dkAt_is (show dkAt W.cs[k]? Q from h)
  obtain ⟨a, r, ea, vs, e2, is⟩ := ptr_cell rel i e
  exact ⟨k, a, ds, vs, rfl, r, ea, e, e2, is, q⟩
theorem asKey_is {Q : Key → Prop} (i : Is K W d v) (h : asKey d Q) : ∃ k, v = kV k ∧ Q k := by
  cases d <;> first | exact h.elim | skip
  · exact ⟨.inl _, i, h⟩
  · exact ⟨.inr _, i, h⟩
theorem iss_atI {ds : List D} {vs : List V} {z : Int} {x : D} (is : Iss K W ds vs) (h : atI ds z = some x) : ∃ u, atI vs z = some u ∧ Is K W x u := by
  unfold atI at h ⊢
  rw [← iss_len is]
  cases e : ixN ds.length z with
  | none => rw [e] at h; cases h
  | some n =>
    rw [e] at h
    obtain ⟨u, e2, q⟩ := is.get (show ds[n]? = some x from h)
    exact ⟨u, e2, q⟩
end
/-! ### numbers -/
def dI2 (C : Int → Int → Prop) (g : Int → Int → D) : R2D := fun x y cs Q => asI x fun i => asI y fun j => C i j ∧ Q (g i j) cs
def dI0 (g : Int → Int → D) : R2D := fun x y cs Q => asI x fun i => asI y fun j => Q (g i j) cs
section
variable {K : PySem.W.Frag}
theorem ok_I {C : Int → Int → Prop} {g : Int → Int → D} {g' : Int → Int → V} (h : ∀ W i j, Is K W (g i j) (g' i j)) : Ok2 K (rI C g') (dI2 C g) := fun W F H x y dx dy Q R j rel ix iy r k => by
  obtain ⟨n, rfl, rfl, r⟩ := asI_is ix r
  obtain ⟨m, rfl, rfl, c, r⟩ := asI_is iy r
  exact ⟨n, m, rfl, rfl, c, k _ W _ H .refl rel j (h W n m) r⟩
theorem ok_I0 {g : Int → Int → D} {g' : Int → Int → V} (h : ∀ W i j, Is K W (g i j) (g' i j)) : Ok2 K (rI0 g') (dI0 g) := fun W F H x y dx dy Q R j rel ix iy r k => by
  obtain ⟨n, rfl, rfl, r⟩ := asI_is ix r
  obtain ⟨m, rfl, rfl, r⟩ := asI_is iy r
  exact ⟨n, m, rfl, rfl, k _ W _ H .refl rel j (h W n m) r⟩
end
def dNeg : D → Cs → QD → Prop := fun x cs Q => asI x fun i => Q (.int (-i)) cs
section
variable {X : Cx} {a b : Expr} {ta tb : TED} {pos : Pos}
theorem de_sub (ha : DE X a ta) (hb : DE X b tb) : DE X (.BinOp a .Sub b pos) (dOp (dI0 fun i j => .int (i - j)) ta tb) := de_op op_sub (ok_I0 fun _ _ _ => rfl) ha hb
/-- a factor within 64 bits, or both together below a million bits -/
def CM (i j : Int) : Prop := CMul i j ∨ CMulW i j
theorem op_mulU : OpR X (binaryOp .Mult) (rI CM fun i j => .int (i * j)) := opI fun _ _ _ _ _ _ _ hc q => mul_int q (hc.elim CMul.ok CMulW.ok)
theorem de_fdiv (ha : DE X a ta) (hb : DE X b tb) : DE X (.BinOp a .FloorDiv b pos) (dOp (dI2 CDiv fun i j => .int (i / j)) ta tb) := de_op op_fdiv (ok_I fun _ _ _ => rfl) ha hb
theorem de_mod (ha : DE X a ta) (hb : DE X b tb) : DE X (.BinOp a .Mod b pos) (dOp (dI2 (fun _ j => 0 < j) fun i j => .int (i % j)) ta tb) := de_op op_mod (ok_I fun _ _ _ => rfl) ha hb
theorem de_pow (ha : DE X a ta) (hb : DE X b tb) : DE X (.BinOp a .Pow b pos) (dOp (dI2 CPow fun i j => .int (i ^ j.toNat)) ta tb) := de_op op_pow (ok_I fun _ _ _ => rfl) ha hb
theorem de_neg (ha : DE X a ta) : DE X (.UnaryOp .USub a pos) (dUn dNeg ta) := de_un un_neg (fun W F H x dx Q R j rel ix r k => by
  obtain ⟨n, rfl, rfl, r⟩ := asI_is ix r
  exact ⟨n, rfl, k _ W (.int (-n)) H .refl rel j rfl r⟩) ha
end
/-! ### + -/
def rAddU (K : PySem.W.Frag) : R2 := fun x y H Q => (rI0 (fun i j => .int (i + j)) x y H Q ∨ (∃ i j, x = .str i ∧ y = .str j ∧ i.length + j.length ≤ sizeLine ∧ Q (.str (i ++ j)) H)) ∨ (rCat x y H Q ∨ rCatT K x y H Q)
def rAddD : R2D := fun x y cs Q => match x, y with
  | .int i, .int j => Q (.int (i + j)) cs
  | .str s, .str t => s.length + t.length ≤ sizeLine ∧ Q (.str (s ++ t)) cs
  | .tup a, .tup b => a ≠ [] ∧ a.length + b.length ≤ sizeLine ∧ Q (.tup (a ++ b)) cs
  | x, y => asTL cs x fun a => asTL cs y fun b => a.length + b.length ≤ sizeLine ∧ Q (.lst (a ++ b)) cs
theorem iss_ne {K : PySem.W.Frag} {W : Wd} {ds : List D} {vs : List V} (h : Iss K W ds vs) (n : ds ≠ []) : vs ≠ [] := fun e => by
  subst e
  cases ds with
  | nil => exact n rfl
  | cons d ds => obtain ⟨v, r, e, _⟩ := h; cases e
theorem ok_add {K : PySem.W.Frag} : Ok2 K (rAddU K) rAddD := fun W F H x y dx dy Q R j rel ix iy r k => by
  have lists : (asTL W.cs dx fun a => asTL W.cs dy fun b => a.length + b.length ≤ sizeLine ∧ R (.lst (a ++ b)) W.cs) → rAddU K x y H Q := fun r => by
    obtain ⟨a, da, va, rfl, ea, ia, r⟩ := asTL_is rel j ix r
    obtain ⟨b, db, vb, rfl, eb, ib, hz, r⟩ := asTL_is rel j iy r
    refine .inr (.inl ⟨a, b, va, vb, rfl, rfl, ea, eb, by rw [← iss_len ia, ← iss_len ib]; exact hz, fun p hp => ?_⟩)
    exact k (.ref p) (W.add p (.lst (va ++ vb))) (.lst (da ++ db)) _ (add_stp (j.none hp) _) (rel.add (j.none hp) _) (j.new hp _) (rel.newLst (j.none hp) (ia.append ib)) r
  cases dx <;> cases dy <;> first
    | exact lists r
    | skip
  · cases ix; cases iy
    exact .inl (.inl ⟨_, _, rfl, rfl, k _ W (.int _) H .refl rel j rfl r⟩)
  · cases ix; cases iy
    exact .inl (.inr ⟨_, _, rfl, rfl, r.1, k _ W (.str _) H .refl rel j rfl r.2⟩)
  · rename_i ds es
    obtain ⟨a, va, rfl, ea, na, ia⟩ := ix
    obtain ⟨b, vb, rfl, eb, nb, ib⟩ := iy
    obtain ⟨hn, hz, r⟩ := r
    refine .inr (.inr ⟨a, b, va, vb, rfl, rfl, .of (j.sub _ _ ea), .of (j.sub _ _ eb), iss_ne ia hn, by rw [← iss_len ia, ← iss_len ib]; exact hz, fun e => ?_, fun e p hp => ?_⟩)
    · subst e
      have : es = [] := by cases es with
        | nil => rfl
        | cons e es => obtain ⟨v, r, e, _⟩ := ib; cases e
      subst this
      rw [List.append_nil] at r
      exact k _ W (.tup ds) H .refl rel j ⟨a, va, rfl, ea, na, ia⟩ r
    · exact k (.ref p) (W.add p (.tup (va ++ vb))) (.tup (ds ++ es)) _ (add_stp (j.none hp) _) (rel.add (j.none hp) _) (j.new hp _) (rel.newTup (j.none hp) (ia.append ib)) r
section
variable {X : Cx} {a b : Expr} {ta tb : TED} {pos : Pos}
theorem op_addU : OpR X (binaryOp .Add) (rAddU X.K) := OpR.or (OpR.or op_add op_add_str) (OpR.or op_cat op_catT)
theorem de_add (ha : DE X a ta) (hb : DE X b tb) : DE X (.BinOp a .Add b pos) (dOp rAddD ta tb) := de_op op_addU ok_add ha hb
end
/-! ### * -/
def rMulU : R2 := fun x y H Q => rI CM (fun i j => .int (i * j)) x y H Q ∨ rRep x y H Q
def repD (ds : List D) (k : Int) : List D := (List.replicate k.toNat ds).flatten
def rMulD : R2D := fun x y cs Q => match x, y with
  | .int i, .int j => CM i j ∧ Q (.int (i * j)) cs
  | x, .int k => asTL cs x fun ds => -(2 ^ 63) ≤ k ∧ k < 2 ^ 63 ∧ ds.length * k.toNat ≤ sizeLine ∧ Q (.lst (repD ds k)) cs
  | _, _ => False
theorem Iss.rep {K : PySem.W.Frag} {W : Wd} {ds : List D} {vs : List V} (h : Iss K W ds vs) : ∀ n : Nat, Iss K W (List.replicate n ds).flatten (List.replicate n vs).flatten
  | 0 => rfl
  | n + 1 => by
    rw [List.replicate_succ, List.replicate_succ, List.flatten_cons, List.flatten_cons]
    exact h.append (Iss.rep h n)
theorem ok_mul {K : PySem.W.Frag} : Ok2 K rMulU rMulD := fun W F H x y dx dy Q R j rel ix iy r k => by
  have lists : ∀ (n : Int), dy = .int n → (asTL W.cs dx fun ds => -(2 ^ 63) ≤ n ∧ n < 2 ^ 63 ∧ ds.length * n.toNat ≤ sizeLine ∧ R (.lst (repD ds n)) W.cs) → rMulU x y H Q := fun n e r2 => by
    have iy2 : y = .int n := by rw [e] at iy; exact iy
    obtain ⟨a, da, va, rfl, ea, ia, h1, h2, hz, r⟩ := asTL_is rel j ix r2
    refine .inr ⟨a, n, va, rfl, iy2, ea, h1, h2, by rw [← iss_len ia]; exact hz, fun p hp => ?_⟩
    exact k (.ref p) (W.add p (.lst (List.replicate n.toNat va).flatten)) (.lst (repD da n)) _ (add_stp (j.none hp) _) (rel.add (j.none hp) _) (j.new hp _) (rel.newLst (j.none hp) (ia.rep _)) r
  cases dy <;> first
    | (cases dx <;> exact (show False from r).elim)
    | skip
  rename_i n
  cases dx <;> first
    | exact lists _ rfl r
    | skip
  obtain ⟨c, r⟩ := (show CM _ n ∧ R (.int (_ * n)) W.cs from r)
  exact .inl ⟨_, n, ix, iy, c, k _ W (.int _) H .refl rel j rfl r⟩
section
variable {X : Cx} {a b : Expr} {ta tb : TED} {pos : Pos}
theorem de_mul (ha : DE X a ta) (hb : DE X b tb) : DE X (.BinOp a .Mult b pos) (dOp rMulD ta tb) := de_op (OpR.or op_mulU op_rep) ok_mul ha hb
end
/-! ### comparisons of order -/
def rOrdU (p : Int → Int → Bool) (q : List Nat → List Nat → Bool) : R2 := fun x y H Q => rI0 (fun i j => .bl (p i j)) x y H Q ∨ ∃ i j, x = .str i ∧ y = .str j ∧ Q (.bl (q i.cps.toList j.cps.toList)) H
def rOrdD (p : Int → Int → Bool) (q : List Nat → List Nat → Bool) : R2D := fun x y cs Q => match x, y with
  | .int i, .int j => Q (.bl (p i j)) cs
  | .str s, .str t => Q (.bl (q s.cps.toList t.cps.toList)) cs
  | _, _ => False
theorem ok_ord {K : PySem.W.Frag} {p : Int → Int → Bool} {q : List Nat → List Nat → Bool} : Ok2 K (rOrdU p q) (rOrdD p q) := fun W F H x y dx dy Q R j rel ix iy r k => by
  cases dx <;> first
    | exact (show False from r).elim
    | skip
  · cases dy <;> first
      | exact (show False from r).elim
      | exact .inl ⟨_, _, ix, iy, k _ W (.bl _) H .refl rel j rfl r⟩
  · cases dy <;> first
      | exact (show False from r).elim
      | exact .inr ⟨_, _, ix, iy, k _ W (.bl _) H .refl rel j rfl r⟩
abbrev qlt : List Nat → List Nat → Bool := fun a b => decide (a < b)
section
variable {X : Cx} {a b : Expr} {ta tb : TED} {pos : Pos}
abbrev pLt : Int → Int → Bool := fun i j => decide (i < j)
abbrev pLe : Int → Int → Bool := fun i j => decide (i ≤ j)
abbrev pGt : Int → Int → Bool := fun i j => decide (j < i)
abbrev pGe : Int → Int → Bool := fun i j => decide (j ≤ i)
abbrev qLt : List Nat → List Nat → Bool := fun s t => decide (s < t)
abbrev qLe : List Nat → List Nat → Bool := fun s t => !decide (t < s)
abbrev qGt : List Nat → List Nat → Bool := fun s t => decide (t < s)
abbrev qGe : List Nat → List Nat → Bool := fun s t => !decide (s < t)
theorem op_ltU : OpR X (compareOp .Lt) (rOrdU pLt qLt) := OpR.or op_lt op_lt_str
theorem op_leU : OpR X (compareOp .LtE) (rOrdU pLe qLe) := OpR.or op_le op_le_str
theorem op_gtU : OpR X (compareOp .Gt) (rOrdU pGt qGt) := OpR.or op_gt op_gt_str
theorem op_geU : OpR X (compareOp .GtE) (rOrdU pGe qGe) := OpR.or op_ge op_ge_str
end
/-! ### == -/
mutual
def pd : D → Option PyData
  | .non => some .none
  | .bl b => some (.bool b)
  | .int i => some (.int i)
  | .str s => some (.str s)
  | .lst ds => match pds ds with
    | some l => some (.list l)
    | none => none
  | .tup ds => match pds ds with
    | some l => some (.tuple l)
    | none => none
  | _ => none
def pds : List D → Option (List PyData)
  | [] => some []
  | d :: ds => match pd d, pds ds with
    | some x, some l => some (x :: l)
    | _, _ => none
end
/-- data to be compared; a cell of data, too -/
def asPd (cs : Cs) (d : D) (Q : PyData → Prop) : Prop := match d with
  | .ptr k => lstAt cs[k]? fun ds => ∃ l, pds ds = some l ∧ Q (.list l)
  | d => ∃ x, pd d = some x ∧ Q x
section
variable {K : PySem.W.Frag} {W : Wd} {F H : Hp}
mutual
theorem pd_dp (j : Jn W.H F H) : ∀ (d : D) (v : V) (x : PyData), Is K W d v → pd d = some x → Dp K H v x
  | .non, v, x, i, e => by cases i; cases e; exact .non
  | .bl b, v, x, i, e => by cases i; cases e; exact .bl b
  | .int b, v, x, i, e => by cases i; cases e; exact .int b
  | .str b, v, x, i, e => by cases i; cases e; exact .str b
  | .lst ds, v, x, i, e => by
    obtain ⟨a, vs, rfl, h, _, is⟩ := i
    unfold pd at e
    cases e2 : pds ds with
    | none => rw [e2] at e; cases e
    | some l =>
      rw [e2] at e; cases e
      exact .lst (.of (j.sub _ _ h)) (pds_dp j ds vs l is e2)
  | .tup ds, v, x, i, e => by
    obtain ⟨a, vs, rfl, h, _, is⟩ := i
    unfold pd at e
    cases e2 : pds ds with
    | none => rw [e2] at e; cases e
    | some l =>
      rw [e2] at e; cases e
      exact .tup (.of (j.sub _ _ h)) (pds_dp j ds vs l is e2)
  | .ty _, v, x, i, e => by cases e
  | .adr _, v, x, i, e => by cases e
  | .ptr _, v, x, i, e => by cases e
  | .obj _ _ _, v, x, i, e => by cases e
  | .scr _, v, x, i, e => by cases e
theorem pds_dp (j : Jn W.H F H) : ∀ (ds : List D) (vs : List V) (xs : List PyData), Iss K W ds vs → pds ds = some xs → DpAll K H vs xs
  | [], vs, xs, i, e => by cases (show vs = [] from i); cases e; exact .nil
  | d :: ds, vs, xs, i, e => by
    obtain ⟨v, r, rfl, h1, h2⟩ := i
    unfold pds at e
    cases e1 : pd d with
    | none => rw [e1] at e; cases e
    | some y =>
      cases e2 : pds ds with
      | none => rw [e1, e2] at e; cases e
      | some l =>
        rw [e1, e2] at e; cases e
        exact .cons (pd_dp j d v y h1 e1) (pds_dp j ds r l h2 e2)
end
theorem asPd_is {d : D} {v : V} {Q : PyData → Prop} (rel : Rel K W) (j : Jn W.H F H) (i : Is K W d v) (h : asPd W.cs d Q) : ∃ x, Dp K H v x ∧ Q x := by
  cases d with
  | ptr k =>
    obtain ⟨ds, e, l, e2, q⟩ := lstAt_is (show lstAt W.cs[k]? _ from h)
    obtain ⟨a, rfl, _, vs, e3, is⟩ := ptr_cell rel i e
    exact ⟨_, .lst (.of (j.sub _ _ e3)) (pds_dp j ds vs l is e2), q⟩
  | _ =>
    obtain ⟨x, e, q⟩ := h
    exact ⟨x, pd_dp j _ v x i e, q⟩
end
def scalD : D → D → Option Bool
  | .non, .non => some true | .non, .int _ => some false | .int _, .non => some false | .non, .bl _ => some false | .bl _, .non => some false | .non, .str _ => some false | .str _, .non => some false
  | .int i, .int j => some (decide (i = j)) | .bl i, .bl j => some (decide (i = j)) | .str i, .str j => some (decide (i = j))
  | .int _, .str _ => some false | .str _, .int _ => some false | .bl _, .str _ => some false | .str _, .bl _ => some false
  | _, _ => none
def eqQ (o : Option Bool) (Q : Bool → Prop) (E : Prop) : Prop := match o with
  | some b => Q b
  | none => E
def rEqG (f : Bool → Bool) : R2D := fun x y cs Q => eqQ (scalD x y) (fun b => Q (.bl (f b)) cs) (asPd cs x fun d => asPd cs y fun e => SeqAt.shaped d = true ∧ SeqAt.shaped e = true ∧ Q (.bl (f (PyData.eqv d e))) cs)
abbrev rEqDD : R2D := rEqG id
abbrev rNeDD : R2D := rEqG not
def rEqU (K : PySem.W.Frag) : R2 := fun x y H Q => rEq x y H Q ∨ rEqD K x y H Q
def rNeU (K : PySem.W.Frag) : R2 := fun x y H Q => rNe x y H Q ∨ rNeD K x y H Q
theorem scalD_is {K : PySem.W.Frag} {W : Wd} {x y : D} {v u : V} {b : Bool} (i : Is K W x v) (h : Is K W y u) (e : scalD x y = some b) : scal v u = true ∧ decide (v = u) = b := by
  cases x <;> cases y <;> first
    | (cases e; done)
    | (cases i; cases h; injection e with e; subst e; exact ⟨rfl, by simp⟩)
theorem ok_eqU {K : PySem.W.Frag} : Ok2 K (rEqU K) rEqDD := fun W F H x y dx dy Q R j rel ix iy r k => by
  unfold rEqDD rEqG eqQ at r
  cases e : scalD dx dy with
  | some b =>
    rw [e] at r
    obtain ⟨h1, h2⟩ := scalD_is ix iy e
    exact .inl ⟨h1, by rw [h2]; exact k (.bl b) W (.bl b) H .refl rel j rfl r⟩
  | none =>
    rw [e] at r
    obtain ⟨d, h1, r⟩ := asPd_is rel j ix r
    obtain ⟨e, h2, s1, s2, r⟩ := asPd_is rel j iy r
    exact .inr ⟨d, e, h1, h2, s1, s2, k _ W (.bl _) H .refl rel j rfl r⟩
theorem ok_neU {K : PySem.W.Frag} : Ok2 K (rNeU K) rNeDD := fun W F H x y dx dy Q R j rel ix iy r k => by
  unfold rNeDD rEqG eqQ at r
  cases e : scalD dx dy with
  | some b =>
    rw [e] at r
    obtain ⟨h1, h2⟩ := scalD_is ix iy e
    exact .inl ⟨h1, by rw [h2]; exact k (.bl (!b)) W (.bl (!b)) H .refl rel j rfl r⟩
  | none =>
    rw [e] at r
    obtain ⟨d, h1, r⟩ := asPd_is rel j ix r
    obtain ⟨e, h2, s1, s2, r⟩ := asPd_is rel j iy r
    exact .inr ⟨d, e, h1, h2, s1, s2, k _ W (.bl _) H .refl rel j rfl r⟩
section
variable {X : Cx}
theorem op_eqU (hu : X.A.units + 64 < cLine) : OpR X (compareOp .Eq) (rEqU X.K) := OpR.or op_eq (op_eqD hu)
theorem op_neU (hu : X.A.units + 64 < cLine) : OpR X (compareOp .NotEq) (rNeU X.K) := OpR.or op_ne (op_neD hu)
end
/-! ### is None -/
def isNonD : D → Bool
  | .non => true
  | _ => false
def rIsND (f : Bool → Bool) : R2D := fun x y cs Q => match y with
  | .non => Q (.bl (f (isNonD x))) cs
  | _ => False
theorem isNon_is {K : PySem.W.Frag} {W : Wd} {x : D} {v : V} (i : Is K W x v) : decide (v = .non) = isNonD x := by
  cases x <;> first
    | (cases i; rfl)
    | (obtain ⟨a, _, r⟩ := i; subst r; rfl)
    | (obtain ⟨a, _, r, _⟩ := i; subst r; rfl)
    | (obtain ⟨a, _, _, r, _⟩ := i; subst r; rfl)
    | (obtain ⟨a, r, _⟩ := i; subst r; rfl)
theorem ok_isN {K : PySem.W.Frag} : Ok2 K (fun x y H Q => y = .non ∧ Q (.bl (decide (x = .non))) H) (rIsND id) := fun W F H x y dx dy Q R j rel ix iy r k => by
  cases dy <;> first | exact (show False from r).elim | skip
  exact ⟨iy, by rw [isNon_is ix]; exact k (.bl _) W (.bl _) H .refl rel j rfl r⟩
theorem ok_notN {K : PySem.W.Frag} : Ok2 K (fun x y H Q => y = .non ∧ Q (.bl (!decide (x = .non))) H) (rIsND not) := fun W F H x y dx dy Q R j rel ix iy r k => by
  cases dy <;> first | exact (show False from r).elim | skip
  exact ⟨iy, by rw [isNon_is ix]; exact k (.bl _) W (.bl _) H .refl rel j rfl r⟩
/-! ### in -/
def flatD : D → Bool
  | .non => true
  | .bl _ => true
  | .int _ => true
  | .str _ => true
  | _ => false
def toV : D → V
  | .bl b => .bl b
  | .int i => .int i
  | .str s => .str s
  | _ => .non
def inD (x : D) (ds : List D) : Bool := ds.any fun y => eqV (toV y) (toV x)
theorem flat_is {K : PySem.W.Frag} {W : Wd} {x : D} {v : V} (f : flatD x = true) (i : Is K W x v) : v = toV x ∧ flatV v = true := by
  cases x <;> first | (cases f; done) | (cases i; exact ⟨rfl, rfl⟩)
theorem flats_is {K : PySem.W.Frag} {W : Wd} : ∀ {ds : List D} {vs : List V}, ds.all flatD = true → Iss K W ds vs → vs = ds.map toV ∧ vs.all flatV = true
  | [], vs, _, i => by cases (show vs = [] from i); exact ⟨rfl, rfl⟩
  | d :: ds, vs, f, i => by
    obtain ⟨v, r, rfl, h1, h2⟩ := i
    rw [List.all_cons, Bool.and_eq_true] at f
    obtain ⟨e1, f1⟩ := flat_is f.1 h1
    obtain ⟨e2, f2⟩ := flats_is f.2 h2
    exact ⟨by rw [e1, e2]; rfl, by rw [List.all_cons, f1, f2]; rfl⟩
def valG {κ β : Type} [DecidableEq κ] (kvs : List (κ × β)) (k : κ) : Option β := (kvs.find? fun kv => decide (kv.1 = k)).map (·.2)
theorem isK_val {K : PySem.W.Frag} {W : Wd} {k : Key} : ∀ {kvs : List (Key × D)} {vs : List (Key × V)}, IsK K W kvs vs → (∀ d, valG kvs k = some d → ∃ v, valV vs k = some v ∧ Is K W d v) ∧ (valG kvs k = none → valV vs k = none)
  | [], vs, i => by
    cases (show vs = [] from i)
    exact ⟨fun d e => by (cases e), fun _ => rfl⟩
  | (k', d) :: r, vs, i => by
    obtain ⟨v, s, rfl, h1, h2⟩ := i
    obtain ⟨i1, i2⟩ := isK_val (k := k) h2
    by_cases e : k' = k
    · have e1 : valG ((k', d) :: r) k = some d := by simp [valG, List.find?_cons, e]
      have e2 : valV ((k', v) :: s) k = some v := valV_pos e
      rw [e1, e2]
      exact ⟨fun d' q => by cases q; exact ⟨v, rfl, h1⟩, fun q => by cases q⟩
    · have e1 : valG ((k', d) :: r) k = valG r k := by simp [valG, List.find?_cons, e]
      have e2 : valV ((k', v) :: s) k = valV s k := valV_neg e
      rw [e1, e2]
      exact ⟨i1, i2⟩
theorem isK_some {K : PySem.W.Frag} {W : Wd} {k : Key} {kvs : List (Key × D)} {vs : List (Key × V)} (i : IsK K W kvs vs) : (valV vs k).isSome = (valG kvs k).isSome := by
  obtain ⟨h1, h2⟩ := isK_val (k := k) i
  cases e : valG kvs k with
  | none => rw [h2 e]; rfl
  | some d => obtain ⟨v, e2, _⟩ := h1 d e; rw [e2]; rfl
def inC (x : D) (f : Bool → Bool) (Q : D → Prop) : Option Cel → Prop
  | some (.lst ds) => flatD x = true ∧ ds.all flatD = true ∧ Q (.bl (f (inD x ds)))
  | some (.dK kvs) => asKey x fun k => Q (.bl (f (valG kvs k).isSome))
  | _ => False
def rInD (f : Bool → Bool) : R2D := fun x y cs Q => match y with
  | .lst ds => flatD x = true ∧ ds.all flatD = true ∧ Q (.bl (f (inD x ds))) cs
  | .tup ds => flatD x = true ∧ ds.all flatD = true ∧ Q (.bl (f (inD x ds))) cs
  | .scr ns => flatD x = true ∧ Q (.bl (f (inD x (ns.map .int)))) cs
  | .ptr k => inC x f (fun d => Q d cs) cs[k]?
  | .str t => asS x fun s => Q (.bl (f (!(Builtin.Str.occurrences t s 0 t.length 1).isEmpty))) cs
  | _ => False
def rInU (K : PySem.W.Frag) (neg : Bool) (f : Bool → Bool) : R2 := fun x y H Q => (rIn K neg x y H Q ∨ ∃ a o, y = .ref a ∧ DGet H a x o ∧ Q (.bl (f o.isSome)) H) ∨ ∃ i j, x = .str i ∧ y = .str j ∧ Q (.bl (f (!(Builtin.Str.occurrences j i 0 j.length 1).isEmpty))) H
theorem ok_inU {K : PySem.W.Frag} {neg : Bool} {f : Bool → Bool} (hf : ∀ b, (if neg then !b else b) = f b) : Ok2 K (rInU K neg f) (rInD f) := fun W F H x y dx dy Q R j rel ix iy r k => by
  have seq : ∀ (a : Addr) (ds : List D) (vs : List V), y = .ref a → (SqL K H a vs ∨ SqT K H a vs) → Iss K W ds vs → flatD dx = true → ds.all flatD = true → R (.bl (f (inD dx ds))) W.cs → rInU K neg f x y H Q := by
    intro a ds vs e hs is f1 f2 r
    obtain ⟨e1, v1⟩ := flat_is f1 ix
    obtain ⟨e2, v2⟩ := flats_is f2 is
    refine .inl (.inl ⟨a, vs, e, hs, v1, v2, ?_⟩)
    have e3 : (if neg then !inV x vs else inV x vs) = f (inD dx ds) := by
      rw [← hf]
      have : inV x vs = inD dx ds := by
        unfold inV inD
        rw [e2, e1, List.any_map]
        rfl
      rw [this]
    rw [e3]
    exact k (.bl _) W (.bl _) H .refl rel j rfl r
  cases dy <;> first | exact (show False from r).elim | skip
  · obtain ⟨s, rfl, rfl, r⟩ := asS_is ix r
    exact .inr ⟨s, _, rfl, iy, k (.bl _) W (.bl _) H .refl rel j rfl r⟩
  · rename_i n
    have r' : inC dx f (fun d => R d W.cs) W.cs[n]? := r
    cases e : W.cs[n]? with
    | none => rw [e] at r'; exact r'.elim
    | some c =>
      rw [e] at r'
      obtain ⟨a, ev, _, ci⟩ := ptr_cell rel iy e
      cases c <;> first | exact r'.elim | skip
      · obtain ⟨f1, f2, r⟩ := r'
        obtain ⟨vs, h1, is⟩ := ci
        exact seq a _ vs ev (.inl (.of (j.sub _ _ h1))) is f1 f2 r
      · rename_i kvs
        obtain ⟨key, rfl, r⟩ := asKey_is ix (show asKey dx fun k => R (.bl (f (valG kvs k).isSome)) W.cs from r')
        obtain ⟨vs, h1, is⟩ := ci
        refine .inl (.inr ⟨a, valV vs key, ev, .k (j.sub _ _ h1), ?_⟩)
        rw [isK_some is]
        exact k (.bl _) W (.bl _) H .refl rel j rfl r
  · obtain ⟨f1, f2, r⟩ := r
    obtain ⟨a, vs, e, h1, _, is⟩ := iy
    exact seq a _ vs e (.inl (.of (j.sub _ _ h1))) is f1 f2 r
  · obtain ⟨f1, f2, r⟩ := r
    obtain ⟨a, vs, e, h1, _, is⟩ := iy
    exact seq a _ vs e (.inr (.of (j.sub _ _ h1))) is f1 f2 r
  · rename_i ns
    obtain ⟨f1, r⟩ := r
    obtain ⟨a, ds, vs, e, h1, is, _⟩ := asL_is (Q := fun ds => ds = ns.map D.int) rel j iy rfl
    rename_i hq
    subst hq
    refine seq a _ vs e (.inl h1) is f1 ?_ r
    rw [List.all_map]
    exact List.all_eq_true.mpr fun _ _ => rfl
section
variable {X : Cx}
theorem op_inU (hu : X.A.units + 1 < cLine) : OpR X (compareOp .In) (rInU X.K false id) := by
  refine OpR.or (OpR.or op_in_seq ?_) op_in_str
  intro pins s σ H x y v u Q I rx ry h
  obtain ⟨a, o, rfl, g, q⟩ := h
  cases ry
  exact d_in hu I g rx fun s' I' => ⟨.bl _, H, I', rfl, q⟩
theorem op_notInU (hu : X.A.units + 1 < cLine) : OpR X (compareOp .NotIn) (rInU X.K true not) := by
  refine OpR.or (OpR.or op_notIn_seq ?_) op_notIn_str
  intro pins s σ H x y v u Q I rx ry h
  obtain ⟨a, o, rfl, g, q⟩ := h
  cases ry
  exact d_notIn hu I g rx fun s' I' => ⟨.bl _, H, I', rfl, q⟩
end
theorem ok_in {K : PySem.W.Frag} : Ok2 K (rInU K false id) (rInD id) := ok_inU fun _ => rfl
theorem ok_notIn {K : PySem.W.Frag} : Ok2 K (rInU K true not) (rInD not) := ok_inU fun _ => rfl
end DL
/-! DL5: calls of built-ins, subscripts, dicts, what is walked. -/
namespace DL
open PySem PySem.Spec PyProof.Rows L2
/-! ### calls of built-ins -/
abbrev RND := List D → Cs → QD → Prop
def dCB (r' : RND) (t : TAD) : TED := fun δ cs Q => t δ cs fun ds c1 => r' ds c1 Q
theorem up_cb {K : PySem.W.Frag} {r : List V → Hp → VK → Prop} {r' : RND} {t : TAD} (ok : OkN K r r') : ∀ σ H Q, up K (dCB r' t) σ H Q → tCB r (upA K t) σ H Q := fun σ H Q ⟨W, F, δ, R, j, rel, sl, t, k⟩ =>
  ⟨W, F, δ, _, j, rel, sl, t, fun vs W1 ds H1 S1 rel1 j1 is q => ok W1 F H1 vs ds Q R j1 rel1 is q (k.to S1)⟩
section
variable {X : Cx} {x : Str} {p pos : Pos} {e : Expr} {es : List Expr} {t : TAD} {id T : String} {r : List V → Hp → VK → Prop} {r' : RND}
theorem de_callB (hc : CallR X (.builtin id) r) (ok : OkN X.K r r') (hg : Gl X x) (hm : X.mg x = none) (hv : bootBuiltins x = some (.builtin id)) (ha : DA X (e :: es) t) (hn : x ≠ "__name__" := by decide) (hdb : (x == ("__debug__" : Str)) = false := by decide)
    (he : starEach (e :: es) X.env = (false, eval e X.env) :: starEach es X.env := by rfl) (hpl : (backTo pos (starEach es X.env)).any (·.1) = false := by rfl) : DE X (.Call (.Name x p) (e :: es) [] pos) (dCB r' t) :=
  pe_imp (pe_callB hc hg hm hv ha hn hdb he hpl) (up_cb ok)
theorem de_callTy (hc : CallR X (.type T) r) (ok : OkN X.K r r') (hg : Gl X x) (hm : X.mg x = none) (hv : bootBuiltins x = some (.type T)) (ha : DA X (e :: es) t) (hn : x ≠ "__name__" := by decide) (hdb : (x == ("__debug__" : Str)) = false := by decide)
    (he : starEach (e :: es) X.env = (false, eval e X.env) :: starEach es X.env := by rfl) (hpl : (backTo pos (starEach es X.env)).any (·.1) = false := by rfl) : DE X (.Call (.Name x p) (e :: es) [] pos) (dCB r' t) :=
  pe_imp (pe_callTy hc hg hm hv ha hn hdb he hpl) (up_cb ok)
end
/-- one argument, two -/
def one (f : D → Cs → QD → Prop) : RND := fun ds cs Q => match ds with
  | [d] => f d cs Q
  | _ => False
def two (f : D → D → Cs → QD → Prop) : RND := fun ds cs Q => match ds with
  | [d, e] => f d e cs Q
  | _ => False
section
variable {K : PySem.W.Frag} {W : Wd}
theorem one_is {f : D → Cs → QD → Prop} {ds : List D} {vs : List V} {R : QD} (is : Iss K W ds vs) (h : one f ds W.cs R) : ∃ d v, ds = [d] ∧ vs = [v] ∧ Is K W d v ∧ f d W.cs R := by
  unfold one at h
  split at h
  · obtain ⟨v, r, rfl, h1, h2⟩ := is
    cases (show r = [] from h2)
    exact ⟨_, v, rfl, rfl, h1, h⟩
  · exact h.elim
theorem two_is {f : D → D → Cs → QD → Prop} {ds : List D} {vs : List V} {R : QD} (is : Iss K W ds vs) (h : two f ds W.cs R) : ∃ d v e u, ds = [d, e] ∧ vs = [v, u] ∧ Is K W d v ∧ Is K W e u ∧ f d e W.cs R := by
  unfold two at h
  split at h
  · obtain ⟨v, r, rfl, h1, u, r2, rfl, h2, h3⟩ := is
    cases (show r2 = [] from h3)
    exact ⟨_, v, _, u, rfl, rfl, h1, h2, h⟩
  · exact h.elim
/-- len -/
def lenD (d : D) (cs : Cs) (Q : QD) : Prop := match d with
  | .str s => s.length ≤ sizeLine ∧ Q (.int s.length) cs
  | .tup ds => Q (.int ds.length) cs
  | .ptr k => match cs[k]? with
    | some (.lst ds) => Q (.int ds.length) cs
    | some (.dK kvs) => Q (.int kvs.length) cs
    | _ => False
  | d => asL cs d fun ds => Q (.int ds.length) cs
def rLen (K : PySem.W.Frag) : List V → Hp → VK → Prop := fun xs H Q => ((∃ p ys, xs = [.ref p] ∧ (SqL K H p ys ∨ SqT K H p ys) ∧ Q (.int ys.length) H) ∨ (∃ z, xs = [.str z] ∧ z.length ≤ sizeLine ∧ Q (.int z.length) H)) ∨ ∃ a kvs, xs = [V.ref a] ∧ H a = some (.dK kvs) ∧ Q (.int kvs.length) H
theorem isK_len : ∀ {ds : List (Key × D)} {vs : List (Key × V)}, IsK K W ds vs → ds.length = vs.length
  | [], vs, h => by cases (show vs = [] from h); rfl
  | (k, d) :: ds, vs, h => by
    obtain ⟨v, r, rfl, _, h2⟩ := h
    simp [isK_len h2]
theorem ok_len : OkN K (rLen K) (one lenD) := fun W F H vs ds Q R j rel is r k => by
  obtain ⟨d, v, rfl, rfl, i, r⟩ := one_is is r
  have fin : ∀ (n m : Nat), n = m → R (.int n) W.cs → Q (.int m) H := fun n m e q => by subst e; exact k (.int n) W (.int n) H .refl rel j rfl q
  have seqs : asL W.cs d (fun ds => R (.int ds.length) W.cs) → rLen K [v] H Q := fun r => by
    obtain ⟨a, ds, vs, rfl, h, is, r⟩ := asL_is rel j i r
    exact .inl (.inl ⟨a, vs, rfl, .inl h, fin _ _ (iss_len is) r⟩)
  cases d with
  | str s =>
    obtain ⟨hz, r⟩ := r
    exact .inl (.inr ⟨_, (by rw [show v = _ from i]), hz, fin _ _ rfl r⟩)
  | ptr n =>
    cases e : W.cs[n]? with
    | none => simp only [one, lenD, e] at r
    | some c =>
      simp only [one, lenD, e] at r
      obtain ⟨a, rfl, _, ci⟩ := ptr_cell rel i e
      cases c <;> simp only at r
      · obtain ⟨vs, h, is⟩ := ci
        exact .inl (.inl ⟨a, vs, rfl, .inl (.of (j.sub _ _ h)), fin _ _ (iss_len is) r⟩)
      · obtain ⟨vs, h, is⟩ := ci
        exact .inr ⟨a, vs, rfl, j.sub _ _ h, fin _ _ (isK_len is) r⟩
  | tup ds =>
    obtain ⟨a, vs, rfl, h, _, is⟩ := i
    exact .inl (.inl ⟨a, vs, rfl, .inr (.of (j.sub _ _ h)), fin _ _ (iss_len is) r⟩)
  | _ => exact seqs r
theorem cr_len {X : Cx} : CallR X (.builtin "len") (rLen X.K) := CallR.or (CallR.or call_len_seq call_len_str) call_lenD
/-- abs, max, min of two, int -/
def maxD : RND := two fun d e cs Q => asI d fun i => asI e fun j => Q (.int (if j > i then j else i)) cs
def minD : RND := two fun d e cs Q => asI d fun i => asI e fun j => Q (.int (if j < i then j else i)) cs
theorem ok_max2 : OkN K (fun xs H Q => ∃ i j, xs = [.int i, .int j] ∧ Q (.int (if j > i then j else i)) H) maxD := fun W F H vs ds Q R j rel is r k => by
  obtain ⟨d, v, e, u, rfl, rfl, i1, i2, r⟩ := two_is is r
  obtain ⟨n, rfl, rfl, r⟩ := asI_is i1 r
  obtain ⟨m, rfl, rfl, r⟩ := asI_is i2 r
  exact ⟨n, m, rfl, k _ W (.int _) H .refl rel j rfl r⟩
theorem ok_min2 : OkN K (fun xs H Q => ∃ i j, xs = [.int i, .int j] ∧ Q (.int (if j < i then j else i)) H) minD := fun W F H vs ds Q R j rel is r k => by
  obtain ⟨d, v, e, u, rfl, rfl, i1, i2, r⟩ := two_is is r
  obtain ⟨n, rfl, rfl, r⟩ := asI_is i1 r
  obtain ⟨m, rfl, rfl, r⟩ := asI_is i2 r
  exact ⟨n, m, rfl, k _ W (.int _) H .refl rel j rfl r⟩
def intD (d : D) (cs : Cs) (Q : QD) : Prop := match d with
  | .int i => Q (.int i) cs
  | .bl b => Q (.int (if b then 1 else 0)) cs
  | .str s => ∃ n, PySem.intText? s = some n ∧ s.length ≤ 640 ∧ Q (.int n) cs
  | _ => False
theorem cr_int {X : Cx} : CallR X (.type "int") (fun xs H Q => ((∃ i, xs = [.int i] ∧ Q (.int i) H) ∨ ∃ k, xs = [.bl k] ∧ Q (.int (if k then 1 else 0)) H) ∨ ∃ a n, xs = [.str a] ∧ PySem.intText? a = some n ∧ a.length ≤ 640 ∧ Q (.int n) H) := CallR.or call_int1 call_int_str
theorem ok_int : OkN K (fun xs H Q => ((∃ i, xs = [.int i] ∧ Q (.int i) H) ∨ ∃ k, xs = [.bl k] ∧ Q (.int (if k then 1 else 0)) H) ∨ ∃ a n, xs = [.str a] ∧ PySem.intText? a = some n ∧ a.length ≤ 640 ∧ Q (.int n) H) (one intD) := fun W F H vs ds Q R j rel is r k => by
  obtain ⟨d, v, rfl, rfl, i, r⟩ := one_is is r
  cases d <;> first | exact (show False from r).elim | skip
  · cases i; exact .inl (.inr ⟨_, rfl, k _ W (.int _) H .refl rel j rfl r⟩)
  · cases i; exact .inl (.inl ⟨_, rfl, k _ W (.int _) H .refl rel j rfl r⟩)
  · cases i
    obtain ⟨n, h1, h2, r⟩ := r
    exact .inr ⟨_, n, rfl, h1, h2, k _ W (.int _) H .refl rel j rfl r⟩
/-- list(xs): a new list (frozen; open) -/
def asS_ (cs : Cs) (d : D) (Q : List D → Prop) : Prop := match d with
  | .tup ds => Q ds
  | d => asL cs d Q
theorem asS_is_ {W : Wd} {F H : Hp} {d : D} {v : V} {Q : List D → Prop} (rel : Rel K W) (j : Jn W.H F H) (i : Is K W d v) (h : asS_ W.cs d Q) : ∃ a ds vs, v = .ref a ∧ (SqL K H a vs ∨ SqT K H a vs) ∧ Iss K W ds vs ∧ Q ds := by
  have lists : asL W.cs d Q → ∃ a ds vs, v = .ref a ∧ (SqL K H a vs ∨ SqT K H a vs) ∧ Iss K W ds vs ∧ Q ds := fun h => by
    obtain ⟨a, ds, vs, e, h1, is, q⟩ := asL_is rel j i h
    exact ⟨a, ds, vs, e, .inl h1, is, q⟩
  cases d <;> first | exact lists h | skip
  obtain ⟨a, vs, e, h1, _, is⟩ := i
  exact ⟨a, _, vs, e, .inr (.of (j.sub _ _ h1)), is, h⟩
def listD : RND := one fun d cs Q => asS_ cs d fun ds => Q (.lst ds) cs
def listDP : RND := one fun d cs Q => asS_ cs d fun ds => Q (.ptr cs.length) (cs ++ [.lst ds])
def rListOf (K : PySem.W.Frag) : List V → Hp → VK → Prop := fun xs H Q => ∃ p ys, xs = [.ref p] ∧ (SqL K H p ys ∨ SqT K H p ys) ∧ ∀ l, H l = none → Q (.ref l) (upd H l (.lst ys))
theorem ok_list : OkN K (rListOf K) listD := fun W F H vs ds Q R j rel is r k => by
  obtain ⟨d, v, rfl, rfl, i, r⟩ := one_is is r
  obtain ⟨a, ds, vs, rfl, h, is, r⟩ := asS_is_ rel j i r
  exact ⟨a, vs, rfl, h, fun p hp => k (.ref p) (W.add p (.lst vs)) (.lst ds) _ (add_stp (j.none hp) _) (rel.add (j.none hp) _) (j.new hp _) (rel.newLst (j.none hp) is) r⟩
theorem ok_listP : OkN K (rListOf K) listDP := fun W F H vs ds Q R j rel is r k => by
  obtain ⟨d, v, rfl, rfl, i, r⟩ := one_is is r
  obtain ⟨a, ds, vs, rfl, h, is, r⟩ := asS_is_ rel j i r
  exact ⟨a, vs, rfl, h, fun p hp => k (.ref p) (W.push p (.lst vs) (.lst ds)) (.ptr W.cs.length) _ (push_stp (j.none hp) _ _ rel.len) (rel.pushLst (j.none hp) is) (j.new hp _) (push_is rel) r⟩
theorem cr_list {X : Cx} : CallR X (.type "list") (rListOf X.K) := call_list_of
/-- tuple(xs) -/
def tupleD : RND := one fun d cs Q => asS_ cs d fun ds => Q (.tup ds) cs
theorem ok_tuple : OkN K (fun xs H Q => ∃ p ys, xs = [.ref p] ∧ ((SqL K H p ys ∧ ∀ l, H l = none → Q (.ref l) (upd H l (.tup ys))) ∨ (SqT K H p ys ∧ Q (.ref p) H))) tupleD := fun W F H vs ds Q R j rel is r k => by
  obtain ⟨d, v, rfl, rfl, i, r⟩ := one_is is r
  have lists : asL W.cs d (fun ds => R (.tup ds) W.cs) → ∃ p ys, [v] = [.ref p] ∧ ((SqL K H p ys ∧ ∀ l, H l = none → Q (.ref l) (upd H l (.tup ys))) ∨ (SqT K H p ys ∧ Q (.ref p) H)) := fun r => by
    obtain ⟨a, ds, vs, rfl, h, is, r⟩ := asL_is rel j i r
    exact ⟨a, vs, rfl, .inl ⟨h, fun p hp => k (.ref p) (W.add p (.tup vs)) (.tup ds) _ (add_stp (j.none hp) _) (rel.add (j.none hp) _) (j.new hp _) (rel.newTup (j.none hp) is) r⟩⟩
  cases d <;> first | exact lists r | skip
  have i' := i
  obtain ⟨a, vs, rfl, h, _, is⟩ := i
  exact ⟨a, vs, rfl, .inr ⟨.of (j.sub _ _ h), k (.ref a) W (.tup _) H .refl rel j i' r⟩⟩
/-- sum, max, min of ints; all, any of truths -/
def asIs (cs : Cs) (d : D) (Q : List Int → Prop) : Prop := asL cs d fun ds => ∃ ns : List Int, ds = ns.map .int ∧ Q ns
def asBs (cs : Cs) (d : D) (Q : List Bool → Prop) : Prop := asL cs d fun ds => ∃ bs : List Bool, ds = bs.map .bl ∧ Q bs
theorem asIs_is {W : Wd} {F H : Hp} {d : D} {v : V} {Q : List Int → Prop} (rel : Rel K W) (j : Jn W.H F H) (i : Is K W d v) (h : asIs W.cs d Q) : ∃ a ns, v = .ref a ∧ SqL K H a (ns.map V.int) ∧ Q ns := by
  obtain ⟨a, ds, vs, rfl, h, is, ns, e, q⟩ := asL_is rel j i h
  subst e
  rw [is.ints] at h
  exact ⟨a, ns, rfl, h, q⟩
theorem asBs_is {W : Wd} {F H : Hp} {d : D} {v : V} {Q : List Bool → Prop} (rel : Rel K W) (j : Jn W.H F H) (i : Is K W d v) (h : asBs W.cs d Q) : ∃ a ns, v = .ref a ∧ SqL K H a (ns.map V.bl) ∧ Q ns := by
  obtain ⟨a, ds, vs, rfl, h, is, ns, e, q⟩ := asL_is rel j i h
  subst e
  rw [is.bls] at h
  exact ⟨a, ns, rfl, h, q⟩
def sumD : RND := one fun d cs Q => asIs cs d fun ns => Q (.int ns.sum) cs
def maxLD : RND := one fun d cs Q => asIs cs d fun ns => 0 < ns.length ∧ ∀ m, m ∈ ns → (∀ y, y ∈ ns → y ≤ m) → Q (.int m) cs
def minLD : RND := one fun d cs Q => asIs cs d fun ns => 0 < ns.length ∧ ∀ m, m ∈ ns → (∀ y, y ∈ ns → m ≤ y) → Q (.int m) cs
def allD : RND := one fun d cs Q => asBs cs d fun bs => Q (.bl (bs.all id)) cs
def anyD : RND := one fun d cs Q => asBs cs d fun bs => Q (.bl (bs.any id)) cs
theorem ok_sum : OkN K (rSum K) sumD := fun W F H vs ds Q R j rel is r k => by
  obtain ⟨d, v, rfl, rfl, i, r⟩ := one_is is r
  obtain ⟨a, ns, rfl, h, q⟩ := asIs_is rel j i r
  exact ⟨a, ns, rfl, h, k _ W (.int _) H .refl rel j rfl q⟩
theorem ok_maxL : OkN K (rMax K) maxLD := fun W F H vs ds Q R j rel is r k => by
  obtain ⟨d, v, rfl, rfl, i, r⟩ := one_is is r
  obtain ⟨a, ns, rfl, h, h0, q⟩ := asIs_is rel j i r
  exact ⟨a, ns, rfl, h, h0, fun m h1 h2 => k _ W (.int m) H .refl rel j rfl (q m h1 h2)⟩
theorem ok_minL : OkN K (rMin K) minLD := fun W F H vs ds Q R j rel is r k => by
  obtain ⟨d, v, rfl, rfl, i, r⟩ := one_is is r
  obtain ⟨a, ns, rfl, h, h0, q⟩ := asIs_is rel j i r
  exact ⟨a, ns, rfl, h, h0, fun m h1 h2 => k _ W (.int m) H .refl rel j rfl (q m h1 h2)⟩
theorem ok_all : OkN K (rAll K) allD := fun W F H vs ds Q R j rel is r k => by
  obtain ⟨d, v, rfl, rfl, i, r⟩ := one_is is r
  obtain ⟨a, ns, rfl, h, q⟩ := asBs_is rel j i r
  exact ⟨a, ns, rfl, h, k _ W (.bl _) H .refl rel j rfl q⟩
theorem ok_any : OkN K (rAny K) anyD := fun W F H vs ds Q R j rel is r k => by
  obtain ⟨d, v, rfl, rfl, i, r⟩ := one_is is r
  obtain ⟨a, ns, rfl, h, q⟩ := asBs_is rel j i r
  exact ⟨a, ns, rfl, h, k _ W (.bl _) H .refl rel j rfl q⟩
/-- sorted of ints: a new list, open or not -/
def sortID (P : Bool) : RND := one fun d cs Q => asIs cs d fun ns => ∀ ns' : List Int, ns'.Perm ns → ns'.Pairwise (· ≤ ·) → if P = true then Q (.ptr cs.length) (cs ++ [.lst (ns'.map .int)]) else Q (.lst (ns'.map .int)) cs
theorem iss_ints (ns : List Int) : Iss K W (ns.map D.int) (ns.map V.int) := Iss.map (f := D.int) (g := V.int) (fun _ => by exact rfl) ns
theorem ok_sortI {P : Bool} : OkN K (rSortedI K) (sortID P) := fun W F H vs ds Q R j rel is r k => by
  obtain ⟨d, v, rfl, rfl, i, r⟩ := one_is is r
  obtain ⟨a, ns, rfl, h, q⟩ := asIs_is rel j i r
  refine ⟨a, ns, rfl, h, fun ns' p h1 h2 hp => ?_⟩
  have q' := q ns' h1 h2
  cases P with
  | true => exact k (.ref p) (W.push p (.lst (ns'.map V.int)) (.lst (ns'.map D.int))) (.ptr W.cs.length) _ (push_stp (j.none hp) _ _ rel.len) (rel.pushLst (j.none hp) (iss_ints ns')) (j.new hp _) (push_is rel) q'
  | false => exact k (.ref p) (W.add p (.lst (ns'.map V.int))) (.lst (ns'.map D.int)) _ (add_stp (j.none hp) _) (rel.add (j.none hp) _) (j.new hp _) (rel.newLst (j.none hp) (iss_ints ns')) q'
end
end DL
/-! DL6: subscripts, slices, dicts, methods of lists and dicts, what is walked. -/
namespace DL
open PySem PySem.Spec PyProof.Rows L2
/-! ### subscripts -/
def ixC (y : D) (Q : D → Prop) : Option Cel → Prop
  | some (.lst ds) => asI y fun i => ∃ d, atI ds i = some d ∧ Q d
  | some (.dK kvs) => asKey y fun k => ∃ d, valG kvs k = some d ∧ Q d
  | _ => False
def ixD : R2D := fun x y cs Q => match x with
  | .tup ds => asI y fun i => ∃ d, atI ds i = some d ∧ Q d cs
  | .str s => asI y fun i => s.length ≤ sizeLine ∧ ∃ c, atI s.cps.toList i = some c ∧ Q (.str ⟨#[c]⟩) cs
  | .ptr k => ixC y (fun d => Q d cs) cs[k]?
  | .lst ds => asI y fun i => ∃ d, atI ds i = some d ∧ Q d cs
  | .scr ns => asI y fun i => ∃ z, atI ns i = some z ∧ Q (.int z) cs
  | _ => False
def rIxU (K : PySem.W.Frag) : R2 := fun x y H Q => rIx K x y H Q ∨ ∃ a v, x = .ref a ∧ DGet H a y (some v) ∧ Q v H
theorem atI_map {α β : Type} {f : α → β} {xs : List α} {i : Int} {x : α} (h : atI xs i = some x) : atI (xs.map f) i = some (f x) := by
  unfold atI at h ⊢
  rw [List.length_map]
  cases e : ixN xs.length i with
  | none => rw [e] at h; cases h
  | some n =>
    rw [e] at h
    have h' : xs[n]? = some x := h
    show (xs.map f)[n]? = some (f x)
    rw [List.getElem?_map, h']
    rfl
theorem ok_ix {K : PySem.W.Frag} : Ok2 K (rIxU K) ixD := fun W F H x y dx dy Q R j rel ix iy r k => by
  have seq : ∀ (ds : List D) (a : Addr) (vs : List V), x = .ref a → SqL K H a vs → Iss K W ds vs → (asI dy fun i => ∃ d, atI ds i = some d ∧ R d W.cs) → rIxU K x y H Q := by
    intro ds a vs e h is r
    obtain ⟨i, rfl, _, d, hd, r⟩ := asI_is iy r
    obtain ⟨u, hu, id⟩ := iss_atI is hd
    exact .inl (.inl ⟨a, vs, i, u, e, rfl, h, hu, k u W d H .refl rel j id r⟩)
  cases dx with
  | tup ds =>
    obtain ⟨i, rfl, _, d, hd, r⟩ := asI_is iy r
    obtain ⟨a, vs, rfl, h, _, is⟩ := ix
    obtain ⟨u, hu, id⟩ := iss_atI is hd
    exact .inl (.inr (.inl ⟨a, vs, i, u, rfl, rfl, .of (j.sub _ _ h), hu, k u W d H .refl rel j id r⟩))
  | str s =>
    obtain ⟨i, rfl, _, hz, c, hc, r⟩ := asI_is iy r
    exact .inl (.inr (.inr ⟨s, i, c, ix, rfl, hz, hc, k (.str ⟨#[c]⟩) W (.str ⟨#[c]⟩) H .refl rel j rfl r⟩))
  | ptr n =>
    have r' : ixC dy (fun d => R d W.cs) W.cs[n]? := r
    cases e : W.cs[n]? with
    | none => rw [e] at r'; exact r'.elim
    | some c =>
      rw [e] at r'
      obtain ⟨a, ev, _, ci⟩ := ptr_cell rel ix e
      cases c with
      | lst ds =>
        obtain ⟨vs, h, is⟩ := ci
        exact seq ds a vs ev (.of (j.sub _ _ h)) is r'
      | dK kvs =>
        obtain ⟨vs, h, is⟩ := ci
        obtain ⟨key, rfl, d, hd, r⟩ := asKey_is iy (show asKey dy fun k => ∃ d, valG kvs k = some d ∧ R d W.cs from r')
        obtain ⟨v, hv, id⟩ := (isK_val (k := key) is).1 d hd
        refine .inr ⟨a, v, ev, ?_, k v W d H .refl rel j id r⟩
        have g : DGet H a (kV key) (valV vs key) := .k (j.sub _ _ h)
        rw [hv] at g
        exact g
      | _ => exact r'.elim
  | lst ds =>
    obtain ⟨a, vs, e, h, _, is⟩ := ix
    exact seq ds a vs e (.of (j.sub _ _ h)) is r
  | scr ns =>
    obtain ⟨i, rfl, _, z, hz, r⟩ := asI_is iy r
    obtain ⟨a, ds, vs, e, h, is, q⟩ := asL_is (Q := fun ds => ds = ns.map D.int) rel j ix rfl
    subst q
    obtain ⟨u, hu, id⟩ := iss_atI is (atI_map (f := D.int) hz)
    exact .inl (.inl ⟨a, vs, i, u, e, rfl, h, hu, k u W (.int z) H .refl rel j id r⟩)
  | _ => exact (show False from r).elim
section
variable {X : Cx} {a b : Expr} {ta tb : TED} {pos : Pos}
theorem ix_dict (hu : X.A.units + 1 < cLine) : IxR X (fun x y H Q => ∃ a v, x = .ref a ∧ DGet H a y (some v) ∧ Q v H) := by
  intro value slice pins s σ H x y v u Q I rx ry h hs
  obtain ⟨a, w, rfl, g, q⟩ := h
  cases rx
  exact PyProof.Rows.tail_any (dict_typeIs I g) PySem.F.slot_dict_getitem.lookup (d_getItem hu I g ry fun w' s' I' rw' => ⟨w, H, I', rw', q⟩) hs
theorem de_ix (hu : X.A.units + 1 < cLine) (ha : DE X a ta) (hb : DE X b tb) (hs : PlainIx b := by exact fun _ _ => rfl) : DE X (.Subscript a b pos) (dOp ixD ta tb) :=
  pe_imp (pe_ix (IxR.or ix_seq (ix_dict hu)) ha hb hs) (up_op ok_ix)
end
/-! ### slices -/
def cutG {α : Type} (xs : List α) (lo hi : Option Int) : List α := (xs.drop (HT.sIx xs.length 0 lo)).take (HT.sIx xs.length xs.length hi - HT.sIx xs.length 0 lo)
theorem iss_cut {K : PySem.W.Frag} {W : Wd} {ds : List D} {vs : List V} (h : Iss K W ds vs) (lo hi : Option Int) : Iss K W (cutG ds lo hi) (cutV vs lo hi) := by
  unfold cutG cutV
  rw [iss_len h]
  exact (h.drop _).take _
abbrev TOD := Sd → Cs → (Option Int → Cs → Prop) → Prop
def upO (K : PySem.W.Frag) (t : TOD) : TO := fun σ H Q => ∃ (W : Wd) (F : Hp) (δ : Sd) (R : Option Int → Cs → Prop), Jn W.H F H ∧ Rel K W ∧ Sl K W δ σ ∧ t δ W.cs R ∧
  ∀ (o : Option Int) (W' : Wd) (H' : Hp), Stp W.al.length W W' → Rel K W' → Jn W'.H F H' → R o W'.cs → Q o H'
def DO (X : Cx) (e : Option Expr) (t : TOD) : Prop := PO X e (upO X.K t)
def dNoPart : TOD := fun _ cs Q => Q none cs
def dPart (t : TED) : TOD := fun δ cs Q => t δ cs fun d c1 => asI d fun i => Q (some i) c1
def slD (x : D) (lo hi : Option Int) (cs : Cs) (Q : QD) : Prop := match x with
  | .tup ds => Q (.tup (cutG ds lo hi)) cs
  | .str s => s.length ≤ sizeLine ∧ Q (.str (cutS s lo hi)) cs
  | d => asL cs d fun ds => Q (.lst (cutG ds lo hi)) cs
def slDP (x : D) (lo hi : Option Int) (cs : Cs) (Q : QD) : Prop := asL cs x fun ds => Q (.ptr cs.length) (cs ++ [.lst (cutG ds lo hi)])
abbrev RSD := D → Option Int → Option Int → Cs → QD → Prop
def OkSl (K : PySem.W.Frag) (r : V → Option Int → Option Int → Hp → VK → Prop) (r' : RSD) : Prop := ∀ (W : Wd) (F H : Hp) (x : V) (dx : D) (lo hi : Option Int) (Q : VK) (R : QD), Jn W.H F H → Rel K W → Is K W dx x → r' dx lo hi W.cs R → Aft K W F R Q → r x lo hi H Q
def dSl (r' : RSD) (t : TED) (l h : TOD) : TED := fun δ cs Q => t δ cs fun x c1 => l δ c1 fun lo c2 => h δ c2 fun hi c3 => r' x lo hi c3 Q
def rSlU (K : PySem.W.Frag) : V → Option Int → Option Int → Hp → VK → Prop := fun x lo hi H Q => (rSlL K x lo hi H Q ∨ rSlA K x lo hi H Q) ∨ rSlS x lo hi H Q
theorem cut_all {α : Type} {xs : List α} {lo hi : Option Int} (h : HT.sIx xs.length 0 lo = 0 ∧ HT.sIx xs.length xs.length hi = xs.length) : cutG xs lo hi = xs := by
  unfold cutG
  rw [h.1, h.2]
  simp
theorem ok_sl {K : PySem.W.Frag} : OkSl K (rSlU K) slD := fun W F H x dx lo hi Q R j rel ix r k => by
  have lists : asL W.cs dx (fun ds => R (.lst (cutG ds lo hi)) W.cs) → rSlU K x lo hi H Q := fun r => by
    obtain ⟨a, ds, vs, rfl, h, is, r⟩ := asL_is rel j ix r
    exact .inl (.inl ⟨a, vs, rfl, h, fun p hp => k (.ref p) (W.add p (.lst (cutV vs lo hi))) (.lst (cutG ds lo hi)) _ (add_stp (j.none hp) _) (rel.add (j.none hp) _) (j.new hp _) (rel.newLst (j.none hp) (iss_cut is lo hi)) r⟩)
  cases dx with
  | tup ds =>
    have ix' := ix
    obtain ⟨a, vs, rfl, h, n, is⟩ := ix
    refine .inl (.inr ⟨a, vs, rfl, .of (j.sub _ _ h), fun hw => ?_, fun hw p hp => ?_⟩)
    · have hw' : HT.sIx ds.length 0 lo = 0 ∧ HT.sIx ds.length ds.length hi = ds.length := by rw [iss_len is]; exact hw
      have r' : R (.tup (cutG ds lo hi)) W.cs := r
      rw [cut_all hw'] at r'
      exact k (.ref a) W (.tup ds) H .refl rel j ix' r'
    · exact k (.ref p) (W.add p (.tup (cutV vs lo hi))) (.tup (cutG ds lo hi)) _ (add_stp (j.none hp) _) (rel.add (j.none hp) _) (j.new hp _) (rel.newTup (j.none hp) (iss_cut is lo hi)) r
  | str s =>
    obtain ⟨hz, r⟩ := r
    exact .inr ⟨s, ix, hz, k (.str _) W (.str _) H .refl rel j rfl r⟩
  | _ => exact lists r
theorem ok_slP {K : PySem.W.Frag} : OkSl K (rSlU K) slDP := fun W F H x dx lo hi Q R j rel ix r k => by
  obtain ⟨a, ds, vs, rfl, h, is, r⟩ := asL_is rel j ix r
  exact .inl (.inl ⟨a, vs, rfl, h, fun p hp => k (.ref p) (W.push p (.lst (cutV vs lo hi)) (.lst (cutG ds lo hi))) (.ptr W.cs.length) _ (push_stp (j.none hp) _ _ rel.len) (rel.pushLst (j.none hp) (iss_cut is lo hi)) (j.new hp _) (push_is rel) r⟩)
def revD (P : Bool) : D → Cs → QD → Prop := fun x cs Q => asL cs x fun ds => if P = true then Q (.ptr cs.length) (cs ++ [.lst ds.reverse]) else Q (.lst ds.reverse) cs
section
variable {X : Cx} {e : Expr} {te : TED} {lo hi : Option Expr} {tl th : TOD} {pos p2 : Pos}
theorem do_none : DO X none dNoPart := ⟨fun pins s σ H Q I ⟨W, F, δ, R, j, rel, sl, t, k⟩ => po_none.run pins s σ H Q I (k none W H .refl rel j t)⟩
theorem do_some (h : DE X e te) : DO X (some e) (dPart te) := ⟨fun pins s σ H Q I ⟨W, F, δ, R, j, rel, sl, t, k⟩ => (po_some h).run pins s σ H Q I ⟨W, F, δ, _, j, rel, sl, t, fun v W1 d H1 S1 rel1 j1 i q => by
  obtain ⟨n, rfl, _, q⟩ := asI_is i q
  exact ⟨n, rfl, k (some n) W1 H1 S1 rel1 j1 q⟩⟩⟩
theorem up_sl {K : PySem.W.Frag} {r : V → Option Int → Option Int → Hp → VK → Prop} {r' : RSD} (ok : OkSl K r r') : ∀ σ H Q, up K (dSl r' te tl th) σ H Q → tSl r (up K te) (upO K tl) (upO K th) σ H Q := fun σ H Q ⟨W, F, δ, R, j, rel, sl, t, k⟩ =>
  ⟨W, F, δ, _, j, rel, sl, t, fun v W1 d H1 S1 rel1 j1 i q => ⟨W1, F, δ, _, j1, rel1, sl.to S1, q, fun lo W2 H2 S2 rel2 j2 q2 => ⟨W2, F, δ, _, j2, rel2, sl.to (S1.full S2), q2, fun hi W3 H3 S3 rel3 j3 q3 =>
    ok W3 F H3 v d lo hi Q R j3 rel3 (i.to (S2.full S3)) q3 (k.to ((S1.full S2).full S3))⟩⟩⟩
theorem slr_U : SlR X (rSlU X.K) := SlR.or (SlR.or sl_list sl_tupA) sl_str
theorem de_slice (he : DE X e te) (hl : DO X lo tl) (hu : DO X hi th) : DE X (.Subscript e (.Slice lo hi none p2) pos) (dSl slD te tl th) := pe_imp (pe_slice slr_U he hl hu) (up_sl ok_sl)
theorem de_sliceP (he : DE X e te) (hl : DO X lo tl) (hu : DO X hi th) : DE X (.Subscript e (.Slice lo hi none p2) pos) (dSl slDP te tl th) := pe_imp (pe_slice slr_U he hl hu) (up_sl ok_slP)
theorem iss_rev {K : PySem.W.Frag} {W : Wd} {ds : List D} {vs : List V} (h : Iss K W ds vs) : Iss K W ds.reverse vs.reverse := h.reverse
theorem de_rev {P : Bool} {k : Nat} {p1 q2 p3 : Pos} (he : DE X e te) : DE X (.Subscript e (.Slice none none (some (.UnaryOp .USub (.Constant (.int 1) k p1) q2)) p3) pos) (dUn (revD P) te) :=
  pe_imp (pe_revL he) fun σ H Q ⟨W, F, δ, R, j, rel, sl, t, k⟩ => ⟨W, F, δ, _, j, rel, sl, t, fun v W1 d H1 S1 rel1 j1 i q => by
    obtain ⟨a, ds, vs, rfl, h, is, r⟩ := asL_is rel1 j1 i q
    refine ⟨a, vs, rfl, h, fun p hp => ?_⟩
    cases P with
    | true => exact k (.ref p) (W1.push p (.lst vs.reverse) (.lst ds.reverse)) (.ptr W1.cs.length) _ (S1.full (push_stp (j1.none hp) _ _ rel1.len)) (rel1.pushLst (j1.none hp) is.reverse) (j1.new hp _) (push_is rel1) r
    | false => exact k (.ref p) (W1.add p (.lst vs.reverse)) (.lst ds.reverse) _ (S1.full (add_stp (j1.none hp) _)) (rel1.add (j1.none hp) _) (j1.new hp _) (rel1.newLst (j1.none hp) is.reverse) r⟩
end
/-! ### cells written -/
section
variable {K : PySem.W.Frag} {W : Wd}
theorem cel_lst (rel : Rel K W) {k : Nat} {a : Addr} {c0 : Cel} (e : W.al[k]? = some a) (e0 : W.cs[k]? = some c0) (hl : c0.live = true) {ds : List D} {vs : List V} (is : Iss K W ds vs) : Rel K (W.put k a (.lst vs) (.lst ds)) :=
  rel.put e e0 hl ⟨vs, upd_same, is.to (put_stp e e0 hl)⟩
theorem cel_dK (rel : Rel K W) {k : Nat} {a : Addr} {c0 : Cel} (e : W.al[k]? = some a) (e0 : W.cs[k]? = some c0) (hl : c0.live = true) {ds : List (Key × D)} {vs : List (Key × V)} (is : IsK K W ds vs) : Rel K (W.put k a (.dK vs) (.dK ds)) :=
  rel.put e e0 hl ⟨vs, upd_same, is.to (put_stp e e0 hl)⟩
end
def putG {κ β : Type} [DecidableEq κ] (kvs : List (κ × β)) (k : κ) (v : β) : List (κ × β) :=
  if (kvs.any fun kv => decide (kv.1 = k)) = true then kvs.map (fun kv => if kv.1 = k then (kv.1, v) else kv) else kvs ++ [(k, v)]
theorem isK_put {K : PySem.W.Frag} {W : Wd} {k : Key} {d : D} {v : V} (i : Is K W d v) {kvs : List (Key × D)} {vs : List (Key × V)} (h : IsK K W kvs vs) : IsK K W (putG kvs k d) (putK vs k v) := by
  have ha : ∀ {kvs : List (Key × D)} {vs : List (Key × V)}, IsK K W kvs vs → (kvs.any fun kv => decide (kv.1 = k)) = (vs.any fun kv => decide (kv.1 = k)) := by
    intro kvs
    induction kvs with
    | nil => intro vs h; cases (show vs = [] from h); rfl
    | cons p kvs ih =>
      intro vs h
      obtain ⟨v, r, rfl, _, h2⟩ := h
      rw [List.any_cons, List.any_cons, ih h2]
  have hm : ∀ {kvs : List (Key × D)} {vs : List (Key × V)}, IsK K W kvs vs → IsK K W (kvs.map fun kv => if kv.1 = k then (kv.1, d) else kv) (vs.map fun kv => if kv.1 = k then (kv.1, v) else kv) := by
    intro kvs
    induction kvs with
    | nil => intro vs h; cases (show vs = [] from h); rfl
    | cons p kvs ih =>
      intro vs h
      obtain ⟨p1, p2⟩ := p
      obtain ⟨v', r, rfl, h1, h2⟩ := h
      rw [List.map_cons, List.map_cons]
      by_cases e : p1 = k
      · rw [if_pos e, if_pos e]
        exact ⟨v, _, rfl, i, ih h2⟩
      · rw [if_neg e, if_neg e]
        exact ⟨v', _, rfl, h1, ih h2⟩
  have hs : ∀ {kvs : List (Key × D)} {vs : List (Key × V)}, IsK K W kvs vs → IsK K W (kvs ++ [(k, d)]) (vs ++ [(k, v)]) := by
    intro kvs
    induction kvs with
    | nil => intro vs h; cases (show vs = [] from h); exact ⟨v, [], rfl, i, rfl⟩
    | cons p kvs ih =>
      intro vs h
      obtain ⟨p1, p2⟩ := p
      obtain ⟨v', r, rfl, h1, h2⟩ := h
      exact ⟨v', _, rfl, h1, ih h2⟩
  unfold putG putK
  rw [ha h]
  split
  · exact hm h
  · exact hs h
/-- o[i] = v -/
def setC (k : Nat) (y d : D) (cs : Cs) (R : Cs → Prop) : Option Cel → Prop
  | some (.lst ds) => asI y fun i => ∃ n, ixN ds.length i = some n ∧ R (cs.set k (.lst (ds.set n d)))
  | some (.dK kvs) => asKey y fun key => kvs.length < sizeLine ∧ R (cs.set k (.dK (putG kvs key d)))
  | _ => False
def setD (x y d : D) (cs : Cs) (R : Cs → Prop) : Prop := match x with
  | .ptr k => setC k y d cs R cs[k]?
  | _ => False
def rSetU : TSet := fun o i v H Q => rSetL o i v H Q ∨ ∃ a H', o = .ref a ∧ DPut H a i v H' ∧ Q H'
theorem pset_U {X : Cx} (hu : X.A.units + 1 < cLine) : PSet X rSetU := by
  intro pins s σ H o i v ov iv u Q I ro ri rv h
  rcases h with h | ⟨a, H', rfl, g, q⟩
  · exact set_list pins s σ H o i v ov iv u Q I ro ri rv h
  · cases ro
    exact d_setItem hu I g ri rv fun s' I' => ⟨H', I', q⟩
def gdSub (to ti : TED) : TGD := fun d δ cs R => to δ cs fun o c1 => ti δ c1 fun i c2 => setD o i d c2 fun c3 => R δ c3
theorem set_is {K : PySem.W.Frag} {W : Wd} {F H : Hp} {o i v : V} {dO di dv : D} {R : Cs → Prop} {Q : Hp → Prop} (rel : Rel K W) (j : Jn W.H F H) (io : Is K W dO o) (ii : Is K W di i) (iv : Is K W dv v) (h : setD dO di dv W.cs R)
    (k : ∀ (W' : Wd) (H' : Hp), Stp W.al.length W W' → Rel K W' → Jn W'.H F H' → R W'.cs → Q H') : rSetU o i v H Q := by
  cases dO with
  | ptr n =>
    have h' : setC n di dv W.cs R W.cs[n]? := h
    cases e : W.cs[n]? with
    | none => rw [e] at h'; exact h'.elim
    | some c =>
      rw [e] at h'
      obtain ⟨a, rfl, ea, ci⟩ := ptr_cell rel io e
      cases c with
      | lst ds =>
        obtain ⟨vs, h1, is⟩ := ci
        obtain ⟨z, rfl, _, m, hm, r⟩ := asI_is ii h'
        refine .inl ⟨a, vs, z, m, rfl, rfl, j.sub _ _ h1, by rw [← iss_len is]; exact hm, ?_⟩
        exact k (W.put n a (.lst (vs.set m v)) (.lst (ds.set m dv))) _ (put_stp ea e rfl) (cel_lst rel ea e rfl (is.set iv m)) (j.put h1 _) r
      | dK kvs =>
        obtain ⟨vs, h1, is⟩ := ci
        obtain ⟨key, rfl, hz, r⟩ := asKey_is ii (show asKey di fun key => kvs.length < sizeLine ∧ R (W.cs.set n (.dK (putG kvs key dv))) from h')
        refine .inr ⟨a, _, rfl, .k (j.sub _ _ h1) (by rw [← isK_len is]; exact hz), ?_⟩
        exact k (W.put n a (.dK (putK vs key v)) (.dK (putG kvs key dv))) _ (put_stp ea e rfl) (cel_dK rel ea e rfl (isK_put iv is)) (j.put h1 _) r
      | _ => exact h'.elim
  | _ => exact (show False from h).elim
section
variable {X : Cx} {o i : Expr} {to ti : TED} {pos : Pos}
theorem dg_sub (hu : X.A.units + 1 < cLine) (ho : DE X o to) (hi : DE X i ti) (ha : ∀ v, assign (.Subscript o i pos) X.env v = (do
      let ov ← holding [v] (eval o X.env)
      let iv ← holding [v, ov] (eval i X.env)
      standAt pos
      holding [v, ov, iv] (setItem ov iv v)
      release [v, ov, iv] []) := by intro _; rfl) : DG X (.Subscript o i pos) (gdSub to ti) :=
  pg_imp (pg_sub ho hi (pset_U hu) ha) fun v σ H Q ⟨W, F, δ, d, R, j, rel, sl, id, t, k⟩ => ⟨W, F, δ, _, j, rel, sl, t, fun ov W1 dO H1 S1 rel1 j1 io q => ⟨W1, F, δ, _, j1, rel1, sl.to S1, q, fun iv W2 di H2 S2 rel2 j2 ii q2 =>
    set_is rel2 j2 (io.to S2) ii (id.to (S1.full S2)) q2 fun W' H' S' rel' j' q' => k σ W' δ H' ((S1.full S2).full S') rel' j' (sl.to ((S1.full S2).full S')) q'⟩⟩
end
/-- x op= e at a name -/
def dAug (i : Nat) (te : TED) (r' : R2D) : TSD := fun lo E δ cs => gotD δ[i]? fun x => te δ cs fun y c1 => r' x y c1 fun z c2 => E.nx (δ.set i (some z)) c2
section
variable {X : Cx} {e : Expr} {te : TED} {pos : Pos}
theorem ds_aug {i : Nat} {x : Str} {op : Operator} {r : R2} {r' : R2D} {pos' : Pos} (hN : X.N.Nodup) (hi : X.N[i]? = some x) (hx : Loc X.env.scope x) (ho : OpR X (inplaceOp op) r) (ok : Ok2 X.K r r') (he : DE X e te) (hf : X.fn x = true ∨ X.env.scope.names.lookup x = some .local := by first | exact .inl rfl | exact .inr rfl | assumption) :
    DS X (.AugAssign (.Name x pos') op e pos) (dAug i te r') :=
  ps_imp (ps_aug hN hi hx he ho hf) fun N σ H ⟨W, F, δ, lo, E, j, rel, sl, hl, t, L⟩ => by
    have t' : gotD δ[i]? fun x => te δ W.cs fun y c1 => r' x y c1 fun z c2 => E.nx (δ.set i (some z)) c2 := t
    unfold gotD at t'
    split at t'
    · rename_i d e
      obtain ⟨v, ev, q⟩ := sl.at_ i d e
      exact ⟨v, ev, W, F, δ, _, j, rel, sl, t', fun u W1 du H1 S1 rel1 j1 iu q1 => ok W1 F H1 v u d du _ _ j1 rel1 (q.to S1) iu q1 fun z W2 dz H2 S2 rel2 j2 iz q2 =>
        L.nx _ W2 _ H2 ((S1.full S2).mono hl) rel2 j2 ((sl.to (S1.full S2)).set iz i) (Nat.le_trans hl (S1.full S2).lenLe) q2⟩
    · exact t'.elim
theorem ds_iadd {i : Nat} {x : Str} {pos' : Pos} (hN : X.N.Nodup) (hi : X.N[i]? = some x) (hx : Loc X.env.scope x) (he : DE X e te) (hf : X.fn x = true ∨ X.env.scope.names.lookup x = some .local := by first | exact .inl rfl | exact .inr rfl | assumption) :
    DS X (.AugAssign (.Name x pos') .Add e pos) (dAug i te (dI0 fun i j => .int (i + j))) := ds_aug hN hi hx iop_add (ok_I0 fun _ _ _ => rfl) he hf
end
/-- a, b = e1, e2; a, b, c = .. with plain local names -/
def dPar (i j : Nat) (t : TAD) : TSD := fun lo E δ cs => t δ cs fun ds c1 => match ds with
  | [x, y] => E.nx ((δ.set i (some x)).set j (some y)) c1
  | _ => False
def dPar3 (i j l : Nat) (t : TAD) : TSD := fun lo E δ cs => t δ cs fun ds c1 => match ds with
  | [x, y, z] => E.nx (((δ.set i (some x)).set j (some y)).set l (some z)) c1
  | _ => False
section
variable {X : Cx} {ta : TAD}
theorem ds_par {i j : Nat} {x y : Str} {a b : Expr} {px py pt pos : Pos} {kt k2 pt2} (hc : X.calm = true) (hN : X.N.Nodup) (hi : X.N[i]? = some x) (hj : X.N[j]? = some y) (hij : i ≠ j)
    (hx : X.env.scope.names.lookup x = some .local) (hy : X.env.scope.names.lookup y = some .local) (ha : DA X [a, b] ta)
    (hw : swappedStores [.Tuple [.Name x px, .Name y py] kt pt] (.Tuple [a, b] k2 pt2) X.env = pure (some [x, y]) := by rfl)
    (hs : swapsWithSole [.Tuple [.Name x px, .Name y py] kt pt] (.Tuple [a, b] k2 pt2) pos.line X.env = pure false := by rfl) :
    DS X (.Assign [.Tuple [.Name x px, .Name y py] kt pt] (.Tuple [a, b] k2 pt2) pos) (dPar i j ta) :=
  ps_imp (ps_par hc hN hi hj hij hx hy ha hw hs) fun N σ H ⟨W, F, δ, lo, E, jn, rel, sl, hl, t, L⟩ => ⟨W, F, δ, _, jn, rel, sl, t, fun vs W1 ds H1 S1 rel1 j1 is q => by
    split at q
    · obtain ⟨v, r, rfl, h1, u, r2, rfl, h2, h3⟩ := is
      cases (show r2 = [] from h3)
      exact ⟨v, u, rfl, L.nx _ W1 _ H1 (S1.mono hl) rel1 j1 (((sl.to S1).set h1 i).set h2 j) (Nat.le_trans hl S1.lenLe) q⟩
    · exact q.elim⟩
theorem ds_par3 {i j l : Nat} {x y z : Str} {a b c : Expr} {px py pz pt pos : Pos} {kt k2 pt2} (hc : X.calm = true) (hN : X.N.Nodup) (hi : X.N[i]? = some x) (hj : X.N[j]? = some y) (hll : X.N[l]? = some z) (hij : i ≠ j) (hil : i ≠ l) (hjl : j ≠ l)
    (hx : X.env.scope.names.lookup x = some .local) (hy : X.env.scope.names.lookup y = some .local) (hz : X.env.scope.names.lookup z = some .local) (ha : DA X [a, b, c] ta)
    (hw : swappedStores [.Tuple [.Name x px, .Name y py, .Name z pz] kt pt] (.Tuple [a, b, c] k2 pt2) X.env = pure (some [x, y, z]) := by rfl)
    (hs : swapsWithSole [.Tuple [.Name x px, .Name y py, .Name z pz] kt pt] (.Tuple [a, b, c] k2 pt2) pos.line X.env = pure false := by rfl) :
    DS X (.Assign [.Tuple [.Name x px, .Name y py, .Name z pz] kt pt] (.Tuple [a, b, c] k2 pt2) pos) (dPar3 i j l ta) :=
  ps_imp (ps_par3 hc hN hi hj hll hij hil hjl hx hy hz ha hw hs) fun N σ H ⟨W, F, δ, lo, E, jn, rel, sl, hl, t, L⟩ => ⟨W, F, δ, _, jn, rel, sl, t, fun vs W1 ds H1 S1 rel1 j1 is q => by
    split at q
    · obtain ⟨v, r, rfl, h1, u, r2, rfl, h2, w, r3, rfl, h3, h4⟩ := is
      cases (show r3 = [] from h4)
      exact ⟨v, u, w, rfl, L.nx _ W1 _ H1 (S1.mono hl) rel1 j1 ((((sl.to S1).set h1 i).set h2 j).set h3 l) (Nat.le_trans hl S1.lenLe) q⟩
    · exact q.elim⟩
end
end DL
/-! DL7: methods of lists and dicts, what is walked, defs, classes. -/
namespace DL
open PySem PySem.Spec PyProof.Rows L2
/-! ### methods of built-in types -/
def tyC (T : String) : Option Cel → Prop
  | some (.lst _) => T = "list"
  | some (.dK _) => T = "dict"
  | _ => False
def tyD (T : String) (cs : Cs) (d : D) : Prop := match d with
  | .str _ => T = "str"
  | .int _ => T = "int"
  | .lst _ => T = "list"
  | .ptr k => tyC T cs[k]?
  | _ => False
abbrev RMD := D → List D → Cs → QD → Prop
def OkM (K : PySem.W.Frag) (r : V → List V → Hp → VK → Prop) (r' : RMD) : Prop := ∀ (W : Wd) (F H : Hp) (x : V) (xs : List V) (dx : D) (ds : List D) (Q : VK) (R : QD), Jn W.H F H → Rel K W → Is K W dx x → Iss K W ds xs → r' dx ds W.cs R → Aft K W F R Q → r x xs H Q
def dBM (T : String) (r' : RMD) (to : TED) (t : TAD) : TED := fun δ cs Q => to δ cs fun x c1 => tyD T c1 x ∧ t δ c1 fun ds c2 => r' x ds c2 Q
theorem tyD_is {K : PySem.W.Frag} {W : Wd} {F H : Hp} {T : String} {d : D} {v : V} (rel : Rel K W) (j : Jn W.H F H) (i : Is K W d v) (h : tyD T W.cs d) : tyV K T v H := by
  cases d with
  | str s => cases i; exact h
  | int s => cases i; exact h
  | lst ds =>
    obtain ⟨a, vs, rfl, e, _, _⟩ := i
    exact .inl ⟨h, vs, .of (j.sub _ _ e)⟩
  | ptr k =>
    have h' : tyC T W.cs[k]? := h
    cases e : W.cs[k]? with
    | none => rw [e] at h'; exact h'.elim
    | some c =>
      rw [e] at h'
      obtain ⟨a, rfl, _, ci⟩ := ptr_cell rel i e
      cases c with
      | lst ds =>
        obtain ⟨vs, h1, _⟩ := ci
        exact .inl ⟨h', vs, .of (j.sub _ _ h1)⟩
      | dK ds =>
        obtain ⟨vs, h1, _⟩ := ci
        exact .inr (.inr (.inl ⟨h', .inl ⟨vs, j.sub _ _ h1⟩⟩))
      | _ => exact h'.elim
  | _ => exact (show False from h).elim
section
variable {X : Cx} {o e : Expr} {es : List Expr} {to : TED} {t : TAD} {name : Str} {apos cpos : Pos} {T id : String} {r : V → List V → Hp → VK → Prop} {r' : RMD}
theorem de_bm (pa : PlainAttrs T) (slot : Slot T name id) (hty : typeOf (.builtin id) = pure (.type "method_descriptor")) (hm : MtR X id r) (ok : OkM X.K r r') (ho : DE X o to) (ha : DA X (e :: es) t)
    (hbase : attributeBase o name X.env (eval o X.env) = eval o X.env := by rfl)
    (hfew : ((backTo cpos (starEach (e :: es) X.env)).all (fun x => !x.1) && (backToKw cpos (keywordEach [] X.env)).all (fun x => x.1.isSome)
      && decide ((e :: es).length + ([] : List Keyword).length + (if ([] : List Keyword).isEmpty then 0 else 1) < 30)) = true := by rfl)
    (hline : (apos.endLine == cpos.line) = true := by rfl) (hs : starEach (e :: es) X.env = (false, eval e X.env) :: starEach es X.env := by rfl) (hplain : (backTo cpos (starEach es X.env)).any (·.1) = false := by rfl) :
    DE X (.Call (.Attribute o name apos) (e :: es) [] cpos) (dBM T r' to t) :=
  pe_imp (pe_bm pa slot hty hm ho ha hbase hfew hline hs hplain) fun σ H Q ⟨W, F, δ, R, j, rel, sl, q, k⟩ => ⟨W, F, δ, _, j, rel, sl, q, fun v W1 d H1 S1 rel1 j1 i q =>
    ⟨tyD_is rel1 j1 i q.1, W1, F, δ, _, j1, rel1, sl.to S1, q.2, fun vs W2 ds H2 S2 rel2 j2 is q2 => ok W2 F H2 v vs d ds Q R j2 rel2 (i.to S2) is q2 (k.to (S1.full S2))⟩⟩
theorem de_bm0 (pa : PlainAttrs T) (slot : Slot T name id) (hty : typeOf (.builtin id) = pure (.type "method_descriptor")) (hm : MtR X id r) (ok : OkM X.K r r') (ho : DE X o to)
    (hbase : attributeBase o name X.env (eval o X.env) = eval o X.env := by rfl) (hline : (apos.endLine == cpos.line) = true := by rfl) : DE X (.Call (.Attribute o name apos) [] [] cpos) (dBM T r' to dNil) :=
  pe_imp (pe_bm0 pa slot hty hm ho hbase hline) fun σ H Q ⟨W, F, δ, R, j, rel, sl, q, k⟩ => ⟨W, F, δ, _, j, rel, sl, q, fun v W1 d H1 S1 rel1 j1 i q =>
    ⟨tyD_is rel1 j1 i q.1, ok W1 F H1 v [] d [] Q R j1 rel1 i rfl q.2 (k.to S1)⟩⟩
end
def ptrL (x : D) (cs : Cs) (Q : Nat → List D → Prop) : Prop := match x with
  | .ptr k => lstAt cs[k]? (Q k)
  | _ => False
theorem ptrL_is {K : PySem.W.Frag} {W : Wd} {x : D} {v : V} {Q : Nat → List D → Prop} (rel : Rel K W) (i : Is K W x v) (h : ptrL x W.cs Q) : ∃ k a ds vs, v = .ref a ∧ W.al[k]? = some a ∧ W.cs[k]? = some (.lst ds) ∧ W.H a = some (.lst vs) ∧ Iss K W ds vs ∧ Q k ds := by
  cases x with
  | ptr k =>
    obtain ⟨ds, e, q⟩ := lstAt_is (show lstAt W.cs[k]? (Q k) from h)
    obtain ⟨a, r, ea, vs, e2, is⟩ := ptr_cell rel i e
    exact ⟨k, a, ds, vs, r, ea, e, e2, is, q⟩
  | _ => exact (show False from h).elim
/-- xs.append(y) -/
def appD : RMD := fun x ds cs Q => match ds with
  | [d] => ptrL x cs fun k xs => xs.length < sizeLine ∧ Q .non (cs.set k (.lst (xs ++ [d])))
  | _ => False
theorem ok_app {K : PySem.W.Frag} : OkM K rAppend appD := fun W F H x vs dx ds Q R j rel ix is r k => by
  unfold appD at r
  split at r
  · obtain ⟨v, l, rfl, h1, h2⟩ := is
    cases (show l = [] from h2)
    obtain ⟨n, a, xs, us, rfl, ea, e, hH, iu, hz, r⟩ := ptrL_is rel ix r
    refine ⟨a, us, v, rfl, rfl, j.sub _ _ hH, by rw [← iss_len iu]; exact hz, ?_⟩
    exact k .non (W.put n a (.lst (us ++ [v])) (.lst (xs ++ [_]))) .non _ (put_stp ea e rfl) (cel_lst rel ea e rfl (iu.append (.one h1))) (j.put hH _) rfl r
  · exact r.elim
/-- xs.extend(ys) -/
def extD : RMD := fun x ds cs Q => match ds with
  | [d] => ptrL x cs fun k xs => asTL cs d fun ys => xs.length + ys.length ≤ sizeLine ∧ Q .non (cs.set k (.lst (xs ++ ys)))
  | _ => False
theorem ok_ext {K : PySem.W.Frag} : OkM K rExtend extD := fun W F H x vs dx ds Q R j rel ix is r k => by
  unfold extD at r
  split at r
  · obtain ⟨v, l, rfl, h1, h2⟩ := is
    cases (show l = [] from h2)
    obtain ⟨n, a, xs, us, rfl, ea, e, hH, iu, r⟩ := ptrL_is rel ix r
    obtain ⟨b, ys, ws, rfl, hb, iw, hz, r⟩ := asTL_is rel j h1 r
    refine ⟨a, b, us, ws, rfl, rfl, j.sub _ _ hH, hb, by rw [← iss_len iu, ← iss_len iw]; exact hz, ?_⟩
    exact k .non (W.put n a (.lst (us ++ ws)) (.lst (xs ++ ys))) .non _ (put_stp ea e rfl) (cel_lst rel ea e rfl (iu.append iw)) (j.put hH _) rfl r
  · exact r.elim
/-- xs.pop(i) -/
def popD : RMD := fun x ds cs Q => match ds with
  | [.int i] => ptrL x cs fun k xs => -(2 ^ 63) ≤ i ∧ i < 2 ^ 63 ∧ ∃ n y, seqIndex? i xs.length = some n ∧ xs[n]? = some y ∧ Q y (cs.set k (.lst (xs.eraseIdx n)))
  | _ => False
theorem ok_pop {K : PySem.W.Frag} : OkM K rPopAt popD := fun W F H x vs dx ds Q R j rel ix is r k => by
  unfold popD at r
  split at r
  · obtain ⟨v, l, rfl, h1, h2⟩ := is
    cases (show l = [] from h2)
    cases h1
    obtain ⟨n, a, xs, us, rfl, ea, e, hH, iu, b1, b2, m, y, hm, hy, r⟩ := ptrL_is rel ix r
    obtain ⟨u, hu, iy⟩ := iu.get hy
    refine ⟨a, us, _, m, u, rfl, rfl, j.sub _ _ hH, b1, b2, by rw [← iss_len iu]; exact hm, hu, ?_⟩
    exact k u (W.put n a (.lst (us.eraseIdx m)) (.lst (xs.eraseIdx m))) y _ (put_stp ea e rfl) (cel_lst rel ea e rfl (iu.eraseIdx m)) (j.put hH _) (iy.to (put_stp ea e rfl)) r
  · exact r.elim
section
variable {X : Cx} {o e : Expr} {to : TED} {t : TAD} {apos cpos : Pos}
theorem de_append (ho : DE X o to) (ha : DA X [e] t)
    (hbase : attributeBase o "append" X.env (eval o X.env) = eval o X.env := by rfl)
    (hfew : ((backTo cpos (starEach [e] X.env)).all (fun x => !x.1) && (backToKw cpos (keywordEach [] X.env)).all (fun x => x.1.isSome)
      && decide (([e] : List Expr).length + ([] : List Keyword).length + (if ([] : List Keyword).isEmpty then 0 else 1) < 30)) = true := by rfl)
    (hline : (apos.endLine == cpos.line) = true := by rfl) (hs : starEach [e] X.env = (false, eval e X.env) :: starEach [] X.env := by rfl) (hplain : (backTo cpos (starEach [] X.env)).any (·.1) = false := by rfl) :
    DE X (.Call (.Attribute o "append" apos) [e] [] cpos) (dBM "list" appD to t) := de_bm PySem.F.plainAttrs_list PySem.F.slot_list_append PySem.F.type_list_append mt_append ok_app ho ha hbase hfew hline hs hplain
theorem de_extend (ho : DE X o to) (ha : DA X [e] t)
    (hbase : attributeBase o "extend" X.env (eval o X.env) = eval o X.env := by rfl)
    (hfew : ((backTo cpos (starEach [e] X.env)).all (fun x => !x.1) && (backToKw cpos (keywordEach [] X.env)).all (fun x => x.1.isSome)
      && decide (([e] : List Expr).length + ([] : List Keyword).length + (if ([] : List Keyword).isEmpty then 0 else 1) < 30)) = true := by rfl)
    (hline : (apos.endLine == cpos.line) = true := by rfl) (hs : starEach [e] X.env = (false, eval e X.env) :: starEach [] X.env := by rfl) (hplain : (backTo cpos (starEach [] X.env)).any (·.1) = false := by rfl) :
    DE X (.Call (.Attribute o "extend" apos) [e] [] cpos) (dBM "list" extD to t) := de_bm PySem.F.plainAttrs_list PySem.F.slot_list_extend PySem.F.type_list_extend mt_extend ok_ext ho ha hbase hfew hline hs hplain
theorem de_popAt (ho : DE X o to) (ha : DA X [e] t)
    (hbase : attributeBase o "pop" X.env (eval o X.env) = eval o X.env := by rfl)
    (hfew : ((backTo cpos (starEach [e] X.env)).all (fun x => !x.1) && (backToKw cpos (keywordEach [] X.env)).all (fun x => x.1.isSome)
      && decide (([e] : List Expr).length + ([] : List Keyword).length + (if ([] : List Keyword).isEmpty then 0 else 1) < 30)) = true := by rfl)
    (hline : (apos.endLine == cpos.line) = true := by rfl) (hs : starEach [e] X.env = (false, eval e X.env) :: starEach [] X.env := by rfl) (hplain : (backTo cpos (starEach [] X.env)).any (·.1) = false := by rfl) :
    DE X (.Call (.Attribute o "pop" apos) [e] [] cpos) (dBM "list" popD to t) := de_bm PySem.F.plainAttrs_list PySem.F.slot_list_pop PySem.F.type_list_pop mt_popAt ok_pop ho ha hbase hfew hline hs hplain
/-- d.get(k) -/
def optD (o : Option D) : D := o.getD .non
def dGet1 (td ty : TED) : TED := fun δ cs Q => td δ cs fun x c1 => asDk c1 x fun _ => ty δ c1 fun y c2 => asDk c2 x fun kvs => asKey y fun k => Q (optD (valG kvs k)) c2
theorem de_dget1 {ty : TED} (hu : X.A.units + 1 < cLine) (ho : DE X o to) (he : DE X e ty) (m : M1 X o "get" apos e cpos := by exact ⟨rfl, rfl, rfl, rfl⟩) : DE X (.Call (.Attribute o "get" apos) [e] [] cpos) (dGet1 to ty) :=
  pe_imp (pe_dget1 hu ho he m) fun σ H Q ⟨W, F, δ, R, j, rel, sl, q, k⟩ => ⟨W, F, δ, _, j, rel, sl, q, fun v W1 d H1 S1 rel1 j1 i q => by
    obtain ⟨n, a, ds, vs, rfl, rfl, ea, ec, eh, is, q⟩ := asDk_is rel1 j1 i q
    refine ⟨a, rfl, .inl ⟨vs, .inl (j1.sub _ _ eh)⟩, W1, F, δ, _, j1, rel1, sl.to S1, q, fun u W2 dy H2 S2 rel2 j2 iy q2 => ?_⟩
    obtain ⟨n', a', ds', vs', e1, e2, ea', ec', eh', is', q2⟩ := asDk_is rel2 j2 (i.to S2) q2
    cases e2
    obtain ⟨key, rfl, q2⟩ := asKey_is iy q2
    refine ⟨valV vs' key, .k (j2.sub _ _ eh'), ?_⟩
    obtain ⟨h1, h2⟩ := isK_val (k := key) is'
    unfold optD at q2
    cases ev : valG ds' key with
    | none => rw [h2 ev]; rw [ev] at q2; exact k .non W2 .non H2 (S1.full S2) rel2 j2 rfl q2
    | some d => obtain ⟨w, e3, id⟩ := h1 d ev; rw [e3]; rw [ev] at q2; exact k w W2 d H2 (S1.full S2) rel2 j2 id q2⟩
/-- {} -/
def dNewK : TED := fun _ cs Q => Q (.ptr cs.length) (cs ++ [.dK []])
theorem de_newK {pos : Pos} : DE X (.Dict [] [] pos) dNewK :=
  pe_imp pe_dnewK fun σ H Q ⟨W, F, δ, R, j, rel, sl, q, k⟩ p hp => k (.ref p) (W.push p (.dK []) (.dK [])) (.ptr W.cs.length) _ (push_stp (j.none hp) _ _ rel.len) (rel.push (j.none hp) ⟨[], upd_same, rfl⟩) (j.new hp _) (push_is rel) q
end
/-! ### what is walked -/
section
variable {K : PySem.W.Frag} {W1 : Wd} {ds es : List D} {a b : Addr} {G : Cs → Prop}
/-- that the list stands, at every turn -/
def Stands (K : PySem.W.Frag) (W1 : Wd) (a : Addr) (ds : List D) (G : Cs → Prop) : Prop := ∀ (W : Wd) (F H : Hp), Stp W1.al.length W1 W → Rel K W → Jn W.H F H → G W.cs → ∃ vs, SqL K H a vs ∧ Iss K W ds vs
theorem Stands.mono {G' : Cs → Prop} (h : Stands K W1 a ds G) (g : ∀ c, G' c → G c) : Stands K W1 a ds G' := fun W F H S r j q => h W F H S r j (g _ q)
theorem iter_list (h : Stands K W1 a ds G) : IterOk K W1 (Itl K a) ds G where
  goes := fun i W F H S r j g hi => by
    obtain ⟨vs, hs, is⟩ := h W F H S r j g
    have hl := iss_len is
    exact ⟨vs, vs[i]'(by omega), hs, List.getElem?_eq_getElem (by omega)⟩
  stops := fun W F H S r j g => by
    obtain ⟨vs, hs, is⟩ := h W F H S r j g
    exact ⟨vs, hs, by rw [iss_len is]; exact Nat.le_refl _⟩
  yields := fun i W F H x H' S r j g hi y => by
    obtain ⟨vs, hs, is⟩ := h W F H S r j g
    obtain ⟨e, y⟩ := y
    subst e
    obtain ⟨d, hd, id⟩ := is.get' (y vs hs)
    exact ⟨W, d, j, .refl, r, rfl, hd, id⟩
def pairs (xs ys : List D) : List D := (xs.zip ys).map fun p => .tup [p.1, p.2]
def enumD (xs : List D) : List D := (List.range xs.length).zip xs |>.map fun p => .tup [.int p.1, p.2]
theorem enumD_len (xs : List D) : (enumD xs).length = xs.length := by simp [enumD]
theorem enumD_get {xs : List D} {i : Nat} {d : D} (h : xs[i]? = some d) : (enumD xs)[i]? = some (.tup [.int i, d]) := by
  have hi := (List.getElem?_eq_some_iff.mp h).1
  unfold enumD
  have e : ((List.range xs.length).zip xs)[i]? = some (i, d) := List.getElem?_zip_eq_some.mpr ⟨by simp [hi], h⟩
  rw [List.getElem?_map, e]
  rfl
theorem pairs_get {xs ys : List D} {i : Nat} {d e : D} (h : xs[i]? = some d) (h' : ys[i]? = some e) : (pairs xs ys)[i]? = some (.tup [d, e]) := by
  unfold pairs
  have q : (xs.zip ys)[i]? = some (d, e) := List.getElem?_zip_eq_some.mpr ⟨h, h'⟩
  rw [List.getElem?_map, q]
  rfl
theorem iter_enum (h : Stands K W1 a ds G) : IterOk K W1 (Ite K a) (enumD ds) G where
  goes := fun i W F H S r j g hi => by
    rw [enumD_len] at hi
    obtain ⟨vs, hs, is⟩ := h W F H S r j g
    have hl := iss_len is
    exact ⟨vs, vs[i]'(by omega), hs, List.getElem?_eq_getElem (by omega)⟩
  stops := fun W F H S r j g => by
    rw [enumD_len]
    obtain ⟨vs, hs, is⟩ := h W F H S r j g
    exact ⟨vs, hs, by rw [iss_len is]; exact Nat.le_refl _⟩
  yields := fun i W F H x H' S r j g hi y => by
    obtain ⟨vs, hs, is⟩ := h W F H S r j g
    obtain ⟨T, z, rfl, hT, rfl, y⟩ := y
    obtain ⟨d, hd, id⟩ := is.get' (y vs hs)
    have hTn := j.none hT
    exact ⟨W.add T (.tup [.int (i : Nat), z]), .tup [.int i, d], j.new hT _, add_stp hTn _, r.add hTn _, rfl, enumD_get hd, r.newTup hTn ⟨_, _, rfl, rfl, .one id⟩⟩
theorem iter_zip (h : Stands K W1 a ds G) (h' : Stands K W1 b es G) : IterOk K W1 (Itz K a b) (pairs ds es) G where
  goes := fun i W F H S r j g hi => by
    obtain ⟨vs, hs, is⟩ := h W F H S r j g
    obtain ⟨us, hu, iu⟩ := h' W F H S r j g
    have hl := iss_len is
    have hl' := iss_len iu
    simp only [pairs, List.length_map, List.length_zip] at hi
    exact ⟨vs, us, vs[i]'(by omega), us[i]'(by omega), hs, hu, List.getElem?_eq_getElem (by omega), List.getElem?_eq_getElem (by omega)⟩
  stops := fun W F H S r j g => by
    obtain ⟨vs, hs, is⟩ := h W F H S r j g
    obtain ⟨us, hu, iu⟩ := h' W F H S r j g
    have hl := iss_len is
    have hl' := iss_len iu
    refine ⟨vs, us, hs, hu, ?_⟩
    simp only [pairs, List.length_map, List.length_zip]
    omega
  yields := fun i W F H x H' S r j g hi y => by
    obtain ⟨vs, hs, is⟩ := h W F H S r j g
    obtain ⟨us, hu, iu⟩ := h' W F H S r j g
    obtain ⟨T, z, w, rfl, hT, rfl, y1, y2⟩ := y
    obtain ⟨d, hd, id⟩ := is.get' (y1 vs hs)
    obtain ⟨e, he, ie⟩ := iu.get' (y2 us hu)
    have hTn := j.none hT
    exact ⟨W.add T (.tup [z, w]), .tup [d, e], j.new hT _, add_stp hTn _, r.add hTn _, rfl, pairs_get hd he, r.newTup hTn ⟨_, _, rfl, id, .one ie⟩⟩
theorem iter_range {lo : Int} {n : Nat} : IterOk K W1 (Itr lo n) ((List.range n).map fun i => D.int (lo + (i : Nat))) (fun _ => True) where
  goes := fun i W F H S r j g hi => by show i < n; simpa using hi
  stops := fun W F H S r j g => by show n ≤ _; simp
  yields := fun i W F H x H' S r j g hi y => by
    obtain ⟨e, y⟩ := y
    subst e y
    exact ⟨W, .int (lo + i), j, .refl, r, rfl, by simp at hi; simp [hi], rfl⟩
theorem iter_str {s : Str} : IterOk K W1 (Its s) (s.cps.toList.map fun c => D.str ⟨#[c]⟩) (fun _ => True) where
  goes := fun i W F H S r j g hi => by show i < s.cps.size; simpa using hi
  stops := fun W F H S r j g => by show s.cps.size ≤ _; simp
  yields := fun i W F H x H' S r j g hi y => by
    obtain ⟨e, c, hc, y⟩ := y
    subst e y
    exact ⟨W, .str ⟨#[c]⟩, j, .refl, r, rfl, by simp [hc], rfl⟩
end
/-- a list that stands: the items, and what must hold of the cells for it to stand -/
def asLG (cs : Cs) (d : D) (Q : List D → (Cs → Prop) → Prop) : Prop := match d with
  | .lst ds => Q ds fun _ => True
  | .scr ns => Q (ns.map .int) fun _ => True
  | .ptr k => lstAt cs[k]? fun ds => Q ds fun c => c[k]? = some (.lst ds)
  | _ => False
theorem asLG_is {K : PySem.W.Frag} {W : Wd} {F H : Hp} {d : D} {v : V} {Q : List D → (Cs → Prop) → Prop} (rel : Rel K W) (j : Jn W.H F H) (i : Is K W d v) (h : asLG W.cs d Q) :
    ∃ a ds vs G, v = .ref a ∧ SqL K H a vs ∧ Stands K W a ds G ∧ Q ds G := by
  cases d with
  | lst ds =>
    obtain ⟨a, vs, rfl, e, n, is⟩ := i
    exact ⟨a, ds, vs, _, rfl, .of (j.sub _ _ e), fun W' F' H' S r j' _ => ⟨vs, .of (j'.sub _ _ (S.keep _ _ e n)), is.to S⟩, h⟩
  | scr ns =>
    obtain ⟨a, rfl, e⟩ := i
    refine ⟨a, _, ns.map V.int, _, rfl, ?_, fun W' F' H' S r j' _ => ⟨ns.map V.int, ?_, iss_ints ns⟩, h⟩
    · rcases e with ⟨o, e, _⟩ | e
      · exact .inl (.inr ⟨o, j.sub _ _ e⟩)
      · exact .inr e
    · rcases e with ⟨o, e, n⟩ | e
      · exact .inl (.inr ⟨o, j'.sub _ _ (S.keep _ _ e n)⟩)
      · exact .inr e
  | ptr k =>
    obtain ⟨ds, e, q⟩ := lstAt_is (show lstAt W.cs[k]? _ from h)
    obtain ⟨a, rfl, ea, vs, eh, is⟩ := ptr_cell rel i e
    refine ⟨a, ds, vs, _, rfl, .of (j.sub _ _ eh), fun W' F' H' S r j' g => ?_, q⟩
    have hk : k < W.al.length := (List.getElem?_eq_some_iff.mp ea).1
    obtain ⟨vs', e', is'⟩ := r.cel k a _ (S.al k a hk ea) g
    exact ⟨vs', .of (j'.sub _ _ e'), is'⟩
  | _ => exact (show False from h).elim
def iListD (t : TED) : TID := fun δ cs R => t δ cs fun d c1 => asLG c1 d fun ds G => R ds G c1
def iTupD (t : TED) : TID := fun δ cs R => t δ cs fun d c1 => asT d fun ds => R ds (fun _ => True) c1
def iStrD (t : TED) : TID := fun δ cs R => t δ cs fun d c1 => asS d fun s => R (s.cps.toList.map fun c => D.str ⟨#[c]⟩) (fun _ => True) c1
def iEnumD (t : TED) : TID := fun δ cs R => t δ cs fun d c1 => asLG c1 d fun ds G => R (enumD ds) G c1
def iZipD (t u : TED) : TID := fun δ cs R => t δ cs fun d c1 => u δ c1 fun e c2 => asLG c2 d fun ds G => asLG c2 e fun es G' => R (pairs ds es) (fun c => G c ∧ G' c) c2
def iRng1D (t : TED) : TID := fun δ cs R => t δ cs fun d c1 => asI d fun n => -(2 ^ 62) ≤ n ∧ n < 2 ^ 62 ∧ R ((List.range n.toNat).map fun i => D.int (0 + (i : Nat))) (fun _ => True) c1
def iRng2D (t u : TED) : TID := fun δ cs R => t δ cs fun d c1 => u δ c1 fun e c2 => asI d fun n => asI e fun m => (-(2 ^ 62) ≤ n ∧ n < 2 ^ 62 ∧ -(2 ^ 62) ≤ m ∧ m < 2 ^ 62) ∧ R ((List.range (m - n).toNat).map fun i => D.int (n + (i : Nat))) (fun _ => True) c2
section
variable {X : Cx} {tg l : Expr} {t : TED}
theorem di_list (h : DE X l t) : DI X tg l (iListD t) := pi_imp (pi_list h) fun σ H R ⟨W, F, δ, RR, j, rel, sl, q, k⟩ => ⟨W, F, δ, _, j, rel, sl, q, fun v W1 d H1 S1 rel1 j1 i q => by
  obtain ⟨a, ds, vs, G, rfl, hs, st, q⟩ := asLG_is rel1 j1 i q
  exact ⟨a, rfl, ⟨vs, hs⟩, k ds G W1 H1 _ S1 rel1 j1 (iter_list st) q⟩⟩
theorem di_tup (h : DE X l t) : DI X tg l (iTupD t) := pi_imp (pi_tup h) fun σ H R ⟨W, F, δ, RR, j, rel, sl, q, k⟩ => ⟨W, F, δ, _, j, rel, sl, q, fun v W1 d H1 S1 rel1 j1 i q => by
  cases d with
  | tup ds =>
    obtain ⟨a, vs, rfl, e, n, is⟩ := i
    refine ⟨a, rfl, ⟨vs, .of (j1.sub _ _ e)⟩, k ds (fun _ => True) W1 H1 _ S1 rel1 j1 ?_ q⟩
    have st : ∀ (W' : Wd) (F' H' : Hp), Stp W1.al.length W1 W' → Jn W'.H F' H' → SqT X.K H' a vs ∧ Iss X.K W' ds vs := fun W' F' H' S j' => ⟨.of (j'.sub _ _ (S.keep _ _ e n)), is.to S⟩
    have hl := iss_len is
    exact ⟨fun i W F H S r j g hi => ⟨vs, vs[i]'(by omega), (st W F H S j).1, List.getElem?_eq_getElem (by omega)⟩, fun W F H S r j g => ⟨vs, (st W F H S j).1, by omega⟩, fun i W F H x H' S r j g hi y => by
      obtain ⟨e, y⟩ := y
      subst e
      obtain ⟨d, hd, id⟩ := (st W F _ S j).2.get' (y vs (st W F _ S j).1)
      exact ⟨W, d, j, .refl, r, rfl, hd, id⟩⟩
  | _ => exact (show False from q).elim⟩
theorem di_str (h : DE X l t) : DI X tg l (iStrD t) := pi_imp (pi_str h) fun σ H R ⟨W, F, δ, RR, j, rel, sl, q, k⟩ => ⟨W, F, δ, _, j, rel, sl, q, fun v W1 d H1 S1 rel1 j1 i q => by
  obtain ⟨s, rfl, _, q⟩ := asS_is i q
  exact ⟨s, rfl, k _ _ W1 H1 _ S1 rel1 j1 iter_str q⟩⟩
def oneL (ds : List D) (Q : D → Prop) : Prop := match ds with
  | [d] => Q d
  | _ => False
def twoL (ds : List D) (Q : D → D → Prop) : Prop := match ds with
  | [d, e] => Q d e
  | _ => False
theorem oneL_is {K : PySem.W.Frag} {W : Wd} {ds : List D} {vs : List V} {Q : D → Prop} (is : Iss K W ds vs) (h : oneL ds Q) : ∃ d v, vs = [v] ∧ Is K W d v ∧ Q d := by
  unfold oneL at h
  split at h
  · obtain ⟨v, r, rfl, h1, h2⟩ := is
    cases (show r = [] from h2)
    exact ⟨_, v, rfl, h1, h⟩
  · exact h.elim
theorem twoL_is {K : PySem.W.Frag} {W : Wd} {ds : List D} {vs : List V} {Q : D → D → Prop} (is : Iss K W ds vs) (h : twoL ds Q) : ∃ d v e u, vs = [v, u] ∧ Is K W d v ∧ Is K W e u ∧ Q d e := by
  unfold twoL at h
  split at h
  · obtain ⟨v, r, rfl, h1, u, r2, rfl, h2, h3⟩ := is
    cases (show r2 = [] from h3)
    exact ⟨_, v, _, u, rfl, h1, h2, h⟩
  · exact h.elim
theorem di_range1 {a : Expr} {p pos : Pos} (hg : Gl X "range") (hm : X.mg "range" = none) (h : DE X a t) (hs : starEach [a] X.env = [(false, eval a X.env)] := by rfl) : DI X tg (.Call (.Name "range" p) [a] [] pos) (iRng1D t) :=
  pi_imp (pi_range1 hg hm (da_cons h da_nil hs) hs) fun σ H R ⟨W, F, δ, RR, j, rel, sl, q, k⟩ => ⟨W, F, δ, fun ds c1 => oneL ds fun d => asI d fun n => -(2 ^ 62) ≤ n ∧ n < 2 ^ 62 ∧ RR ((List.range n.toNat).map fun i => D.int (0 + (i : Nat))) (fun _ => True) c1, j, rel, sl, q, fun vs W1 ds H1 S1 rel1 j1 is q => by
    obtain ⟨d, v, rfl, i, q⟩ := oneL_is is q
    obtain ⟨n, rfl, _, h1, h2, q⟩ := asI_is i q
    exact ⟨n, rfl, h1, h2, k _ _ W1 H1 _ S1 rel1 j1 iter_range q⟩⟩
theorem di_range2 {a b : Expr} {u : TED} {p pos : Pos} (hg : Gl X "range") (hm : X.mg "range" = none) (h : DE X a t) (h' : DE X b u) (hs : starEach [a, b] X.env = [(false, eval a X.env), (false, eval b X.env)] := by rfl) (hs2 : starEach [b] X.env = [(false, eval b X.env)] := by rfl)
    (hs3 : starEach (a :: [b]) X.env = (false, eval a X.env) :: starEach [b] X.env := by rfl) (hs4 : starEach (b :: []) X.env = (false, eval b X.env) :: starEach [] X.env := by rfl) : DI X tg (.Call (.Name "range" p) [a, b] [] pos) (iRng2D t u) :=
  pi_imp (pi_range2 hg hm (da_cons h (da_cons h' da_nil hs4) hs3) hs hs2) fun σ H R ⟨W, F, δ, RR, j, rel, sl, q, k⟩ => ⟨W, F, δ, fun ds c1 => twoL ds fun d e => asI d fun n => asI e fun m => (-(2 ^ 62) ≤ n ∧ n < 2 ^ 62 ∧ -(2 ^ 62) ≤ m ∧ m < 2 ^ 62) ∧ RR ((List.range (m - n).toNat).map fun i => D.int (n + (i : Nat))) (fun _ => True) c1, j, rel, sl, q, fun vs W1 ds H1 S1 rel1 j1 is q => by
    obtain ⟨d, v, e, w, rfl, i, i', q⟩ := twoL_is is q
    obtain ⟨n, rfl, _, q⟩ := asI_is i q
    obtain ⟨m, rfl, _, h1, q⟩ := asI_is i' q
    exact ⟨n, m, rfl, h1, k _ _ W1 H1 _ S1 rel1 j1 iter_range q⟩⟩
theorem di_enum {e : Expr} {p pos tpos : Pos} {elts : List Expr} {kk : Nat} (hg : Gl X "enumerate") (hm : X.mg "enumerate" = none) (h : DE X e t) (hs : starEach [e] X.env = [(false, eval e X.env)] := by rfl) : DI X (.Tuple elts kk tpos) (.Call (.Name "enumerate" p) [e] [] pos) (iEnumD t) :=
  pi_imp (pi_enum hg hm (da_cons h da_nil hs) hs) fun σ H R ⟨W, F, δ, RR, j, rel, sl, q, k⟩ => ⟨W, F, δ, fun ds c1 => oneL ds fun d => asLG c1 d fun ds G => RR (enumD ds) G c1, j, rel, sl, q, fun vs W1 ds H1 S1 rel1 j1 is q => by
    obtain ⟨d, v, rfl, i, q⟩ := oneL_is is q
    obtain ⟨a, ds, vs, G, rfl, hs, st, q⟩ := asLG_is rel1 j1 i q
    exact ⟨a, vs, rfl, hs, k _ _ W1 H1 _ S1 rel1 j1 (iter_enum st) q⟩⟩
theorem di_zip {e e2 : Expr} {u : TED} {p pos tpos : Pos} {elts : List Expr} {kk : Nat} (hg : Gl X "zip") (hm : X.mg "zip" = none) (h : DE X e t) (h' : DE X e2 u) (hs : starEach [e, e2] X.env = (false, eval e X.env) :: starEach [e2] X.env := by rfl) (hs4 : starEach (e2 :: []) X.env = (false, eval e2 X.env) :: starEach [] X.env := by rfl) (hpl : (backTo pos (starEach [e2] X.env)).any (·.1) = false := by rfl) :
    DI X (.Tuple elts kk tpos) (.Call (.Name "zip" p) [e, e2] [] pos) (iZipD t u) :=
  pi_imp (pi_zip hg hm (da_cons h (da_cons h' da_nil hs4) hs) hs hpl) fun σ H R ⟨W, F, δ, RR, j, rel, sl, q, k⟩ => ⟨W, F, δ, fun ds c1 => twoL ds fun d e => asLG c1 d fun ds G => asLG c1 e fun es G' => RR (pairs ds es) (fun c => G c ∧ G' c) c1, j, rel, sl, q, fun vs W1 ds H1 S1 rel1 j1 is q => by
    obtain ⟨d, v, e, w, rfl, i, i', q⟩ := twoL_is is q
    obtain ⟨a, ds, vs, G, rfl, hs, st, q⟩ := asLG_is rel1 j1 i q
    obtain ⟨b, es, us, G', rfl, hs', st', q⟩ := asLG_is rel1 j1 i' q
    exact ⟨a, b, vs, us, rfl, hs, hs', k _ _ W1 H1 _ S1 rel1 j1 (iter_zip (st.mono fun _ g => g.1) (st'.mono fun _ g => g.2)) q⟩⟩
end
end DL
/-! DL8: defs, classes. -/
namespace DL
open PySem PySem.Spec PyProof.Rows L2
abbrev XD := Addr → List Str → List D → Cs → Prop
abbrev SpD := List D → Cs → QD → XD → Prop
def noX : XD := fun _ _ _ _ => False
def AftX (K : PySem.W.Frag) (W : Wd) (F : Hp) (Z : XD) (E : XK) : Prop :=
  ∀ (C d : Addr) (L : List Str) (ds : List D) (vs : List V) (W' : Wd) (H' : Hp), Stp W.al.length W W' → Rel K W' → Jn W'.H F H' → W'.H d = some (.xd (L.zip vs)) → ¬ W'.mu d → ds.length = L.length → Iss K W' ds vs → Z C L ds W'.cs → E (.ref C) (some d) H'
def spOf (K : PySem.W.Frag) (sp : SpD) : Sp := fun vs H Q E => ∃ (W : Wd) (F : Hp) (ds : List D) (R : QD) (Z : XD), Jn W.H F H ∧ Rel K W ∧ Iss K W ds vs ∧ sp ds W.cs R Z ∧ Aft K W F R Q ∧ AftX K W F Z E
theorem AftX.no {K : PySem.W.Frag} {W : Wd} {F : Hp} {E : XK} : AftX K W F noX E := fun _ _ _ _ _ _ _ _ _ _ _ _ _ _ z => z.elim
/-! ### a def by its body -/
def startD (N : List Str) (ds : List D) : Sd := ds.map some ++ List.replicate (N.length - ds.length) none
theorem sl_start {K : PySem.W.Frag} {W : Wd} {N : List Str} {ds : List D} {vs : List V} (is : Iss K W ds vs) : Sl K W (startD N ds) (L2.start N vs) := by
  have hl := iss_len is
  refine ⟨by simp [startD, L2.start, hl], fun i d e => ?_⟩
  unfold startD at e
  unfold L2.start
  by_cases hi : i < ds.length
  · rw [List.getElem?_append_left (by simpa using hi), List.getElem?_map] at e
    cases e2 : ds[i]? with
    | none => rw [e2] at e; cases e
    | some x =>
      rw [e2] at e; cases e
      obtain ⟨v, hv, q⟩ := is.get e2
      refine ⟨v, ?_, q⟩
      rw [List.getElem?_append_left (by simp; omega), List.getElem?_map, hv]
      rfl
  · rw [List.getElem?_append_right (by simpa using Nat.le_of_not_lt hi), List.getElem?_replicate] at e
    split at e <;> cases e
/-- what a body is to reach -/
def bodyE (lo : Nat) (R : QD) : EndsD where
  nx := fun _ c => ∃ d' c', GhV lo .non c d' c' ∧ R d' c'
  rt := fun d c => ∃ d' c', GhV lo d c d' c' ∧ R d' c'
section
variable {P : Program} {w : World} {K : PySem.W.Frag} {mg : Str → Option Value} {base : Heap}
theorem body_lk {lo : Nat} {W : Wd} {F : Hp} {R : QD} {Q : VK} (h : lo = W.al.length) (k : Aft K W F R Q) : Lk K lo W F (bodyE lo R) { nx := fun _ H' => Q .non H', rt := Q } where
  nx := fun σ W' δ H' S rel j sl hl ⟨d', c', g, q⟩ => by
    obtain ⟨W2, e, ec, S2, rel2, i2, hl2⟩ := g K W' .non rfl hl rel rfl
    exact k .non W2 d' H' (h ▸ S.tr S2 fun _ _ h _ => h) rel2 (e.symm ▸ j) i2 (ec.symm ▸ q)
  bk := fun _ _ _ _ _ _ _ _ _ q => q.elim
  ct := fun _ _ _ _ _ _ _ _ _ q => q.elim
  rt := fun v W' d H' S rel j hl i ⟨d', c', g, q⟩ => by
    obtain ⟨W2, e, ec, S2, rel2, i2, hl2⟩ := g K W' v rfl hl rel i
    exact k v W2 d' H' (h ▸ S.tr S2 fun _ _ h _ => h) rel2 (e.symm ▸ j) i2 (ec.symm ▸ q)
/-- a def that lets nothing out -/
theorem fn_d {x qual : Str} {st : Stmt} {f : Addr} {fd : FuncData} {N ps : List Str} {k : Nat} {sp : SpD} (F : Fun K x qual st f fd) (S : FnScope N ps (defScope st)) (len : ∀ ds cs R Z, sp ds cs R Z → ds.length = ps.length)
    (hbody : ∀ (cdv : Value) (A : Around) (outer : List Env) (s : Shared) (H : Hp) (E : XK), Room k (A.deeper (envOfC qual (defScope st) s.heap.objs.size f cdv)) → ∃ t, DSs (cxOf CX0 P w K mg base N qual (defScope st) f cdv A outer s H E).nox (defBody st) t ∧
      ∀ (ds : List D) (cs : Cs) (R : QD), (∃ Z, sp ds cs R Z) → t cs.length (bodyE cs.length R) (startD N ds) cs) : FnOk P w K mg base CX0 (k + 1) f fd ps (spOf K sp) := by
  refine F.ok S (fun vs H Q E ⟨W, F, ds, R, Z, j, rel, is, h, _⟩ => by rw [← iss_len is]; exact len _ _ _ _ h) (fun cdv A outer s H vs Q E hr h => ?_)
  obtain ⟨W, F, ds, R, Z, j, rel, is, h, k1, k2⟩ := h
  obtain ⟨t, ht, hq⟩ := hbody cdv A outer s H E hr
  exact ⟨_, ht, W, F, startD N ds, W.cs.length, _, j, rel, sl_start is, by rw [rel.len]; exact Nat.le_refl _, hq ds W.cs R ⟨Z, h⟩, body_lk rel.len.symm k1⟩
/-- the same, with defaults -/
theorem fn_dD {x qual : Str} {params : Arguments} {body : List Stmt} {scope : Scope} {dvs : List V} {kws : List (Str × V)} {f : Addr} {fd : FuncData} {N ps : List Str} {k : Nat} {sp : SpD} (F : FunD K x qual params body scope dvs kws f fd) (S : FnScope N ps scope) (len : ∀ ds cs R Z, sp ds cs R Z → ds.length = ps.length)
    (hbody : ∀ (cdv : Value) (A : Around) (outer : List Env) (s : Shared) (H : Hp) (E : XK), Room k (A.deeper (envOfC qual scope s.heap.objs.size f cdv)) → ∃ t, DSs (cxOf CX0 P w K mg base N qual scope f cdv A outer s H E).nox body t ∧
      ∀ (ds : List D) (cs : Cs) (R : QD), (∃ Z, sp ds cs R Z) → t cs.length (bodyE cs.length R) (startD N ds) cs) : FnOk P w K mg base CX0 (k + 1) f fd ps (spOf K sp) := by
  refine F.ok S (fun vs H Q E ⟨W, F, ds, R, Z, j, rel, is, h, _⟩ => by rw [← iss_len is]; exact len _ _ _ _ h) (fun cdv A outer s H vs Q E hr h => ?_)
  obtain ⟨W, F, ds, R, Z, j, rel, is, h, k1, k2⟩ := h
  obtain ⟨t, ht, hq⟩ := hbody cdv A outer s H E hr
  exact ⟨_, PSs.nox ht, W, F, startD N ds, W.cs.length, _, j, rel, sl_start is, by rw [rel.len]; exact Nat.le_refl _, hq ds W.cs R ⟨Z, h⟩, body_lk rel.len.symm k1⟩
end
/-! ### calls of defs -/
def Dfl (K : PySem.W.Frag) (ddv : List D) (dvs : List V) : Prop := ∀ W, Iss K W ddv dvs
theorem Dfl.nil {K : PySem.W.Frag} : Dfl K [] [] := fun _ => rfl
def dCall (sp : SpD) (ddv : List D) (t : TAD) : TED := fun δ cs Q => t δ cs fun ds c1 => sp (ds ++ ddv) c1 Q noX
theorem up_call {K : PySem.W.Frag} {sp : SpD} {ddv : List D} {dvs : List V} {t : TAD} {E : XK} (hd : Dfl K ddv dvs) : ∀ σ H Q, up K (dCall sp ddv t) σ H Q → tCall (spOf K sp) dvs E (upA K t) σ H Q := fun σ H Q ⟨W, F, δ, R, j, rel, sl, q, k⟩ =>
  ⟨W, F, δ, _, j, rel, sl, q, fun vs W1 ds H1 S1 rel1 j1 is q => ⟨W1, F, ds ++ ddv, R, noX, j1, rel1, is.append (hd W1), q, k.to S1, .no⟩⟩
section
variable {X : Cx} {k : Nat} {f C : Addr} {fd : FuncData} {ps : List Str} {sp : SpD} {ddv : List D} {dvs : List V} {ds : List Value} {x m : Str} {p pos apos : Pos} {e o : Expr} {es : List Expr} {ta : TED} {t : TAD}
theorem de_call (F : FnOk X.prog X.w X.K X.mg X.base CX0 k f fd ps (spOf X.K sp)) (hr : Room k X.A) (hg : Gl X x) (hm : X.mg x = some (.ref f)) (hk : PySem.W.keepIn X.K (.ref f) = true) (hb : Binds X.K fd ps ds) (hd : Vals dvs ds) (hD : Dfl X.K ddv dvs)
    (ha : DA X (e :: es) t) (hdb : (x == ("__debug__" : Str)) = false := by decide) (he : starEach (e :: es) X.env = (false, eval e X.env) :: starEach es X.env := by rfl) (hpl : (backTo pos (starEach es X.env)).any (·.1) = false := by rfl) :
    DE X (.Call (.Name x p) (e :: es) [] pos) (dCall sp ddv t) := pe_imp (pe_call (E := E0) F hr hg hm hk hb hd pass0 ha hdb he hpl) (up_call hD)
theorem de_call0 (F : FnOk X.prog X.w X.K X.mg X.base CX0 k f fd ps (spOf X.K sp)) (hr : Room k X.A) (hg : Gl X x) (hm : X.mg x = some (.ref f)) (hk : PySem.W.keepIn X.K (.ref f) = true) (hb : Binds X.K fd ps ds) (hd : Vals dvs ds) (hD : Dfl X.K ddv dvs)
    (hdb : (x == ("__debug__" : Str)) = false := by decide) : DE X (.Call (.Name x p) [] [] pos) (dCall sp ddv dNil) :=
  pe_imp (pe_call0 (E := E0) F hr hg hm hk hb hd pass0 hdb) fun σ H Q ⟨W, F, δ, R, j, rel, sl, q, k⟩ => ⟨W, F, ddv, R, noX, j, rel, hD W, q, k, .no⟩
end
/-! ### instances -/
def insC (Q : Addr → List Str → List D → Prop) : Option Cel → Prop
  | some (.ins C L ds) => Q C L ds
  | _ => False
def insOf (cs : Cs) (d : D) (Q : Addr → List Str → List D → Prop) : Prop := match d with
  | .obj C L ds => Q C L ds
  | .ptr k => insC Q cs[k]?
  | _ => False
theorem insOf_is {K : PySem.W.Frag} {W : Wd} {d : D} {v : V} {Q : Addr → List Str → List D → Prop} (rel : Rel K W) (i : Is K W d v) (h : insOf W.cs d Q) :
    ∃ a C L ds dx vs, v = .ref a ∧ W.H a = some (.ins C dx ((L.take ds.length).zip vs)) ∧ ds.length ≤ L.length ∧ Iss K W ds vs ∧ Q C L ds := by
  cases d with
  | obj C L ds =>
    obtain ⟨a, dx, vs, rfl, e, _, hl, is⟩ := i
    exact ⟨a, C, L, ds, dx, vs, rfl, e, hl, is, h⟩
  | ptr k =>
    have h' : insC Q W.cs[k]? := h
    cases e : W.cs[k]? with
    | none => rw [e] at h'; exact h'.elim
    | some c =>
      rw [e] at h'
      obtain ⟨a, rfl, _, ci⟩ := ptr_cell rel i e
      cases c with
      | ins C L ds =>
        obtain ⟨dx, vs, e2, hl, is⟩ := ci
        exact ⟨a, C, L, ds, dx, vs, rfl, e2, hl, is, h'⟩
      | _ => exact h'.elim
  | _ => exact (show False from h).elim
theorem lookup_zip_none {L : List Str} {m : Str} (h : m ∉ L) : ∀ (n : Nat) (vs : List V), ((L.take n).zip vs).lookup m = none := by
  intro n vs
  have key : ∀ (L : List Str) (vs : List V), m ∉ L → (L.zip vs).lookup m = none := by
    intro L
    induction L with
    | nil => intro vs _; rfl
    | cons l L ih =>
      intro vs hm
      cases vs with
      | nil => rfl
      | cons v vs =>
        have h1 : ¬ m = l := fun e => hm (by rw [e]; exact List.mem_cons_self)
        have h2 : m ∉ L := fun e => hm (List.mem_cons_of_mem _ e)
        have hb : (m == l) = false := beq_eq_false_iff_ne.mpr h1
        rw [List.zip_cons_cons, List.lookup_cons, hb]
        exact ih vs h2
  exact key _ vs fun e => h (List.mem_of_mem_take e)
theorem lookup_zip_at {f : Str} : ∀ {L : List Str} {vs : List V} {i : Nat} {v : V}, L.Nodup → L[i]? = some f → vs[i]? = some v → (L.zip vs).lookup f = some v
  | [], _, _, _, _, h, _ => by simp at h
  | _ :: _, [], _, _, _, _, h => by simp at h
  | l :: L, w :: vs, 0, v, nd, h1, h2 => by
    simp at h1 h2
    subst h1; subst h2
    simp [List.zip_cons_cons, List.lookup]
  | l :: L, w :: vs, i + 1, v, nd, h1, h2 => by
    have nd' := List.nodup_cons.mp nd
    have h1' : L[i]? = some f := by simpa using h1
    have hne : ¬ f = l := fun e => nd'.1 (by rw [← e]; exact List.mem_of_getElem? h1')
    have hb : (f == l) = false := beq_eq_false_iff_ne.mpr hne
    rw [List.zip_cons_cons, List.lookup_cons, hb]
    exact lookup_zip_at nd'.2 h1' (by simpa using h2)
/-- o.f, the i-th of the class's attributes -/
def dFld (C : Addr) (L : List Str) (i : Nat) (t : TED) : TED := fun δ cs Q => t δ cs fun x c1 => insOf c1 x fun C' L' ds => C' = C ∧ L' = L ∧ ∃ d, ds[i]? = some d ∧ Q d c1
/-- o.m(..) -/
def dMeth (C : Addr) (m : Str) (sp : SpD) (ddv : List D) (ta : TED) (t : TAD) : TED := fun δ cs Q => ta δ cs fun x c1 => insOf c1 x fun C' L _ => C' = C ∧ m ∉ L ∧ t δ c1 fun ds c2 => sp (x :: (ds ++ ddv)) c2 Q noX
def dProp (C : Addr) (sp : SpD) (ta : TED) : TED := fun δ cs Q => ta δ cs fun x c1 => insOf c1 x fun C' _ _ => C' = C ∧ sp [x] c1 Q noX
section
variable {X : Cx} {k i : Nat} {f C p' g : Addr} {L : List Str} {fd : FuncData} {ps : List Str} {sp : SpD} {ddv : List D} {dvs : List V} {dsv : List Value} {x m fl : Str} {p pos apos : Pos} {e o : Expr} {es : List Expr} {ta : TED} {t : TAD}
theorem de_fld (c : Cls X.K C) (n : NoAttr X.K C fl) (hn : L.Nodup) (hi : L[i]? = some fl) (he : DE X o ta) (hb : attributeBase o fl X.env (eval o X.env) = eval o X.env := by rfl) : DE X (.Attribute o fl pos) (dFld C L i ta) :=
  pe_imp (pe_fld he hb) fun σ H Q ⟨W, F, δ, R, j, rel, sl, q, k⟩ => ⟨W, F, δ, _, j, rel, sl, q, fun v W1 d H1 S1 rel1 j1 ix q => by
    obtain ⟨a, C', L', ds, dx, vs, rfl, e, hl, is, rfl, rfl, d, hd, q⟩ := insOf_is rel1 ix q
    obtain ⟨u, hu, iu⟩ := is.get hd
    refine ⟨a, C', dx, _, u, rfl, j1.sub _ _ e, c, n, ?_, k.to S1 u W1 d H1 .refl rel1 j1 iu q⟩
    refine lookup_zip_at (hn.sublist (List.take_sublist _ _)) ?_ hu
    have hlt := (List.getElem?_eq_some_iff.mp hd).1
    rw [List.getElem?_take_of_lt hlt]
    exact hi⟩
theorem de_meth {pl : Sem Bool} (he : DE X o ta) (c : Cls X.K C) (hm : Meth X.K C m f) (F : FnOk X.prog X.w X.K X.mg X.base CX0 k f fd ps (spOf X.K sp)) (hr : Room k X.A) (hb : Binds X.K fd ps dsv) (hd : Vals dvs dsv) (hD : Dfl X.K ddv dvs) (ha : DA X (e :: es) t)
    (hst : starEach (e :: es) X.env = (false, eval e X.env) :: starEach es X.env := by rfl) (hpl : (backTo pos (starEach es X.env)).any (·.1) = false := by rfl)
    (ht : eval (.Call (.Attribute o m apos) (e :: es) [] pos) X.env = (do
      let ov ← eval o X.env
      standAt apos.atName
      let (f, first) ← holding [ov] (getMethod ov m pl)
      callWith pos f first (backTo pos (starEach (e :: es) X.env)) (backToKw pos (keywordEach [] X.env))) := by rfl) :
    DE X (.Call (.Attribute o m apos) (e :: es) [] pos) (dMeth C m sp ddv ta t) :=
  pe_imp (pe_meth (E := E0) he c hm F hr hb hd pass0 ha hst hpl ht) fun σ H Q ⟨W, F, δ, R, j, rel, sl, q, k⟩ => ⟨W, F, δ, _, j, rel, sl, q, fun v W1 d H1 S1 rel1 j1 ix q => by
    obtain ⟨a, C', L', ds, dx, vs, rfl, e, hl, is, rfl, hm, q⟩ := insOf_is rel1 ix q
    exact ⟨a, dx, _, rfl, j1.sub _ _ e, lookup_zip_none hm _ _, W1, F, δ, _, j1, rel1, sl.to S1, q, fun us W2 es H2 S2 rel2 j2 iu q2 => ⟨W2, F, d :: (es ++ ddv), R, noX, j2, rel2, ⟨_, _, rfl, ix.to S2, iu.append (hD W2)⟩, q2, k.to (S1.full S2), .no⟩⟩⟩
theorem de_meth0 {pl : Sem Bool} (he : DE X o ta) (c : Cls X.K C) (hm : Meth X.K C m f) (F : FnOk X.prog X.w X.K X.mg X.base CX0 k f fd ps (spOf X.K sp)) (hr : Room k X.A) (hb : Binds X.K fd ps dsv) (hd : Vals dvs dsv) (hD : Dfl X.K ddv dvs)
    (ht : eval (.Call (.Attribute o m apos) [] [] pos) X.env = (do
      let ov ← eval o X.env
      standAt apos.atName
      let (f, first) ← holding [ov] (getMethod ov m pl)
      callWith pos f first (backTo pos (starEach [] X.env)) (backToKw pos (keywordEach [] X.env))) := by rfl) :
    DE X (.Call (.Attribute o m apos) [] [] pos) (dMeth C m sp ddv ta dNil) :=
  pe_imp (pe_meth0 (E := E0) he c hm F hr hb hd pass0 ht) fun σ H Q ⟨W, F, δ, R, j, rel, sl, q, k⟩ => ⟨W, F, δ, _, j, rel, sl, q, fun v W1 d H1 S1 rel1 j1 ix q => by
    obtain ⟨a, C', L', ds, dx, vs, rfl, e, hl, is, rfl, hm, q⟩ := insOf_is rel1 ix q
    exact ⟨a, dx, _, rfl, j1.sub _ _ e, lookup_zip_none hm _ _, W1, F, d :: ([] ++ ddv), R, noX, j1, rel1, ⟨_, _, rfl, ix, hD W1⟩, q, k.to S1, .no⟩⟩
theorem de_prop (he : DE X o ta) (c : Cls X.K C) (hp : PropOf X.K C fl p' g) (F : FnOk X.prog X.w X.K X.mg X.base CX0 k g fd ps (spOf X.K sp)) (hr : Room (k + 1) X.A) (hb : Binds X.K fd ps [])
    (hab : attributeBase o fl X.env (eval o X.env) = eval o X.env := by rfl) : DE X (.Attribute o fl pos) (dProp C sp ta) :=
  pe_imp (pe_prop (E := E0) he c hp F hr hb .nil pass0 hab) fun σ H Q ⟨W, F, δ, R, j, rel, sl, q, k⟩ => ⟨W, F, δ, _, j, rel, sl, q, fun v W1 d H1 S1 rel1 j1 ix q => by
    obtain ⟨a, C', L', ds, dx, vs, rfl, e, hl, is, eC, q2⟩ := insOf_is rel1 ix q
    subst eC
    exact ⟨a, dx, _, rfl, j1.sub _ _ e, W1, F, [d], R, noX, j1, rel1, .one ix, q2, k.to S1, .no⟩⟩
end
/-- o.f = e -/
def setA (ds : List D) (i : Nat) (d : D) : List D := if i < ds.length then ds.set i d else ds ++ [d]
def insP (cs : Cs) (x : D) (Q : Nat → Addr → List Str → List D → Prop) : Prop := match x with
  | .ptr k => insC (Q k) cs[k]?
  | _ => False
def dSetF (C : Addr) (L : List Str) (i : Nat) (to te : TED) : TSD := fun lo E δ cs => te δ cs fun d c1 => to δ c1 fun x c2 => insP c2 x fun k C' L' ds => C' = C ∧ L' = L ∧ i ≤ ds.length ∧ E.nx δ (c2.set k (.ins C L (setA ds i d)))
theorem insP_is {K : PySem.W.Frag} {W : Wd} {x : D} {v : V} {Q : Nat → Addr → List Str → List D → Prop} (rel : Rel K W) (i : Is K W x v) (h : insP W.cs x Q) :
    ∃ k a C L ds dx vs, v = .ref a ∧ W.al[k]? = some a ∧ W.cs[k]? = some (.ins C L ds) ∧ W.H a = some (.ins C dx ((L.take ds.length).zip vs)) ∧ ds.length ≤ L.length ∧ Iss K W ds vs ∧ Q k C L ds := by
  cases x with
  | ptr k =>
    have h' : insC (Q k) W.cs[k]? := h
    cases e : W.cs[k]? with
    | none => rw [e] at h'; exact h'.elim
    | some c =>
      rw [e] at h'
      obtain ⟨a, rfl, ea, ci⟩ := ptr_cell rel i e
      cases c with
      | ins C L ds =>
        obtain ⟨dx, vs, e2, hl, is⟩ := ci
        exact ⟨k, a, C, L, ds, dx, vs, rfl, ea, e, e2, hl, is, h'⟩
      | _ => exact h'.elim
  | _ => exact (show False from h).elim
theorem putF_zip {f : Str} {y : V} : ∀ {L : List Str} {vs : List V} {i : Nat}, L.Nodup → L[i]? = some f → i < vs.length → vs.length ≤ L.length → putF f y ((L.take vs.length).zip vs) = (L.take vs.length).zip (vs.set i y)
  | [], _, _, _, h, _, _ => by simp at h
  | l :: L, [], i, _, _, h, _ => by simp at h
  | l :: L, v :: vs, 0, nd, h, _, _ => by
    simp at h
    subst h
    simp [putF]
  | l :: L, v :: vs, i + 1, nd, h, hi, hl => by
    have nd' := List.nodup_cons.mp nd
    have h' : L[i]? = some f := by simpa using h
    have hne : ¬ l = f := fun e => nd'.1 (by rw [e]; exact List.mem_of_getElem? h')
    have ih := putF_zip (y := y) nd'.2 h' (by simpa using hi) (by simpa using hl)
    simp only [List.length_cons, List.take_succ_cons, List.zip_cons_cons, List.set_cons_succ, putF, if_neg hne, ih]
theorem putF_new {f : Str} {y : V} : ∀ {L : List Str} {vs : List V}, L.Nodup → L[vs.length]? = some f → putF f y ((L.take vs.length).zip vs) = (L.take (vs.length + 1)).zip (vs ++ [y])
  | [], _, _, h => by simp at h
  | l :: L, [], nd, h => by
    simp at h
    subst h
    simp [putF]
  | l :: L, v :: vs, nd, h => by
    have nd' := List.nodup_cons.mp nd
    have h' : L[vs.length]? = some f := by simpa using h
    have hne : ¬ l = f := fun e => nd'.1 (by rw [e]; exact List.mem_of_getElem? h')
    have ih := putF_new (y := y) nd'.2 h'
    simp only [List.length_cons, List.take_succ_cons, List.zip_cons_cons, putF, if_neg hne, ih, List.cons_append]
theorem cel_ins {K : PySem.W.Frag} {W : Wd} (rel : Rel K W) {k i : Nat} {a C dx : Addr} {L : List Str} {f : Str} {ds : List D} {vs : List V} {d : D} {y : V} (hn : L.Nodup) (hi : L[i]? = some f) (ea : W.al[k]? = some a) (e : W.cs[k]? = some (.ins C L ds)) (hl : ds.length ≤ L.length) (is : Iss K W ds vs) (iy : Is K W d y) (hle : i ≤ ds.length) :
    Rel K (W.put k a (.ins C dx (putF f y ((L.take ds.length).zip vs))) (.ins C L (setA ds i d))) := by
  have hlv := iss_len is
  have hiL := (List.getElem?_eq_some_iff.mp hi).1
  refine rel.put ea e rfl ?_
  unfold setA
  by_cases hlt : i < ds.length
  · rw [if_pos hlt]
    refine ⟨dx, vs.set i y, ?_, by simpa using hl, (is.set iy i).to (put_stp ea e rfl)⟩
    show upd W.H a _ a = _
    rw [upd_same, List.length_set, hlv, putF_zip hn hi (by omega) (by omega)]
  · rw [if_neg hlt]
    have hie : i = vs.length := by omega
    refine ⟨dx, vs ++ [y], ?_, by simp; omega, (is.append (.one iy)).to (put_stp ea e rfl)⟩
    show upd W.H a _ a = _
    rw [upd_same, List.length_append, hlv, putF_new hn (by rw [← hie]; exact hi)]
    rfl
section
variable {X : Cx} {i : Nat} {C : Addr} {L : List Str} {f : Str} {o value : Expr} {to te : TED} {pos pos' : Pos}
theorem ds_setF (c : Cls X.K C) (n : NoAttr X.K C f) (hn : L.Nodup) (hi : L[i]? = some f) (h9 : L.length < 1000) (ho : DE X o to) (hv : DE X value te) (hs : swapsWith value (some (.Attribute o f pos')) pos.line X.env = pure false := by rfl) : DS X (.Assign [.Attribute o f pos'] value pos) (dSetF C L i to te) :=
  ps_imp (ps_fld ho hv hs) fun N σ H ⟨W, F, δ, lo, E, j, rel, sl, hl, q, Lk⟩ => ⟨W, F, δ, _, j, rel, sl, q, fun y W1 d H1 S1 rel1 j1 iy q1 => ⟨W1, F, δ, _, j1, rel1, sl.to S1, q1, fun x W2 dX H2 S2 rel2 j2 ix q2 => by
    obtain ⟨k, a, C', L', ds, dx, vs, rfl, ea, ec, eh, hlL, is, rfl, rfl, hle, q2⟩ := insP_is rel2 ix q2
    refine ⟨a, C', dx, _, rfl, j2.sub _ _ eh, c, n, ?_, ?_⟩
    · rw [List.length_zip, List.length_take]; omega
    · exact Lk.nx σ (W2.put k a (.ins C' dx (putF f y ((L'.take ds.length).zip vs))) (.ins C' L' (setA ds i d))) δ _ (((S1.full S2).full (put_stp ea ec rfl)).mono hl) (cel_ins rel2 hn hi ea ec hlL is (iy.to S2) hle) (j2.put eh _) (sl.to ((S1.full S2).full (put_stp ea ec rfl))) (Nat.le_trans hl ((S1.full S2).full (put_stp ea ec rfl)).lenLe) q2⟩⟩
end
/-- C(..) -/
def mkE (n : Nat) (Q : QD) : QD := fun r c2 => r = .non ∧ ∃ d c3, GhV n (.ptr n) c2 d c3 ∧ Q d c3
def dMake (C : Addr) (L : List Str) (sp : SpD) (ddv : List D) (t : TAD) : TED := fun δ cs Q => t δ cs fun ds c1 => sp (.ptr c1.length :: (ds ++ ddv)) (c1 ++ [.ins C L []]) (mkE c1.length Q) noX
def dMakeK (C : Addr) (L : List Str) (n m : Nat) (sp : SpD) (gD : List D → List D → List D) (t tk : TAD) : TED := fun δ cs Q => t δ cs fun ds c1 => tk δ c1 fun es c2 => ds.length = n ∧ es.length = m ∧ sp (gD (.ptr c2.length :: ds) es) (c2 ++ [.ins C L []]) (mkE c2.length Q) noX
theorem make_is {K : PySem.W.Frag} {W : Wd} {F H : Hp} {C : Addr} {L : List Str} {Q : VK} {R : QD} (j : Jn W.H F H) (rel : Rel K W) (k : Aft K W F R Q) {x dx : Addr} (hx : H x = none) (hdx : H dx = none) (ne : dx ≠ x) :
    ∃ W2 : Wd, W2.cs = W.cs ++ [.ins C L []] ∧ Jn W2.H F (upd (upd H dx (.own x)) x (.ins C dx [])) ∧ Rel K W2 ∧ Stp W.al.length W W2 ∧ Is K W2 (.ptr W.cs.length) (.ref x) ∧
      Aft K W2 F (mkE W.cs.length R) (fun v H2 => v = .non ∧ Q (.ref x) H2) := by
  have g1 := j.none hdx
  have hx1 : upd H dx (.own x) x = none := by rw [upd_ne (Ne.symm ne)]; exact hx
  have j1 := j.new hdx (.own x)
  have r1 := rel.add g1 (.own x)
  have g2 : (W.add dx (.own x)).H x = none := j1.none hx1
  have S1 : Stp W.al.length W (W.add dx (.own x)) := add_stp g1 _
  have S2 : Stp (W.add dx (.own x)).al.length (W.add dx (.own x)) ((W.add dx (.own x)).push x (.ins C dx []) (.ins C L [])) := push_stp g2 _ _ r1.len
  have r2 : Rel K ((W.add dx (.own x)).push x (.ins C dx []) (.ins C L [])) := r1.push g2 ⟨dx, [], by show upd _ x _ x = _; rw [upd_same]; simp, Nat.zero_le _, rfl⟩
  refine ⟨(W.add dx (.own x)).push x (.ins C dx []) (.ins C L []), rfl, j1.new hx1 _, r2, S1.full S2, push_is r1, fun v W3 d H3 S3 rel3 j3 i3 q3 => ?_⟩
  obtain ⟨e, d', c3, g, q⟩ := q3
  subst e
  have ip : Is K W3 (.ptr W.cs.length) (.ref x) := (push_is (K := K) (W := W.add dx (.own x)) r1).to S3
  have hl3 : W.al.length ≤ W3.al.length := Nat.le_trans (S1.full S2).lenLe S3.lenLe
  obtain ⟨W4, e4, ec4, S4, rel4, i4, hl4⟩ := g K W3 (.ref x) rfl (by rw [← rel.len]; exact hl3) rel3 ip
  exact ⟨i3, k (.ref x) W4 d' H3 (((S1.full S2).full S3).tr S4 fun k x hk _ => by rw [← rel.len]; exact hk) rel4 (e4.symm ▸ j3) i4 (ec4.symm ▸ q)⟩
section
variable {X : Cx} {k n : Nat} {f C : Addr} {L : List Str} {fd : FuncData} {ps ks : List Str} {sp : SpD} {ddv : List D} {dvs : List V} {ds : List Value} {x : Str} {p pos : Pos} {e : Expr} {es : List Expr} {kws : List Keyword} {t tk : TAD} {g : List Value → List Value → List Value} {gV : List V → List V → List V} {gD : List D → List D → List D}
theorem de_make (M : Mk X.K C f) (F : FnOk X.prog X.w X.K X.mg X.base CX0 k f fd ps (spOf X.K sp)) (hr : Room (k + 1) X.A) (hg : Gl X x) (hm : X.mg x = some (.ref C)) (hb : Binds X.K fd ps ds) (hd : Vals dvs ds) (hD : Dfl X.K ddv dvs)
    (ha : DA X (e :: es) t) (hdb : (x == ("__debug__" : Str)) = false := by decide) (he : starEach (e :: es) X.env = (false, eval e X.env) :: starEach es X.env := by rfl) (hpl : (backTo pos (starEach es X.env)).any (·.1) = false := by rfl) :
    DE X (.Call (.Name x p) (e :: es) [] pos) (dMake C L sp ddv t) :=
  pe_imp (pe_make (E := E0) M F hr hg hm hb hd pass0 ha hdb he hpl) fun σ H Q ⟨W, F, δ, R, j, rel, sl, q, k⟩ => ⟨W, F, δ, _, j, rel, sl, q, fun vs W1 ds H1 S1 rel1 j1 is q x dx hx hdx ne => by
    obtain ⟨W2, ec, j2, rel2, S2, ip, k2⟩ := make_is (C := C) (L := L) j1 rel1 (k.to S1) hx hdx ne
    exact ⟨W2, F, .ptr W1.cs.length :: (ds ++ ddv), _, noX, j2, rel2, ⟨_, _, rfl, ip, (is.to S2).append (hD W2)⟩, ec.symm ▸ q, k2, .no⟩⟩
theorem de_make0 (M : Mk X.K C f) (F : FnOk X.prog X.w X.K X.mg X.base CX0 k f fd ps (spOf X.K sp)) (hr : Room (k + 1) X.A) (hg : Gl X x) (hm : X.mg x = some (.ref C)) (hb : Binds X.K fd ps ds) (hd : Vals dvs ds) (hD : Dfl X.K ddv dvs)
    (hdb : (x == ("__debug__" : Str)) = false := by decide) : DE X (.Call (.Name x p) [] [] pos) (dMake C L sp ddv dNil) :=
  pe_imp (pe_make0 (E := E0) M F hr hg hm hb hd pass0 hdb) fun σ H Q ⟨W, F, δ, R, j, rel, sl, q, k⟩ x dx hx hdx ne => by
    obtain ⟨W2, ec, j2, rel2, S2, ip, k2⟩ := make_is (C := C) (L := L) j rel k hx hdx ne
    exact ⟨W2, F, .ptr W.cs.length :: ([] ++ ddv), _, noX, j2, rel2, ⟨_, _, rfl, ip, hD W2⟩, ec.symm ▸ q, k2, .no⟩
def KwD (K : PySem.W.Frag) (gD : List D → List D → List D) (gV : List V → List V → List V) : Prop := ∀ (W : Wd) (ds : List D) (vs : List V) (es : List D) (us : List V), Iss K W ds vs → Iss K W es us → Iss K W (gD ds es) (gV vs us)
def dkNil : TAD := dNil
def DK (X : Cx) (kws : List Keyword) (t : TAD) : Prop := PK X kws (upA X.K t)
theorem dk_nil : DK X [] dNil := ⟨fun pos pins s σ H Q I ⟨W, F, δ, R, j, rel, sl, t, k⟩ => pk_nil.run pos pins s σ H Q I (k [] W [] H .refl rel j rfl t)⟩
theorem dk_cons {nm : Option Str} {kpos : Pos} {te : TED} (ha : DE X e te) (hr : DK X kws t) : DK X (⟨nm, e, kpos⟩ :: kws) (dCons te t) :=
  ⟨fun pos pins s σ H Q I ⟨W, F, δ, R, j, rel, sl, q, k⟩ => (pk_cons (nm := nm) (kpos := kpos) ha hr).run pos pins s σ H Q I ⟨W, F, δ, _, j, rel, sl, q, fun v W1 d H1 S1 rel1 j1 i q => ⟨W1, F, δ, _, j1, rel1, sl.to S1, q, fun vs W2 ds H2 S2 rel2 j2 is q2 =>
    k (v :: vs) W2 (d :: ds) H2 (S1.full S2) rel2 j2 ⟨v, vs, rfl, i.to S2, is⟩ q2⟩⟩⟩
theorem de_makeK (M : Mk X.K C f) (F : FnOk X.prog X.w X.K X.mg X.base CX0 k f fd ps (spOf X.K sp)) (hr : Room (k + 1) X.A) (hg : Gl X x) (hm : X.mg x = some (.ref C)) (hb : KBn X.K fd ps (n + 1) ks g gV) (hD : KwD X.K gD gV) (ha : DA X (e :: es) t) (hkw : DK X kws tk)
    (hall : (backToKw pos (keywordEach kws X.env)).all (·.1.isSome) = true := by rfl) (hks : (backToKw pos (keywordEach kws X.env)).filterMap (·.1) = ks := by rfl) (hdb : (x == ("__debug__" : Str)) = false := by decide)
    (he : starEach (e :: es) X.env = (false, eval e X.env) :: starEach es X.env := by rfl) (hpl : ((backTo pos (starEach (e :: es) X.env)).any (·.1) || (backToKw pos (keywordEach kws X.env)).any (·.1.isNone)) = false := by rfl) :
    DE X (.Call (.Name x p) (e :: es) kws pos) (dMakeK C L n ks.length sp gD t tk) :=
  pe_imp (pe_makeK (E := E0) M F hr hg hm hb pass0 ha hkw hall hks hdb he hpl) fun σ H Q ⟨W, F, δ, R, j, rel, sl, q, k⟩ => ⟨W, F, δ, _, j, rel, sl, q, fun vs W1 ds H1 S1 rel1 j1 is q => ⟨W1, F, δ, _, j1, rel1, sl.to S1, q, fun us W2 es H2 S2 rel2 j2 iu q2 => by
    obtain ⟨h1, h2, q2⟩ := q2
    refine ⟨by rw [← iss_len is]; exact h1, by rw [← iss_len iu]; exact h2, fun x dx hx hdx ne => ?_⟩
    obtain ⟨W3, ec, j3, rel3, S3, ip, k3⟩ := make_is (C := C) (L := L) j2 rel2 (k.to (S1.full S2)) hx hdx ne
    exact ⟨W3, F, gD (.ptr W2.cs.length :: ds) es, _, noX, j3, rel3, hD W3 (.ptr W2.cs.length :: ds) (.ref x :: vs) es us ⟨_, _, rfl, ip, is.to (S2.full S3)⟩ (iu.to S3), ec.symm ▸ q2, k3, .no⟩⟩⟩
end
end DL
/-! DL9: a promise about few cells holds among many; ghost steps. -/
namespace DL
open PySem PySem.Spec PyProof.Rows L2
mutual
def ren (f : Nat → Nat) : D → D
  | .non => .non
  | .bl b => .bl b
  | .int i => .int i
  | .str s => .str s
  | .ty n => .ty n
  | .adr a => .adr a
  | .ptr k => .ptr (f k)
  | .lst ds => .lst (rens f ds)
  | .tup ds => .tup (rens f ds)
  | .obj C L ds => .obj C L (rens f ds)
  | .scr ns => .scr ns
def rens (f : Nat → Nat) : List D → List D
  | [] => []
  | d :: ds => ren f d :: rens f ds
end
def renK (f : Nat → Nat) : List (Key × D) → List (Key × D)
  | [] => []
  | (k, d) :: r => (k, ren f d) :: renK f r
def renC (f : Nat → Nat) : Cel → Cel
  | .lst ds => .lst (rens f ds)
  | .dK kvs => .dK (renK f kvs)
  | .lk kvs => .lk (renK f kvs)
  | .ins C L ds => .ins C L (rens f ds)
  | .gone => .gone
def BdC (n : Nat) : Cel → Prop
  | .lst ds => Bds n ds
  | .dK kvs => BdK n kvs
  | .lk kvs => BdK n kvs
  | .ins _ _ ds => Bds n ds
  | .gone => True
theorem rens_len (f : Nat → Nat) : ∀ ds : List D, (rens f ds).length = ds.length
  | [] => rfl
  | d :: ds => by simp [rens, rens_len f ds]
theorem renC_live (f : Nat → Nat) (c : Cel) : (renC f c).live = c.live := by cases c <;> rfl
/-- from one world's naming of cells to another's -/
structure Tr (f : Nat → Nat) (n : Nat) (W W' : Wd) : Prop where
  al : ∀ i a, i < n → W.al[i]? = some a → W'.al[f i]? = some a
  h : ∀ a o, W.H a = some o → W'.H a = some o
  mu : ∀ a o, W.H a = some o → ¬ W.mu a → ¬ W'.mu a
section
variable {K : PySem.W.Frag} {W W' : Wd} {f : Nat → Nat} {n : Nat}
mutual
theorem tr_is (T : Tr f n W W') : ∀ (d : D) (v : V), Is K W d v → Bd n d → Is K W' (ren f d) v
  | .non, v, h, _ => h
  | .bl _, v, h, _ => h
  | .int _, v, h, _ => h
  | .str _, v, h, _ => h
  | .ty _, v, h, _ => h
  | .adr _, v, h, _ => h
  | .ptr k, v, h, b => by
    obtain ⟨a, e, r⟩ := h
    exact ⟨a, T.al k a b e, r⟩
  | .lst ds, v, h, b => by
    obtain ⟨a, vs, r, e, m, q⟩ := h
    exact ⟨a, vs, r, T.h _ _ e, T.mu _ _ e m, tr_iss T ds vs q b⟩
  | .tup ds, v, h, b => by
    obtain ⟨a, vs, r, e, m, q⟩ := h
    exact ⟨a, vs, r, T.h _ _ e, T.mu _ _ e m, tr_iss T ds vs q b⟩
  | .obj C L ds, v, h, b => by
    obtain ⟨a, dx, vs, r, e, m, hl, q⟩ := h
    exact ⟨a, dx, vs, r, by rw [rens_len]; exact T.h _ _ e, T.mu _ _ e m, by rw [rens_len]; exact hl, tr_iss T ds vs q b⟩
  | .scr ns, v, h, b => by
    obtain ⟨a, r, ⟨o, e, m⟩ | k⟩ := h
    · exact ⟨a, r, .inl ⟨o, T.h _ _ e, T.mu _ _ e m⟩⟩
    · exact ⟨a, r, .inr k⟩
theorem tr_iss (T : Tr f n W W') : ∀ (ds : List D) (vs : List V), Iss K W ds vs → Bds n ds → Iss K W' (rens f ds) vs
  | [], vs, h, _ => h
  | d :: ds, vs, h, b => by
    obtain ⟨v, r, e, h1, h2⟩ := h
    exact ⟨v, r, e, tr_is T d v h1 b.1, tr_iss T ds r h2 b.2⟩
end
theorem tr_isK (T : Tr f n W W') : ∀ (ds : List (Key × D)) (vs : List (Key × V)), IsK K W ds vs → BdK n ds → IsK K W' (renK f ds) vs
  | [], vs, h, _ => h
  | (k, d) :: ds, vs, h, b => by
    obtain ⟨v, r, e, h1, h2⟩ := h
    exact ⟨v, r, e, tr_is T d v h1 b.1, tr_isK T ds r h2 b.2⟩
theorem tr_cel (T : Tr f n W W') {a : Addr} : ∀ {c : Cel}, CelIs K W a c → BdC n c → CelIs K W' a (renC f c)
  | .lst ds, h, b => by
    obtain ⟨vs, e, q⟩ := h
    exact ⟨vs, T.h _ _ e, tr_iss T ds vs q b⟩
  | .dK ds, h, b => by
    obtain ⟨vs, e, q⟩ := h
    exact ⟨vs, T.h _ _ e, tr_isK T ds vs q b⟩
  | .lk ds, h, b => by
    obtain ⟨o, vs, e, q⟩ := h
    exact ⟨o, vs, T.h _ _ e, tr_isK T ds vs q b⟩
  | .ins C L ds, h, b => by
    obtain ⟨dx, vs, e, hl, q⟩ := h
    exact ⟨dx, vs, by rw [rens_len]; exact T.h _ _ e, by rw [rens_len]; exact hl, tr_iss T ds vs q b⟩
  | .gone, _, _ => trivial
/-- .. and back -/
structure Tb (f : Nat → Nat) (n : Nat) (W W' : Wd) : Prop where
  al : ∀ i a, i < n → W.al[f i]? = some a → W'.al[i]? = some a
  h : ∀ a o, W.H a = some o → ¬ W.mu a → W'.H a = some o ∧ ¬ W'.mu a
mutual
theorem tb_is (T : Tb f n W W') : ∀ (d : D) (v : V), Is K W (ren f d) v → Bd n d → Is K W' d v
  | .non, v, h, _ => h
  | .bl _, v, h, _ => h
  | .int _, v, h, _ => h
  | .str _, v, h, _ => h
  | .ty _, v, h, _ => h
  | .adr _, v, h, _ => h
  | .ptr k, v, h, b => by
    obtain ⟨a, e, r⟩ := h
    exact ⟨a, T.al k a b e, r⟩
  | .lst ds, v, h, b => by
    obtain ⟨a, vs, r, e, m, q⟩ := h
    exact ⟨a, vs, r, (T.h _ _ e m).1, (T.h _ _ e m).2, tb_iss T ds vs q b⟩
  | .tup ds, v, h, b => by
    obtain ⟨a, vs, r, e, m, q⟩ := h
    exact ⟨a, vs, r, (T.h _ _ e m).1, (T.h _ _ e m).2, tb_iss T ds vs q b⟩
  | .obj C L ds, v, h, b => by
    obtain ⟨a, dx, vs, r, e, m, hl, q⟩ := h
    rw [rens_len] at e hl
    exact ⟨a, dx, vs, r, (T.h _ _ e m).1, (T.h _ _ e m).2, hl, tb_iss T ds vs q b⟩
  | .scr ns, v, h, b => by
    obtain ⟨a, r, ⟨o, e, m⟩ | k⟩ := h
    · exact ⟨a, r, .inl ⟨o, (T.h _ _ e m).1, (T.h _ _ e m).2⟩⟩
    · exact ⟨a, r, .inr k⟩
theorem tb_iss (T : Tb f n W W') : ∀ (ds : List D) (vs : List V), Iss K W (rens f ds) vs → Bds n ds → Iss K W' ds vs
  | [], vs, h, _ => h
  | d :: ds, vs, h, b => by
    obtain ⟨v, r, e, h1, h2⟩ := h
    exact ⟨v, r, e, tb_is T d v h1 b.1, tb_iss T ds r h2 b.2⟩
end
theorem tb_isK (T : Tb f n W W') : ∀ (ds : List (Key × D)) (vs : List (Key × V)), IsK K W (renK f ds) vs → BdK n ds → IsK K W' ds vs
  | [], vs, h, _ => h
  | (k, d) :: ds, vs, h, b => by
    obtain ⟨v, r, e, h1, h2⟩ := h
    exact ⟨v, r, e, tb_is T d v h1 b.1, tb_isK T ds r h2 b.2⟩
theorem tb_cel (T : Tb f n W W') {a : Addr} (hh : ∀ o, W.H a = some o → W'.H a = some o) : ∀ {c : Cel}, CelIs K W a (renC f c) → BdC n c → CelIs K W' a c
  | .lst ds, h, b => by
    obtain ⟨vs, e, q⟩ := h
    exact ⟨vs, hh _ e, tb_iss T ds vs q b⟩
  | .dK ds, h, b => by
    obtain ⟨vs, e, q⟩ := h
    exact ⟨vs, hh _ e, tb_isK T ds vs q b⟩
  | .lk ds, h, b => by
    obtain ⟨o, vs, e, q⟩ := h
    exact ⟨o, vs, hh _ e, tb_isK T ds vs q b⟩
  | .ins C L ds, h, b => by
    obtain ⟨dx, vs, e, hl, q⟩ := h
    rw [rens_len] at e hl
    exact ⟨dx, vs, hh _ e, hl, tb_iss T ds vs q b⟩
  | .gone, _, _ => trivial
end
/-- the cells ks of cs are put -/
def putAll (cs : Cs) : List Nat → Cs → Cs
  | k :: ks, c :: r => putAll (cs.set k c) ks r
  | _, _ => cs
theorem putAll_len : ∀ (ks : List Nat) (r cs : Cs), (putAll cs ks r).length = cs.length
  | [], r, cs => by cases r <;> rfl
  | k :: ks, [], cs => rfl
  | k :: ks, c :: r, cs => by unfold putAll; rw [putAll_len ks r]; simp
theorem putAll_out : ∀ (ks : List Nat) (r cs : Cs) (j : Nat), j ∉ ks → (putAll cs ks r)[j]? = cs[j]?
  | [], r, cs, j, _ => by cases r <;> rfl
  | k :: ks, [], cs, j, _ => rfl
  | k :: ks, c :: r, cs, j, h => by
    unfold putAll
    rw [putAll_out ks r _ j fun m => h (List.mem_cons_of_mem _ m), List.getElem?_set_ne fun e => h (by rw [e]; exact List.mem_cons_self)]
theorem putAll_at : ∀ (ks : List Nat) (r cs : Cs) (i k : Nat) (c : Cel), ks.Nodup → ks[i]? = some k → r[i]? = some c → k < cs.length → (putAll cs ks r)[k]? = some c
  | [], r, cs, i, k, c, _, h, _, _ => by simp at h
  | j :: ks, [], cs, i, k, c, _, _, h, _ => by simp at h
  | j :: ks, e :: r, cs, 0, k, c, nd, h1, h2, hk => by
    simp at h1 h2
    subst h1; subst h2
    unfold putAll
    rw [putAll_out ks r _ _ (List.nodup_cons.mp nd).1, List.getElem?_set_self hk]
  | j :: ks, e :: r, cs, i + 1, k, c, nd, h1, h2, hk => by
    unfold putAll
    exact putAll_at ks r _ i k c (List.nodup_cons.mp nd).2 (by simpa using h1) (by simpa using h2) (by simpa using hk)
def ix0 (ks : List Nat) : Nat → Nat := fun i => ks.getD i 0
def ix2 (ks : List Nat) (n : Nat) : Nat → Nat := fun i => if i < ks.length then ks.getD i 0 else n + (i - ks.length)
/-- the many cells behind, by the few behind -/
def bput (ks : List Nat) (cs c2 : Cs) : Cs := putAll cs ks ((c2.take ks.length).map (renC (ix2 ks cs.length))) ++ (c2.drop ks.length).map (renC (ix2 ks cs.length))
def Lives (n : Nat) (c2 : Cs) : Prop := ∀ c ∈ c2.drop n, c.live = true
def framed (sp : SpD) : SpD := fun ds cs R Z => ∃ (ks : List Nat) (ds' : List D) (cs' : Cs), ks.Nodup ∧ rens (ix0 ks) ds' = ds ∧ Bds ks.length ds' ∧ cs'.length = ks.length ∧
  (∀ (i : Nat) (c : Cel) (k : Nat), cs'[i]? = some c → ks[i]? = some k → cs[k]? = some (renC (ix0 ks) c) ∧ BdC ks.length c) ∧
  sp ds' cs' (fun d c2 => Lives ks.length c2 ∧ ∃ d' c3, d' = ren (ix2 ks cs.length) d ∧ c3 = bput ks cs c2 ∧ R d' c3) fun C L es c2 => Lives ks.length c2 ∧ ∃ es' c3, es' = rens (ix2 ks cs.length) es ∧ c3 = bput ks cs c2 ∧ Z C L es' c3
theorem frame_core {K : PySem.W.Frag} {W1 : Wd} {F H1 : Hp} (j : Jn W1.H F H1) (rel : Rel K W1) {ks : List Nat} {cs' : Cs} (nd : ks.Nodup) (hl : cs'.length = ks.length)
    (hc : ∀ (i : Nat) (c : Cel) (k : Nat), cs'[i]? = some c → ks[i]? = some k → W1.cs[k]? = some (renC (ix0 ks) c) ∧ BdC ks.length c) :
    ∃ (Wc : Wd) (F' : Hp), Wc.cs = cs' ∧ Wc.al.length = ks.length ∧ Jn Wc.H F' H1 ∧ Rel K Wc ∧ Tb (ix0 ks) ks.length W1 Wc ∧
      ∀ (Wx : Wd) (Hx : Hp), Stp Wc.al.length Wc Wx → Rel K Wx → Jn Wx.H F' Hx → Lives ks.length Wx.cs →
        ∃ W2 : Wd, W2.cs = bput ks W1.cs Wx.cs ∧ Stp W1.al.length W1 W2 ∧ Rel K W2 ∧ Jn W2.H F Hx ∧ Tr (ix2 ks W1.cs.length) Wx.al.length Wx W2 := by
  classical
  -- every named cell is there
  have hk : ∀ i, i < ks.length → ∃ k a c, ks[i]? = some k ∧ cs'[i]? = some c ∧ W1.al[k]? = some a ∧ W1.cs[k]? = some (renC (ix0 ks) c) := by
    intro i hi
    have e1 : ks[i]? = some ks[i] := List.getElem?_eq_getElem hi
    have e2 : cs'[i]? = some (cs'[i]'(by omega)) := List.getElem?_eq_getElem (by omega)
    obtain ⟨e3, _⟩ := hc i _ _ e2 e1
    have hlt : ks[i] < W1.al.length := by rw [rel.len]; exact (List.getElem?_eq_some_iff.mp e3).1
    exact ⟨ks[i], W1.al[ks[i]], _, e1, e2, List.getElem?_eq_getElem hlt, e3⟩
  let sel : List Addr := ks.map fun k => W1.al.getD k 0
  have selAt : ∀ (i k : Nat) (a : Addr), ks[i]? = some k → W1.al[k]? = some a → sel[i]? = some a := by
    intro i k a e1 e2
    show (ks.map fun k => W1.al.getD k 0)[i]? = some a
    rw [List.getElem?_map, e1]
    simp [List.getD, e2]
  have selLen : sel.length = ks.length := by simp [sel]
  have selOf : ∀ (i : Nat) (a : Addr), sel[i]? = some a → ∃ k c, ks[i]? = some k ∧ W1.al[k]? = some a ∧ cs'[i]? = some c ∧ W1.cs[k]? = some (renC (ix0 ks) c) := by
    intro i a e
    have hi : i < ks.length := by rw [← selLen]; exact (List.getElem?_eq_some_iff.mp e).1
    obtain ⟨k, b, c, e1, e2, e3, e4⟩ := hk i hi
    have := selAt i k b e1 e3
    rw [e] at this; cases this
    exact ⟨k, c, e1, e3, e2, e4⟩
  let hid : Addr → Prop := fun x => W1.mu x ∧ x ∉ sel
  let Wc : Wd := ⟨sel, fun x => if hid x then none else W1.H x, cs'⟩
  let F' : Hp := fun x => if hid x then W1.H x else F x
  have muH : ∀ x, W1.mu x → ∃ o, W1.H x = some o := fun x ⟨k, c, e1, _, _⟩ => rel.there x (List.mem_of_getElem? e1)
  have cH : ∀ x, ¬ hid x → Wc.H x = W1.H x := fun x h => if_neg h
  have cHh : ∀ x, hid x → Wc.H x = none := fun x h => if_pos h
  have cmu : ∀ x, Wc.mu x → W1.mu x ∧ x ∈ sel := by
    rintro x ⟨i, c, e1, e2, e3⟩
    obtain ⟨k, c', k1, k2, k3, k4⟩ := selOf i x e1
    have e2' : cs'[i]? = some c := e2
    rw [k3] at e2'; cases e2'
    exact ⟨⟨k, _, k2, k4, by rw [renC_live]; exact e3⟩, List.mem_of_getElem? e1⟩
  have jc : Jn Wc.H F' H1 := by
    refine ⟨fun x o e => ?_, fun x o e => ?_, fun x o e => ?_⟩
    · by_cases h : hid x
      · rw [cHh x h] at e; cases e
      · rw [cH x h] at e; exact j.sub x o e
    · by_cases h : hid x
      · have e' : W1.H x = some o := by have z := e; simp only [F', if_pos h] at z; exact z
        exact ⟨j.sub x o e', cHh x h⟩
      · have e' : F x = some o := by have z := e; simp only [F', if_neg h] at z; exact z
        exact ⟨(j.out x o e').1, by rw [cH x h]; exact (j.out x o e').2⟩
    · by_cases h : hid x
      · obtain ⟨u, hu⟩ := muH x h.1
        have := j.sub x u hu
        rw [e] at this; cases this
        exact .inr (by simp only [F', if_pos h]; exact hu)
      · rcases j.all x o e with z | z
        · exact .inl (by rw [cH x h]; exact z)
        · exact .inr (by simp only [F', if_neg h]; exact z)
  have tb : Tb (ix0 ks) ks.length W1 Wc := by
    refine ⟨fun i a hi e => ?_, fun a o e m => ?_⟩
    · obtain ⟨k, b, c, e1, _, e3, _⟩ := hk i hi
      have : ix0 ks i = k := by simp [ix0, List.getD, e1]
      rw [this, e3] at e; cases e
      exact selAt i k _ e1 e3
    · have h : ¬ hid a := fun h => m h.1
      exact ⟨by rw [cH a h]; exact e, fun z => m (cmu a z).1⟩
  have relc : Rel K Wc := by
    refine ⟨by show sel.length = cs'.length; rw [selLen, hl], ?_, fun i a c e1 e2 => ?_, fun a ha => ?_⟩
    · show sel.Nodup
      refine List.pairwise_iff_getElem.mpr fun i i' hi hi' hlt e => ?_
      obtain ⟨k, b, c, e1, _, e3, _⟩ := hk i (by rw [← selLen]; omega)
      obtain ⟨k', b', c', e1', _, e3', _⟩ := hk i' (by rw [← selLen]; omega)
      have f1 := selAt i k b e1 e3
      have f2 := selAt i' k' b' e1' e3'
      rw [List.getElem?_eq_getElem hi] at f1
      rw [List.getElem?_eq_getElem hi'] at f2
      cases f1
      have f3 : b' = sel[i] := by cases f2; exact e.symm
      subst f3
      have := nd_at rel.nd e3 e3'
      subst this
      have := nd_ix nd e1 e1'
      omega
    · obtain ⟨k, c', k1, k2, k3, k4⟩ := selOf i a e1
      have e2' : cs'[i]? = some c := e2
      rw [k3] at e2'; cases e2'
      refine tb_cel tb (fun o e => ?_) (rel.cel k a _ k2 k4) (hc i _ k k3 k1).2
      rw [cH a fun h => h.2 (List.mem_of_getElem? e1)]
      exact e
    · obtain ⟨i, hi, e⟩ := List.getElem_of_mem ha
      have e1 : sel[i]? = some a := by rw [List.getElem?_eq_getElem hi, e]
      obtain ⟨k, c', k1, k2, k3, k4⟩ := selOf i a e1
      obtain ⟨o, ho⟩ := rel.there a (List.mem_of_getElem? k2)
      exact ⟨o, by rw [cH a fun h => h.2 ha]; exact ho⟩
  refine ⟨Wc, F', rfl, selLen, jc, relc, tb, fun Wx Hx Sx relx jx live => ?_⟩
  have hn : Wc.al.length = ks.length := selLen
  have hx : ks.length ≤ Wx.al.length := by rw [← hn]; exact Sx.lenLe
  have alx : ∀ (i : Nat) (a : Addr), i < ks.length → (sel[i]? = some a ↔ Wx.al[i]? = some a) := by
    intro i a hi
    constructor
    · intro e; exact Sx.al i a (by rw [hn]; exact hi) e
    · intro e
      obtain ⟨k, b, c, e1, _, e3, _⟩ := hk i hi
      have e4 := selAt i k b e1 e3
      have e5 := Sx.al i b (by rw [hn]; exact hi) e4
      rw [e] at e5; cases e5
      exact e4
  have xhid : ∀ x, hid x → Wx.H x = none := by
    intro x h
    obtain ⟨u, hu⟩ := muH x h.1
    exact (jx.out x u (by simp only [F', if_pos h]; exact hu)).2
  -- the world behind
  let W2 : Wd := ⟨W1.al ++ Wx.al.drop ks.length, fun x => if hid x then W1.H x else Wx.H x, bput ks W1.cs Wx.cs⟩
  have w2H : ∀ x, ¬ hid x → W2.H x = Wx.H x := fun x h => if_neg h
  have w2Hh : ∀ x, hid x → W2.H x = W1.H x := fun x h => if_pos h
  have plen : (putAll W1.cs ks ((Wx.cs.take ks.length).map (renC (ix2 ks W1.cs.length)))).length = W1.al.length := by rw [putAll_len, rel.len]
  have c2old : ∀ jj, jj < W1.al.length → W2.cs[jj]? = (putAll W1.cs ks ((Wx.cs.take ks.length).map (renC (ix2 ks W1.cs.length))))[jj]? := by
    intro jj hj
    show (bput ks W1.cs Wx.cs)[jj]? = _
    unfold bput
    rw [List.getElem?_append_left (by rw [plen]; exact hj)]
  have c2out : ∀ jj, jj < W1.al.length → jj ∉ ks → W2.cs[jj]? = W1.cs[jj]? := fun jj hj h => by rw [c2old jj hj, putAll_out _ _ _ _ h]
  have c2in : ∀ (i k : Nat), ks[i]? = some k → ∃ c, Wx.cs[i]? = some c ∧ W2.cs[k]? = some (renC (ix2 ks W1.cs.length) c) ∧ k < W1.al.length := by
    intro i k e
    have hi := (List.getElem?_eq_some_iff.mp e).1
    have hxi : i < Wx.cs.length := by rw [← relx.len]; omega
    obtain ⟨k', b, c, e1, _, e3, _⟩ := hk i hi
    rw [e] at e1; cases e1
    have hkl := (List.getElem?_eq_some_iff.mp e3).1
    refine ⟨Wx.cs[i], List.getElem?_eq_getElem hxi, ?_, hkl⟩
    rw [c2old _ hkl]
    refine putAll_at ks _ _ i _ _ nd e ?_ (by rw [← rel.len]; exact hkl)
    rw [List.getElem?_map, List.getElem?_take_of_lt hi, List.getElem?_eq_getElem hxi]
    rfl
  have c2new : ∀ m, W2.cs[W1.al.length + m]? = (Wx.cs[ks.length + m]?).map (renC (ix2 ks W1.cs.length)) := by
    intro m
    show (bput ks W1.cs Wx.cs)[_]? = _
    unfold bput
    rw [List.getElem?_append_right (by rw [plen]; omega), plen, Nat.add_sub_cancel_left, List.getElem?_map, List.getElem?_drop]
  have a2old : ∀ jj, jj < W1.al.length → W2.al[jj]? = W1.al[jj]? := fun jj hj => List.getElem?_append_left hj
  have a2new : ∀ m, W2.al[W1.al.length + m]? = Wx.al[ks.length + m]? := by
    intro m
    show (W1.al ++ Wx.al.drop ks.length)[_]? = _
    rw [List.getElem?_append_right (by omega), Nat.add_sub_cancel_left, List.getElem?_drop]
  -- which cell of the world behind a mutable address is
  have mu2 : ∀ x, W2.mu x → (hid x) ∨ Wx.mu x := by
    rintro x ⟨jj, c, e1, e2, e3⟩
    by_cases hj : jj < W1.al.length
    · rw [a2old jj hj] at e1
      by_cases hm : jj ∈ ks
      · obtain ⟨i, hi, e⟩ := List.getElem_of_mem hm
        have ei : ks[i]? = some jj := by rw [List.getElem?_eq_getElem hi, e]
        obtain ⟨cx, h1, h2, _⟩ := c2in i jj ei
        rw [h2] at e2; cases e2
        rw [renC_live] at e3
        exact .inr ⟨i, cx, (alx i x hi).mp (selAt i jj x ei e1), h1, e3⟩
      · rw [c2out jj hj hm] at e2
        refine .inl ⟨⟨jj, c, e1, e2, e3⟩, fun hs => ?_⟩
        obtain ⟨i, hi, e⟩ := List.getElem_of_mem hs
        have e4 : sel[i]? = some x := by rw [List.getElem?_eq_getElem hi, e]
        obtain ⟨k, _, k1, k2, _, _⟩ := selOf i x e4
        have := nd_at rel.nd e1 k2
        subst this
        exact hm (List.mem_of_getElem? k1)
    · have hj2 : jj = W1.al.length + (jj - W1.al.length) := by omega
      rw [hj2, a2new] at e1
      rw [hj2, c2new] at e2
      cases e4 : Wx.cs[ks.length + (jj - W1.al.length)]? with
      | none => rw [e4] at e2; cases e2
      | some cx =>
        rw [e4] at e2; cases e2
        rw [renC_live] at e3
        exact .inr ⟨_, cx, e1, e4, e3⟩
  have xmu : ∀ x, Wx.mu x → (W1.mu x ∧ x ∈ sel) ∨ W1.H x = none := by
    intro x m
    rcases Sx.fresh x m with z | z
    · exact .inl (cmu x z)
    · by_cases h : hid x
      · obtain ⟨k, c, e1, _, _⟩ := m
        obtain ⟨o, ho⟩ := relx.there x (List.mem_of_getElem? e1)
        rw [xhid x h] at ho; cases ho
      · rw [cH x h] at z; exact .inr z
  have S2 : Stp W1.al.length W1 W2 := by
    refine ⟨fun x o e m => ?_, fun k x h e => ?_, fun x m => ?_⟩
    · have h : ¬ hid x := fun h => m h.1
      rw [w2H x h]
      exact Sx.keep x o (by rw [cH x h]; exact e) fun z => m (cmu x z).1
    · rw [a2old k h]; exact e
    · rcases mu2 x m with z | z
      · exact .inl z.1
      · exact (xmu x z).imp (fun z => z.1) id
  have j2 : Jn W2.H F Hx := by
    refine ⟨fun x o e => ?_, fun x o e => ?_, fun x o e => ?_⟩
    · by_cases h : hid x
      · rw [w2Hh x h] at e
        exact (jx.out x o (by simp only [F', if_pos h]; exact e)).1
      · rw [w2H x h] at e; exact jx.sub x o e
    · have h : ¬ hid x := fun h => by
        obtain ⟨u, hu⟩ := muH x h.1
        rw [(j.out x o e).2] at hu; cases hu
      have z := jx.out x o (by simp only [F', if_neg h]; exact e)
      exact ⟨z.1, by rw [w2H x h]; exact z.2⟩
    · rcases jx.all x o e with z | z
      · by_cases h : hid x
        · rw [xhid x h] at z; cases z
        · exact .inl (by rw [w2H x h]; exact z)
      · by_cases h : hid x
        · exact .inl (by rw [w2Hh x h]; simp only [F', if_pos h] at z; exact z)
        · exact .inr (by simp only [F', if_neg h] at z; exact z)
  have tr : Tr (ix2 ks W1.cs.length) Wx.al.length Wx W2 := by
    have hw : ∀ a o, Wx.H a = some o → ¬ hid a := fun a o e h => by rw [xhid a h] at e; cases e
    refine ⟨fun i a hi e => ?_, fun a o e => by rw [w2H a (hw a o e)]; exact e, fun a o e m z => (mu2 a z).elim (hw a o e) m⟩
    by_cases hik : i < ks.length
    · obtain ⟨k, b, c, e1, _, e3, _⟩ := hk i hik
      have : ix2 ks W1.cs.length i = k := by
        unfold ix2
        rw [if_pos hik, List.getD_eq_getElem?_getD, e1]
        rfl
      rw [this]
      have e4 := (alx i b hik).mp (selAt i k b e1 e3)
      rw [e] at e4; cases e4
      rw [a2old k (List.getElem?_eq_some_iff.mp e3).1]; exact e3
    · have : ix2 ks W1.cs.length i = W1.al.length + (i - ks.length) := by simp [ix2, hik, rel.len]
      rw [this, a2new, show ks.length + (i - ks.length) = i by omega]
      exact e
  have bdx : ∀ (i : Nat) (a : Addr) (c : Cel), Wx.al[i]? = some a → Wx.cs[i]? = some c → BdC Wx.al.length c := by
    intro i a c e1 e2
    have := relx.cel i a c e1 e2
    cases c with
    | lst ds => obtain ⟨vs, _, q⟩ := this; exact iss_bd ds vs q
    | dK ds => obtain ⟨vs, _, q⟩ := this; exact isK_bd ds vs q
    | lk ds => obtain ⟨_, vs, _, q⟩ := this; exact isK_bd ds vs q
    | ins C L ds => obtain ⟨_, vs, _, _, q⟩ := this; exact iss_bd ds vs q
    | gone => trivial
  refine ⟨W2, rfl, S2, ⟨?_, ?_, fun jj a c e1 e2 => ?_, fun a ha => ?_⟩, j2, tr⟩
  · show (W1.al ++ Wx.al.drop ks.length).length = (bput ks W1.cs Wx.cs).length
    unfold bput
    rw [List.length_append, List.length_append, plen, List.length_map, List.length_drop, List.length_drop, relx.len]
  · show (W1.al ++ Wx.al.drop ks.length).Nodup
    refine List.nodup_append.mpr ⟨rel.nd, relx.nd.sublist (List.drop_sublist _ _), fun a h1 b h2 e => ?_⟩
    subst e
    obtain ⟨m, hm, e⟩ := List.getElem_of_mem h2
    have e1 : Wx.al[ks.length + m]? = some a := by rw [← List.getElem?_drop, List.getElem?_eq_getElem hm, e]
    have hml : ks.length + m < Wx.cs.length := by rw [← relx.len]; exact (List.getElem?_eq_some_iff.mp e1).1
    have e2 : Wx.cs[ks.length + m]? = some Wx.cs[ks.length + m] := List.getElem?_eq_getElem hml
    have hlv : Wx.cs[ks.length + m].live = true := live _ (by
      refine List.mem_of_getElem? (i := m) ?_
      rw [List.getElem?_drop]; exact e2)
    rcases xmu a ⟨_, _, e1, e2, hlv⟩ with ⟨_, hs⟩ | z
    · obtain ⟨i, hi, e3⟩ := List.getElem_of_mem hs
      have e4 : sel[i]? = some a := by rw [List.getElem?_eq_getElem hi, e3]
      have hik : i < ks.length := by rw [← selLen]; exact hi
      have := nd_at relx.nd ((alx i a hik).mp e4) e1
      omega
    · obtain ⟨o, ho⟩ := rel.there a h1
      rw [z] at ho; cases ho
  · by_cases hj : jj < W1.al.length
    · rw [a2old jj hj] at e1
      by_cases hm : jj ∈ ks
      · obtain ⟨i, hi, e⟩ := List.getElem_of_mem hm
        have ei : ks[i]? = some jj := by rw [List.getElem?_eq_getElem hi, e]
        obtain ⟨cx, h1, h2, _⟩ := c2in i jj ei
        rw [h2] at e2; cases e2
        have e5 := (alx i a hi).mp (selAt i jj a ei e1)
        exact tr_cel tr (relx.cel i a cx e5 h1) (bdx i a cx e5 h1)
      · rw [c2out jj hj hm] at e2
        refine (rel.cel jj a c e1 e2).to S2 fun o ho => ?_
        by_cases h : hid a
        · rw [w2Hh a h]; exact ho
        · -- a cell that is no longer one
          have hmu : ¬ W1.mu a := fun z => h ⟨z, fun hs => by
            obtain ⟨i, hi, e⟩ := List.getElem_of_mem hs
            have e4 : sel[i]? = some a := by rw [List.getElem?_eq_getElem hi, e]
            obtain ⟨k, _, k1, k2, _, _⟩ := selOf i a e4
            have := nd_at rel.nd e1 k2
            subst this
            exact hm (List.mem_of_getElem? k1)⟩
          exact S2.keep a o ho hmu
    · have hj2 : jj = W1.al.length + (jj - W1.al.length) := by omega
      rw [hj2, a2new] at e1
      rw [hj2, c2new] at e2
      cases e4 : Wx.cs[ks.length + (jj - W1.al.length)]? with
      | none => rw [e4] at e2; cases e2
      | some cx =>
        rw [e4] at e2; cases e2
        exact tr_cel tr (relx.cel _ a cx e1 e4) (bdx _ a cx e1 e4)
  · rcases List.mem_append.mp (show a ∈ W1.al ++ Wx.al.drop ks.length from ha) with h | h
    · obtain ⟨o, ho⟩ := rel.there a h
      by_cases hh : hid a
      · exact ⟨o, by rw [w2Hh a hh]; exact ho⟩
      · by_cases hm : W1.mu a
        · have hs : a ∈ sel := Classical.byContradiction fun z => hh ⟨hm, z⟩
          obtain ⟨i, hi, e⟩ := List.getElem_of_mem hs
          have e4 : sel[i]? = some a := by rw [List.getElem?_eq_getElem hi, e]
          obtain ⟨u, hu⟩ := relx.there a (List.mem_of_getElem? ((alx i a (by rw [← selLen]; exact hi)).mp e4))
          exact ⟨u, by rw [w2H a hh]; exact hu⟩
        · exact ⟨o, S2.keep a o ho hm⟩
    · obtain ⟨u, hu⟩ := relx.there a (List.mem_of_mem_drop h)
      exact ⟨u, tr.h a u hu⟩
theorem spOf_framed {K : PySem.W.Frag} {sp : SpD} : ∀ vs H Q E, spOf K (framed sp) vs H Q E → spOf K sp vs H Q E := by
  rintro vs H Q E ⟨W1, F, ds, R, Z, j, rel, is, ⟨ks, ds', cs', nd, hds, bds, hl, hc, h⟩, k1, k2⟩
  obtain ⟨Wc, F', ec, hal, jc, relc, tb, back⟩ := frame_core j rel nd hl hc
  subst hds
  refine ⟨Wc, F', ds', _, _, jc, relc, tb_iss tb ds' vs is bds, ec.symm ▸ h, fun v Wx d Hx Sx relx jx ix ⟨live, d', c3, e1, e2, q⟩ => ?_, fun C a L es us Wx Hx Sx relx jx hx mx hlx ix ⟨live, d', c3, e1, e2, q⟩ => ?_⟩
  · obtain ⟨W2, ec2, S2, rel2, j2, tr⟩ := back Wx Hx Sx relx jx live
    subst e1 e2
    exact k1 v W2 _ Hx S2 rel2 j2 (tr_is tr d v ix (is_bd d v ix)) (ec2.symm ▸ q)
  · obtain ⟨W2, ec2, S2, rel2, j2, tr⟩ := back Wx Hx Sx relx jx live
    subst e1 e2
    exact k2 C a L _ us W2 Hx S2 rel2 j2 (tr.h _ _ hx) (tr.mu _ _ hx mx) (by rw [rens_len]; exact hlx) (tr_iss tr es us ix (iss_bd es us ix)) (ec2.symm ▸ q)
/-- a def's promise, for callers that have more cells -/
theorem fn_framed {P : Program} {w : World} {K : PySem.W.Frag} {mg : Str → Option Value} {base : Heap} {CX : CXT} {k : Nat} {f : Addr} {fd : FuncData} {ps : List Str} {sp : SpD} (F : FnOk P w K mg base CX k f fd ps (spOf K sp)) : FnOk P w K mg base CX k f fd ps (spOf K (framed sp)) := F.imp spOf_framed
end DL
/-! DL10: isinstance, own in, locks, keys, pairs, dict comprehensions. -/
namespace DL
open PySem PySem.Spec PyProof.Rows L2
/-! ### isinstance -/
inductive Ty where
  | b (n : String) | o (C : Addr)
def Ty.v : Ty → Value
  | .b n => .type n
  | .o C => .ref C
def tyCel : Option Cel → Option Ty
  | some (.lst _) => some (.b "list")
  | some (.dK _) => some (.b "dict")
  | some (.ins C _ _) => some (.o C)
  | _ => none
def tyOf (cs : Cs) : D → Option Ty
  | .non => some (.b "NoneType")
  | .bl _ => some (.b "bool")
  | .int _ => some (.b "int")
  | .str _ => some (.b "str")
  | .lst _ => some (.b "list")
  | .tup _ => some (.b "tuple")
  | .obj C _ _ => some (.o C)
  | .ptr k => tyCel cs[k]?
  | .scr _ => some (.b "list")
  | _ => none
def clsD : D → Option Ty
  | .ty n => some (.b n)
  | .adr C => some (.o C)
  | _ => none
def clsDs : List D → Option (List Ty)
  | [] => some []
  | d :: ds => match clsD d, clsDs ds with
    | some t, some ts => some (t :: ts)
    | _, _ => none
/-- what the classes of the instances are known to be -/
structure InsCls (K : PySem.W.Frag) (C : Addr) : Prop where
  cl : Cls K C
  ha : PySem.W.findIn K (.ref C) "__class__" = some (some (.builtin "object.__class__"))
  hn : PySem.W.specialIn K (.builtin "object.__class__") "__get__" = some (some (.builtin "getset_descriptor.__get__"))
  htk : PySem.W.takesIn K (.builtin "object.__class__") = some true
  hm : PySem.W.mroIn K C (.type "object") = some true
abbrev Tab := Ty → Ty → Option Bool
structure TabOk (K : PySem.W.Frag) (tab : Tab) : Prop where
  ans : ∀ t u b, tab t u = some b → PySem.W.kitOne K t.v u.v = some b
  ins : ∀ C u b, tab (.o C) u = some b → InsCls K C
def tabAny (tab : Tab) (t : Ty) : List Ty → Option Bool
  | [] => none
  | c :: cs => match tab t c with
    | some true => some true
    | some false => match cs with
      | [] => some false
      | c' :: r => tabAny tab t (c' :: r)
    | none => none
def isiD (tab : Tab) : RND := two fun d e cs Q => ∃ t u b, tyOf cs d = some t ∧ clsD e = some u ∧ tab t u = some b ∧ Q (.bl b) cs
def tupOf : D → Option (List D)
  | .tup es => some es
  | _ => none
def isiTD (tab : Tab) : RND := two fun d e cs Q => ∃ t es us b, tyOf cs d = some t ∧ tupOf e = some es ∧ clsDs es = some us ∧ tabAny tab t us = some b ∧ Q (.bl b) cs
section
variable {K : PySem.W.Frag} {W : Wd} {F H : Hp}
theorem tyOf_is {d : D} {v : V} {t : Ty} (rel : Rel K W) (j : Jn W.H F H) (i : Is K W d v) (e : tyOf W.cs d = some t) (hC : ∀ C, t = .o C → InsCls K C) : TyX K H v t.v := by
  cases d with
  | non => cases e; rw [show v = _ from i]; exact .base .non
  | bl b => cases e; rw [show v = _ from i]; exact .base (.bl b)
  | int b => cases e; rw [show v = _ from i]; exact .base (.int b)
  | str b => cases e; rw [show v = _ from i]; exact .base (.str b)
  | lst ds => cases e; obtain ⟨a, vs, rfl, h, _⟩ := i; exact .base (.lst (j.sub _ _ h))
  | tup ds => cases e; obtain ⟨a, vs, rfl, h, _⟩ := i; exact .base (.tup (j.sub _ _ h))
  | obj C L ds =>
    cases e
    obtain ⟨a, dx, vs, rfl, h, _⟩ := i
    have c := hC C rfl
    exact .base (.ins (j.sub _ _ h) c.cl c.ha c.hn c.htk c.hm)
  | ptr k =>
    have e' : tyCel W.cs[k]? = some t := e
    cases ec : W.cs[k]? with
    | none => rw [ec] at e'; cases e'
    | some c =>
      rw [ec] at e'
      obtain ⟨a, rfl, _, ci⟩ := ptr_cell rel i ec
      cases c with
      | lst ds => cases e'; obtain ⟨vs, h, _⟩ := ci; exact .base (.lst (j.sub _ _ h))
      | dK ds => cases e'; obtain ⟨vs, h, _⟩ := ci; exact .base (.dK (j.sub _ _ h))
      | ins C L ds =>
        cases e'
        obtain ⟨dx, vs, h, _⟩ := ci
        have c := hC C rfl
        exact .base (.ins (j.sub _ _ h) c.cl c.ha c.hn c.htk c.hm)
      | _ => cases e'
  | scr ns =>
    cases e
    obtain ⟨a, rfl, ⟨o, h, _⟩ | ⟨o, its, n, h, hc, _⟩⟩ := i
    · exact .base (.frz (j.sub _ _ h))
    · exact .kList h hc
  | _ => cases e
theorem clsD_is {d : D} {v : V} {u : Ty} (i : Is K W d v) (e : clsD d = some u) : ClsV v u.v := by
  cases d <;> first
    | (cases e; done)
    | (cases e; rw [show v = _ from i]; exact .ty _)
    | (cases e; rw [show v = _ from i]; exact .own _)
theorem clsDs_is : ∀ {ds : List D} {vs : List V} {us : List Ty}, Iss K W ds vs → clsDs ds = some us → Paired ClsV vs (us.map Ty.v)
  | [], vs, us, i, e => by cases (show vs = [] from i); cases e; exact .nil
  | d :: ds, vs, us, i, e => by
    obtain ⟨v, r, rfl, h1, h2⟩ := i
    unfold clsDs at e
    cases e1 : clsD d with
    | none => rw [e1] at e; cases e
    | some t =>
      cases e2 : clsDs ds with
      | none => rw [e1, e2] at e; cases e
      | some ts =>
        rw [e1, e2] at e; cases e
        exact .cons (clsD_is h1 e1) (clsDs_is h2 e2)
theorem tabAny_is {tab : Tab} (T : TabOk K tab) {t : Ty} : ∀ {us : List Ty} {b : Bool}, tabAny tab t us = some b → PySem.W.kitAny K t.v (us.map Ty.v) = some b
  | [], b, e => by cases e
  | [c], b, e => by
    unfold tabAny at e
    cases e1 : tab t c with
    | none => rw [e1] at e; cases e
    | some r =>
      rw [e1] at e
      show PySem.W.kitAny K t.v [c.v] = some b
      unfold PySem.W.kitAny
      rw [T.ans _ _ _ e1]
      cases r with
      | true => exact e
      | false => exact e
  | c :: c' :: cs, b, e => by
    unfold tabAny at e
    cases e1 : tab t c with
    | none => rw [e1] at e; cases e
    | some r =>
      rw [e1] at e
      show PySem.W.kitAny K t.v (c.v :: (c' :: cs).map Ty.v) = some b
      unfold PySem.W.kitAny
      rw [T.ans _ _ _ e1]
      cases r with
      | true => exact e
      | false => exact tabAny_is T e
theorem tabAny_ins {tab : Tab} (T : TabOk K tab) {C : Addr} : ∀ {us : List Ty} {b : Bool}, tabAny tab (.o C) us = some b → InsCls K C
  | [], b, e => by cases e
  | c :: cs, b, e => by
    unfold tabAny at e
    cases e1 : tab (.o C) c with
    | none => rw [e1] at e; cases e
    | some r => exact T.ins _ _ _ e1
theorem ok_isi {tab : Tab} (T : TabOk K tab) : OkN K (rIsi K) (isiD tab) := fun W F H vs ds Q R j rel is r k => by
  obtain ⟨d, v, e, u, rfl, rfl, i1, i2, t, c, b, h1, h2, h3, r⟩ := two_is is r
  refine ⟨v, u, t.v, c.v, b, rfl, clsD_is i2 h2, tyOf_is rel j i1 h1 (fun C e => ?_), T.ans _ _ _ h3, k _ W (.bl b) H .refl rel j rfl r⟩
  subst e
  exact T.ins _ _ _ h3
theorem ok_isiT {tab : Tab} (T : TabOk K tab) : OkN K (rIsiT K) (isiTD tab) := fun W F H vs ds Q R j rel is r k => by
  obtain ⟨d, v, e, u, rfl, rfl, i1, i2, t, es, us, b, h1, h0, h2, h3, r'⟩ := two_is is r
  cases e <;> first | (cases h0; done) | skip
  cases h0
  obtain ⟨a, xs, rfl, ha, _, ix⟩ := i2
  refine ⟨v, a, xs, t.v, us.map Ty.v, b, rfl, j.sub _ _ ha, clsDs_is ix h2, tyOf_is rel j i1 h1 (fun C e => ?_), tabAny_is T h3, k _ W (.bl b) H .refl rel j rfl r'⟩
  subst e
  exact tabAny_ins T h3
end
end DL
/-! DL11: own in, locks, keys, pairs, dict comprehensions. -/
namespace DL
open PySem PySem.Spec PyProof.Rows L2
def rInOwn (SP : Sp) (C : Addr) : R2 := fun x y H Q => ∃ a dx fs, y = .ref a ∧ H a = some (.ins C dx fs) ∧ SP [y, x] H (fun v H' => ∃ b, v = .bl b ∧ Q (.bl b) H') E0
section
variable {X : Cx} {n : Nat} {f C : Addr} {fd : FuncData} {ps : List Str} {SP : Sp}
theorem op_inOwn (F : FnOk X.prog X.w X.K X.mg X.base CX0 n f fd ps SP) (hr : Room n X.A) (hs : PySem.W.findIn X.K (.ref C) "__contains__" = some (some (.ref f))) (hf : PySem.W.typeIn X.K (.ref f) = some (.type "function")) (hb : Binds X.K fd ps []) : OpR X (compareOp .In) (rInOwn SP C) := by
  intro pins s σ H x y v u Q I rx ry h
  obtain ⟨a, dx, fs, rfl, ha, hsp⟩ := h
  cases ry
  obtain ⟨mA, J, _⟩ := ins_get I.hok ha
  obtain ⟨od, J, _⟩ := J.look
  have hl := F.len _ _ _ _ hsp
  have r2 : Vals [V.ref a, x] [Value.ref a, v] := .cons rfl (.cons rx .nil)
  have main : wpAny (model X.prog X.w) X.A (call (.ref f) [.ref a, v]) (fun r s' => wpAny (model X.prog X.w) X.A (truthy r) (fun b s'' => EP X pins σ Q (.bool b) s'') X.xe s') X.xe s := by
    refine wpAny_call (codeAny_mono (F.run X.A X.stack s H ⟨[.ref a, v], []⟩ [.ref a, v] [.ref a, x] _ E0 hr I.env0 (by
      have := hb s [.ref a, v] I.kIn (by simpa using hl)
      simpa using this) r2 hsp) fun r s' hq => ?_)
    cases r with
    | error e => exact pass0 pins σ H s e s' I hq
    | ok fl =>
      cases fl with
      | ret w =>
        obtain ⟨z, H', I', rz, b, ez, q⟩ := I.after hq
        subst ez
        cases rz
        exact wpAny_truthy_bool ⟨.bl b, H', I', rfl, q⟩
      | next => exact False.elim hq
      | brk => exact False.elim hq
      | cont => exact False.elim hq
  show wpAny _ _ (contains (.ref a) v >>= fun r => pure (Value.bool r)) _ _ s
  unfold contains
  refine wpAny_bind (wpAny_holding ?_)
  rw [stdlibNamesSay?_ref]
  have sp : ∀ {α : Type} (k : Option Value → Sem α) (Q' : α → Shared → Prop), wpAny (model X.prog X.w) X.A (k (some (.ref f))) Q' X.xe s → wpAny (model X.prog X.w) X.A (specialOf (.ref a) "__contains__" >>= k) Q' X.xe s := fun k Q' q =>
    wpAny_bind (wpAny_bind (J.type.here ((PySem.W.looks_findIn I.kIn hs).here q)))
  refine sp _ _ ?_
  have e1 : ((some (Value.ref f)) == some Value.none) = false := rfl
  rw [e1]
  simp only [Bool.false_eq_true, if_false]
  refine wpAny_bind ?_
  unfold callSpecialUnlessNone?
  refine sp _ _ ?_
  refine wpAny_holding (wpAny_bind ((PySem.W.bind_fn I.kIn _ hf).here ?_))
  have e2 : ((Value.ref f) == Value.none) = false := rfl
  show wpAny _ _ (if ((Value.ref f) == Value.none) = true then _ else (call (.ref f) ([.ref a] ++ [v]) >>= fun r => pure (some r))) _ _ s
  rw [e2]
  simp only [Bool.false_eq_true, if_false]
  refine wpAny_bind (wpAny_mono main (fun r s' h' => wpAny_pure ?_) fun _ _ h' => h')
  exact wpAny_mono h' (fun b s'' h'' => wpAny_pure h'') fun _ _ h' => h'
end
def inOwnD (C : Addr) (sp : SpD) : R2D := fun x y cs Q => insOf cs y fun C' _ _ => C' = C ∧ sp [y, x] cs (fun d c1 => asBl d fun b => Q (.bl b) c1) noX
theorem ok_inOwn {K : PySem.W.Frag} {sp : SpD} {C : Addr} : Ok2 K (rInOwn (spOf K sp) C) (inOwnD C sp) := fun W F H x y dx dy Q R j rel ix iy r k => by
  obtain ⟨a, C', L, ds, dd, vs, rfl, e, hl, is, eC, q⟩ := insOf_is rel iy r
  subst eC
  refine ⟨a, dd, _, rfl, j.sub _ _ e, W, F, [dy, dx], _, noX, j, rel, ⟨_, _, rfl, iy, _, _, rfl, ix, rfl⟩, q, fun v W' d H' S' rel' j' i' q' => ?_, .no⟩
  obtain ⟨b, rfl, q'⟩ := asBl_is i' q'
  exact ⟨b, rfl, k _ W' (.bl b) H' S' rel' j' rfl q'⟩
/-! ### a dict is locked while it is walked -/
def dLockE (t : TED) : TED := fun δ cs Q => ∃ k kvs, cs[k]? = some (.dK kvs) ∧ t δ (cs.set k (.lk kvs)) fun d c' => c'[k]? = some (.lk kvs) ∧ Q d (c'.set k (.dK kvs))
section
variable {K : PySem.W.Frag} {W W' : Wd}
/-- all but a locked dict is kept -/
structure Tk (W W' : Wd) : Prop where
  al : W'.al = W.al
  h : ∀ a o, W.H a = some o → (∀ u vs, o ≠ .frz u (.dK vs)) → W'.H a = some o
  mu : ∀ a o, W.H a = some o → (∀ u vs, o ≠ .frz u (.dK vs)) → ¬ W.mu a → ¬ W'.mu a
mutual
theorem tk_is (T : Tk W W') : ∀ (d : D) (v : V), Is K W d v → Is K W' d v
  | .non, v, h => h
  | .bl _, v, h => h
  | .int _, v, h => h
  | .str _, v, h => h
  | .ty _, v, h => h
  | .adr _, v, h => h
  | .ptr k, v, h => by
    obtain ⟨a, e, r⟩ := h
    exact ⟨a, by rw [T.al]; exact e, r⟩
  | .lst ds, v, h => by
    obtain ⟨a, vs, r, e, m, q⟩ := h
    exact ⟨a, vs, r, T.h _ _ e (fun _ _ z => nomatch z), T.mu _ _ e (fun _ _ z => nomatch z) m, tk_iss T ds vs q⟩
  | .tup ds, v, h => by
    obtain ⟨a, vs, r, e, m, q⟩ := h
    exact ⟨a, vs, r, T.h _ _ e (fun _ _ z => nomatch z), T.mu _ _ e (fun _ _ z => nomatch z) m, tk_iss T ds vs q⟩
  | .obj C L ds, v, h => by
    obtain ⟨a, dx, vs, r, e, m, hl, q⟩ := h
    exact ⟨a, dx, vs, r, T.h _ _ e (fun _ _ z => nomatch z), T.mu _ _ e (fun _ _ z => nomatch z) m, hl, tk_iss T ds vs q⟩
  | .scr ns, v, h => by
    obtain ⟨a, r, ⟨o, e, m⟩ | k⟩ := h
    · exact ⟨a, r, .inl ⟨o, T.h _ _ e (fun _ _ z => by cases z), T.mu _ _ e (fun _ _ z => by cases z) m⟩⟩
    · exact ⟨a, r, .inr k⟩
theorem tk_iss (T : Tk W W') : ∀ (ds : List D) (vs : List V), Iss K W ds vs → Iss K W' ds vs
  | [], vs, h => h
  | d :: ds, vs, h => by
    obtain ⟨v, r, e, h1, h2⟩ := h
    exact ⟨v, r, e, tk_is T d v h1, tk_iss T ds r h2⟩
end
theorem tk_isK (T : Tk W W') : ∀ (ds : List (Key × D)) (vs : List (Key × V)), IsK K W ds vs → IsK K W' ds vs
  | [], vs, h => h
  | (k, d) :: ds, vs, h => by
    obtain ⟨v, r, e, h1, h2⟩ := h
    exact ⟨v, r, e, tk_is T d v h1, tk_isK T ds r h2⟩
theorem tk_cel (T : Tk W W') {a : Addr} (hh : ∀ o, W.H a = some o → W'.H a = some o) : ∀ {c : Cel}, CelIs K W a c → CelIs K W' a c
  | .lst ds, h => let ⟨vs, e, q⟩ := h; ⟨vs, hh _ e, tk_iss T ds vs q⟩
  | .dK ds, h => let ⟨vs, e, q⟩ := h; ⟨vs, hh _ e, tk_isK T ds vs q⟩
  | .lk ds, h => let ⟨o, vs, e, q⟩ := h; ⟨o, vs, hh _ e, tk_isK T ds vs q⟩
  | .ins C L ds, h => let ⟨dx, vs, e, hl, q⟩ := h; ⟨dx, vs, hh _ e, hl, tk_iss T ds vs q⟩
  | .gone, _ => trivial
/-- what the lock asks and gives back -/
theorem unlock_is {k : Nat} {a : Addr} {od : Obj} {kvs : List (Key × D)} {vs : List (Key × V)} (rel : Rel K W') (ea : W'.al[k]? = some a) (ec : W'.cs[k]? = some (.lk kvs)) (eh : W'.H a = some (.frz od (.dK vs))) (ik : IsK K W' kvs vs) :
    Tk W' (W'.put k a (.dK vs) (.dK kvs)) ∧ Rel K (W'.put k a (.dK vs) (.dK kvs)) := by
  have hk := (List.getElem?_eq_some_iff.mp ec).1
  have mu2 : ∀ b, (W'.put k a (.dK vs) (.dK kvs)).mu b → b = a ∨ W'.mu b := by
    rintro b ⟨i, c, e1, e2, e3⟩
    by_cases hi : k = i
    · subst hi
      have e1' : W'.al[k]? = some b := e1
      rw [ea] at e1'; cases e1'
      exact .inl rfl
    · have e2' : (W'.cs.set k (.dK kvs))[i]? = some c := e2
      rw [List.getElem?_set_ne hi] at e2'
      exact .inr ⟨i, c, e1, e2', e3⟩
  have T : Tk W' (W'.put k a (.dK vs) (.dK kvs)) := by
    refine ⟨rfl, fun b o e n => ?_, fun b o e n m z => ?_⟩
    · show upd W'.H a _ b = some o
      rw [upd_ne fun z => by subst z; rw [eh] at e; cases e; exact n _ _ rfl]
      exact e
    · rcases mu2 b z with h | h
      · subst h; rw [eh] at e; cases e; exact n _ _ rfl
      · exact m h
  refine ⟨T, ⟨by show W'.al.length = (W'.cs.set k _).length; simp [rel.len], rel.nd, fun i b c e1 e2 => ?_, fun b hb => ?_⟩⟩
  · by_cases hi : k = i
    · subst hi
      have e1' : W'.al[k]? = some b := e1
      rw [ea] at e1'; cases e1'
      have e2' : (W'.cs.set k (.dK kvs))[k]? = some c := e2
      rw [List.getElem?_set_self hk] at e2'; cases e2'
      exact ⟨vs, upd_same, tk_isK T _ _ ik⟩
    · have e2' : (W'.cs.set k (.dK kvs))[i]? = some c := e2
      rw [List.getElem?_set_ne hi] at e2'
      refine tk_cel T (fun o ho => ?_) (rel.cel i b c e1 e2')
      show upd W'.H a _ b = some o
      rw [upd_ne fun z => hi (by subst z; exact nd_at rel.nd ea e1)]
      exact ho
  · by_cases hba : b = a
    · subst hba; exact ⟨_, upd_same⟩
    · obtain ⟨u, hu⟩ := rel.there b hb
      exact ⟨u, by show upd W'.H a _ b = some u; rw [upd_ne hba]; exact hu⟩
theorem up_lockE {K : PySem.W.Frag} {t : TED} : ∀ σ H Q, up K (dLockE t) σ H Q → tLockE (up K t) σ H Q := fun σ H Q ⟨W, F, δ, R, j, rel, sl, ⟨k, kvs, e, q⟩, A⟩ => by
  have hk := (List.getElem?_eq_some_iff.mp e).1
  have hka : k < W.al.length := by rw [rel.len]; exact hk
  have ea : W.al[k]? = some W.al[k] := List.getElem?_eq_getElem hka
  obtain ⟨vs, eh, ik⟩ := rel.cel k _ _ ea e
  refine ⟨W.al[k], .dK vs, j.sub _ _ eh, trivial, fun od => ?_⟩
  have S1 := put_stp (W := W) (o := .frz od (.dK vs)) (c := .lk kvs) ea e rfl
  have r1 : Rel K (W.put k W.al[k] (.frz od (.dK vs)) (.lk kvs)) := rel.put ea e rfl ⟨od, vs, upd_same, ik.to S1⟩
  have nm : ¬ (W.put k W.al[k] (.frz od (.dK vs)) (.lk kvs)).mu W.al[k] := by
    rintro ⟨i, c, e1, e2, e3⟩
    have := nd_at rel.nd ea e1
    subst this
    have e2' : (W.cs.set k (.lk kvs))[k]? = some c := e2
    rw [List.getElem?_set_self hk] at e2'; cases e2'
    cases e3
  refine ⟨W.put k W.al[k] (.frz od (.dK vs)) (.lk kvs), F, δ, _, j.put eh _, r1, sl.to S1, q, fun v W' d H' S' rel' j' id ⟨ek, qq⟩ => ?_⟩
  have ea' : W'.al[k]? = some W.al[k] := S'.al k _ hka ea
  have eh' : W'.H W.al[k] = some (.frz od (.dK vs)) := S'.keep _ _ upd_same nm
  obtain ⟨T, r2⟩ := unlock_is rel' ea' ek eh' ((ik.to S1).to S')
  refine ⟨j'.sub _ _ eh', A v (W'.put k W.al[k] (.dK vs) (.dK kvs)) d _ ?_ r2 (j'.put eh' _) (tk_is T d v id) qq⟩
  have S01 := S1.full S'
  have hmu : W.mu W.al[k] := ⟨k, _, ea, e, rfl⟩
  refine ⟨fun b o eb nb => ?_, fun i b hi eb => S01.al i b hi eb, fun b ⟨i, c, e1, e2, e3⟩ => ?_⟩
  · show upd W'.H W.al[k] _ b = some o
    rw [upd_ne fun z => nb (by rw [z]; exact hmu)]
    exact S01.keep b o eb nb
  · by_cases hi : k = i
    · subst hi
      have e1' : W'.al[k]? = some b := e1
      rw [ea'] at e1'; cases e1'
      exact .inl hmu
    · have e2' : (W'.cs.set k (.dK kvs))[i]? = some c := e2
      rw [List.getElem?_set_ne hi] at e2'
      exact S01.fresh b ⟨i, c, e1, e2', e3⟩
end
theorem de_lock {X : Cx} {e : Expr} {t : TED} (h : DE X e t) : DE X e (dLockE t) := pe_imp (pe_lock h) up_lockE
/-- for k in d, d locked -/
def lkAt (o : Option Cel) (Q : List (Key × D) → Prop) : Prop := match o with
  | some (.lk kvs) => Q kvs
  | _ => False
def asLk (cs : Cs) (d : D) (Q : Nat → List (Key × D) → Prop) : Prop := match d with
  | .ptr k => lkAt cs[k]? (Q k)
  | _ => False
def kD : Key → D
  | .inl i => .int i
  | .inr s => .str s
theorem kD_is {K : PySem.W.Frag} {W : Wd} (k : Key) : Is K W (kD k) (kV k) := by cases k <;> exact rfl
def iKeysD (t : TED) : TID := fun δ cs R => t δ cs fun d c1 => asLk c1 d fun k kvs => R (kvs.map fun kv => kD kv.1) (fun c => c[k]? = some (.lk kvs)) c1
theorem isK_keys {K : PySem.W.Frag} {W : Wd} : ∀ {ds : List (Key × D)} {vs : List (Key × V)} {i : Nat} {k : Key} {v : V}, IsK K W ds vs → vs[i]? = some (k, v) → ∃ d, ds[i]? = some (k, d) ∧ Is K W d v
  | [], vs, i, k, v, h, e => by cases (show vs = [] from h); cases e
  | (k', d) :: ds, vs, 0, k, v, h, e => by
    obtain ⟨w, r, rfl, h1, h2⟩ := h
    cases e
    exact ⟨d, rfl, h1⟩
  | (k', d) :: ds, vs, i + 1, k, v, h, e => by
    obtain ⟨w, r, rfl, h1, h2⟩ := h
    obtain ⟨d', e2, q⟩ := isK_keys (i := i) (k := k) (v := v) h2 (by simpa using e)
    exact ⟨d', by simpa using e2, q⟩
theorem di_keys {X : Cx} {tg e : Expr} {t : TED} (h : DE X e t) : DI X tg e (iKeysD t) := pi_imp (pi_keys h) fun σ H R ⟨W, F, δ, RR, j, rel, sl, q, k⟩ => ⟨W, F, δ, _, j, rel, sl, q, fun v W1 d H1 S1 rel1 j1 i q => by
  cases d <;> first | exact (show False from q).elim | skip
  rename_i n
  have q' : lkAt W1.cs[n]? fun kvs => RR (kvs.map fun kv => kD kv.1) (fun c => c[n]? = some (.lk kvs)) W1.cs := q
  cases ec : W1.cs[n]? with
  | none => rw [ec] at q'; exact q'.elim
  | some c =>
    rw [ec] at q'
    cases c <;> first | exact (show False from q').elim | skip
    rename_i kvs
    obtain ⟨a, rfl, ea, o, vs, eh, ik⟩ := ptr_cell rel1 i ec
    have nm : ¬ W1.mu a := by
      rintro ⟨m, c, e1, e2, e3⟩
      have := nd_at rel1.nd ea e1
      subst this
      rw [ec] at e2; cases e2; cases e3
    have hl : kvs.length = vs.length := isK_len ik
    refine ⟨a, o, rfl, .inl ⟨vs, j1.sub _ _ eh, k _ _ W1 H1 _ S1 rel1 j1 ⟨fun i W F H S r j g hi => ?_, fun W F H S r j g => ?_, fun i W F H x H' S r j g hi y => ?_⟩ q'⟩⟩
    · exact ⟨j.sub _ _ (S.keep _ _ eh nm), by simpa [hl] using hi⟩
    · exact ⟨j.sub _ _ (S.keep _ _ eh nm), by simp [hl]⟩
    · obtain ⟨rfl, key, v, e1, rfl⟩ := y
      obtain ⟨d, e2, _⟩ := isK_keys ik e1
      exact ⟨W, kD key, j, .refl, r, rfl, by rw [List.getElem?_map, e2]; rfl, kD_is key⟩⟩
end DL
/-! DL12: pairs of a dict, sorted pairs, dict comprehensions. -/
namespace DL
open PySem PySem.Spec PyProof.Rows L2
/-- more things stand in the heap -/
theorem more_is {K : PySem.W.Frag} {W : Wd} {F H H' : Hp} (rel : Rel K W) (j : Jn W.H F H) (hk : ∀ b o, H b = some o → H' b = some o) :
    ∃ W' : Wd, W'.cs = W.cs ∧ Jn W'.H F H' ∧ Rel K W' ∧ Stp W.al.length W W' ∧ (∀ b o, H b = none → H' b = some o → W'.H b = some o ∧ ¬ W'.mu b) := by
  classical
  let W' : Wd := ⟨W.al, fun a => if H a = none then H' a else W.H a, W.cs⟩
  have old : ∀ a, H a ≠ none → W'.H a = W.H a := fun a h => if_neg h
  have new : ∀ a, H a = none → W'.H a = H' a := fun a h => if_pos h
  have kp : ∀ a o, W.H a = some o → W'.H a = some o := fun a o e => by
    rw [old a (by rw [j.sub a o e]; exact fun z => nomatch z)]; exact e
  have S : Stp W.al.length W W' := ⟨fun a o e _ => kp a o e, fun _ _ _ h => h, fun a m => .inl m⟩
  have hm : ∀ b, W.mu b → ∃ o, W.H b = some o := fun b ⟨k, c, e1, _, _⟩ => rel.there b (List.mem_of_getElem? e1)
  refine ⟨W', rfl, ⟨fun a o e => ?_, fun a o e => ?_, fun a o e => ?_⟩, ⟨rel.len, rel.nd, fun k a c e1 e2 => (rel.cel k a c e1 e2).to S fun o => kp a o, fun a ha => let ⟨o, e⟩ := rel.there a ha; ⟨o, kp a o e⟩⟩, S, fun b o e e' => ⟨by rw [new b e]; exact e', fun m => ?_⟩⟩
  · by_cases h : H a = none
    · rw [new a h] at e; exact e
    · rw [old a h] at e; exact hk a o (j.sub a o e)
  · obtain ⟨h1, h2⟩ := j.out a o e
    exact ⟨hk a o h1, by rw [old a (by rw [h1]; exact fun z => nomatch z)]; exact h2⟩
  · by_cases h : H a = none
    · exact .inl (by rw [new a h]; exact e)
    · cases e2 : H a with
      | none => exact absurd e2 h
      | some u =>
        have := hk a u e2
        rw [e] at this; cases this
        exact (j.all a o e2).imp (fun z => by rw [old a h]; exact z) id
  · obtain ⟨u, hu⟩ := hm b m
    rw [j.sub b u hu] at e; cases e
def pairK (kv : Key × D) : D := .tup [kD kv.1, kv.2]
def itemsL (td : TED) : TED := fun δ cs Q => td δ cs fun x c1 => asDk c1 x fun kvs => Q (.lst (kvs.map pairK)) c1
theorem pairs_is {K : PySem.W.Frag} {W W' : Wd} {H H' : Hp} (st : Stp W.al.length W W') (hn : ∀ b o, H b = none → H' b = some o → W'.H b = some o ∧ ¬ W'.mu b) : ∀ {ts : List Addr} {ds : List (Key × D)} {vs : List (Key × V)}, IsK K W ds vs → (∀ t ∈ ts, H t = none) → Paired (fun (t : Addr) (q : Key × V) => H' t = some (.tup [kV q.1, q.2])) ts vs → Iss K W' (ds.map pairK) (ts.map V.ref)
  | [], [], vs, i, _, p => rfl
  | [], (k, d) :: ds, vs, i, _, p => by obtain ⟨v, r, rfl, _, _⟩ := i; cases p
  | t :: ts, [], vs, i, _, p => by cases (show vs = [] from i); cases p
  | t :: ts, (k, d) :: ds, vs, i, hts, p => by
    obtain ⟨v, r, rfl, h1, h2⟩ := i
    cases p with
    | cons p1 p2 =>
      obtain ⟨e, m⟩ := hn t _ (hts t List.mem_cons_self) p1
      exact ⟨.ref t, ts.map V.ref, rfl, ⟨t, _, rfl, e, m, _, _, rfl, kD_is k, _, _, rfl, h1.to st, rfl⟩, pairs_is st hn h2 (fun t ht => hts t (List.mem_cons_of_mem _ ht)) p2⟩
section
variable {X : Cx} {e : Expr} {td : TED} {p apos cpos pos : Pos}
theorem de_items (hc : X.calm = true) (he : DE X e td) (hg : Gl X "list") (hm : X.mg "list" = none) (hv : bootBuiltins "list" = some (.type "list")) (hbase : attributeBase e "items" X.env (eval e X.env) = eval e X.env := by rfl) (hline : (apos.endLine == cpos.line) = true := by rfl)
    (hs : starEach [.Call (.Attribute e "items" apos) [] [] cpos] X.env = (false, eval (.Call (.Attribute e "items" apos) [] [] cpos) X.env) :: starEach [] X.env := by rfl) :
    DE X (.Call (.Name "list" p) [.Call (.Attribute e "items" apos) [] [] cpos] [] pos) (itemsL td) :=
  pe_imp (LiI.pe_listItems hc he hg hm hv hbase hline hs) fun σ H Q ⟨W, F, δ, R, j, rel, sl, q, k⟩ => ⟨W, F, δ, _, j, rel, sl, q, fun v W1 d H1 S1 rel1 j1 i q => by
    obtain ⟨n, a, ds, vs, rfl, rfl, ea, ec, eh, is, q⟩ := asDk_is rel1 j1 i q
    refine ⟨a, vs, rfl, j1.sub _ _ eh, fun H' p ts hk hp hts hpt hl hpr => ?_⟩
    obtain ⟨W2, ec2, j2, rel2, S2, hn⟩ := more_is rel1 j1 hk
    obtain ⟨e3, m3⟩ := hn p _ hp hl
    exact k (.ref p) W2 (.lst (ds.map pairK)) H' (S1.full S2) rel2 j2 ⟨p, _, rfl, e3, m3, pairs_is S2 hn is hts hpr⟩ (ec2.symm ▸ q)⟩
end
/-- sorted of pairs of ints -/
def pairI (p : Int × Int) : D := .tup [.int p.1, .int p.2]
def leP (p q : Int × Int) : Prop := SrtO.lexB q p = false
def sortPD : RND := one fun d cs Q => asL cs d fun ds => ∃ ps : List (Int × Int), ds = ps.map pairI ∧ ∀ ps' : List (Int × Int), ps'.Perm ps → ps'.Pairwise leP → Q (.lst (ps'.map pairI)) cs
def keyAt (H : Hp) : V → Int × Int
  | .ref t => match H t with
    | some (.tup [.int i, .int j]) => (i, j)
    | _ => (0, 0)
  | _ => (0, 0)
theorem pairI_is {K : PySem.W.Frag} {W : Wd} {F H : Hp} (j : Jn W.H F H) {p : Int × Int} {v : V} (i : Is K W (pairI p) v) : ∃ t, v = .ref t ∧ H t = some (.tup [.int p.1, .int p.2]) ∧ keyAt H v = p := by
  obtain ⟨a, vs, rfl, h, _, x, r, rfl, h1, y, r2, rfl, h2, h3⟩ := i
  cases (show r2 = [] from h3)
  cases (show x = _ from h1)
  cases (show y = _ from h2)
  have := j.sub _ _ h
  exact ⟨a, rfl, this, by simp [keyAt, this]⟩
theorem ok_sortP {K : PySem.W.Frag} : OkN K (rSortedPO K) sortPD := fun W F H vs ds Q R j rel is r k => by
  obtain ⟨d, v, rfl, rfl, i, r⟩ := one_is is r
  obtain ⟨a, ds, vs, rfl, h, is, ps, e, q⟩ := asL_is rel j i r
  subst e
  -- each is the pair that its key tells
  have all : ∀ x ∈ vs, Is K W (pairI (keyAt H x)) x := by
    intro x hx
    obtain ⟨n, hn, e⟩ := List.getElem_of_mem hx
    obtain ⟨d, hd, id⟩ := is.get' (show vs[n]? = some x by rw [List.getElem?_eq_getElem hn, e])
    rw [List.getElem?_map] at hd
    cases e2 : ps[n]? with
    | none => rw [e2] at hd; cases hd
    | some p =>
      rw [e2] at hd; cases hd
      obtain ⟨t, _, _, e3⟩ := pairI_is j id
      rw [e3]; exact id
  have keys : ∀ {ps : List (Int × Int)} {vs : List V}, Iss K W (ps.map pairI) vs → vs.map (keyAt H) = ps := by
    intro ps
    induction ps with
    | nil => intro vs i; cases (show vs = [] from i); rfl
    | cons p ps ih =>
      intro vs i
      obtain ⟨v, r, rfl, h1, h2⟩ := i
      obtain ⟨t, _, _, e3⟩ := pairI_is j h1
      rw [List.map_cons, e3, ih h2]
  refine ⟨a, vs, keyAt H, rfl, h, fun x hx => ?_, fun ys p h1 h2 hp => ?_⟩
  · obtain ⟨t, e1, e2, _⟩ := pairI_is j (all x hx)
    exact ⟨t, e1, e2⟩
  · have iy : ∀ (zs : List V), (∀ x ∈ zs, x ∈ vs) → Iss K W ((zs.map (keyAt H)).map pairI) zs := by
      intro zs
      induction zs with
      | nil => intro _; rfl
      | cons z zs ih => intro hz; exact ⟨z, zs, rfl, all z (hz z List.mem_cons_self), ih fun x hx => hz x (List.mem_cons_of_mem _ hx)⟩
    have is' := iy ys fun x hx => h2.perm.mem_iff.mp hx
    refine k (.ref p) (W.add p (.lst ys)) (.lst ((ys.map (keyAt H)).map pairI)) _ (add_stp (j.none hp) _) (rel.add (j.none hp) _) (j.new hp _) (rel.newLst (j.none hp) is') (q _ ?_ ?_)
    · have := h2.perm.map (keyAt H)
      rw [keys is] at this
      exact this
    · exact List.pairwise_map.mpr (h1.imp fun {x y} h => h)
/-! ### dict comprehensions -/
def dDc (ti : TID) (g : TGD) (tc : TTD) (tk tv : TED) (vs : List Nat) : TED := fun δ cs Q => ti δ cs fun ds G c1 => ∃ I : Nat → List (Key × D) → Cs → Prop, I 0 [] c1 ∧ (∀ i acc c, I i acc c → G c) ∧
  (∀ i d acc c, ds[i]? = some d → I i acc c → c1.length ≤ c.length → g d (wipeD δ vs) c fun δ2 c2 => tc δ2 c2 fun b c3 =>
    brn b (tk δ2 c3 fun y c4 => tv δ2 c4 fun z c5 => asKey y fun key => acc.length < sizeLine ∧ ∃ z' c6, GhV c1.length z c5 z' c6 ∧ Bd c1.length z' ∧ I (i + 1) (putG acc key z') c6) (∃ c5, GhC c1.length c3 c5 ∧ I (i + 1) acc c5)) ∧
  ∀ acc c, I ds.length acc c → Q (.ptr c.length) (c ++ [.dK acc])
theorem bdK_put {n : Nat} {k : Key} {d : D} (h : Bd n d) {kvs : List (Key × D)} (q : BdK n kvs) : BdK n (putG kvs k d) := by
  unfold putG
  split
  · induction kvs with
    | nil => exact trivial
    | cons x r ih =>
      obtain ⟨k', d'⟩ := x
      have step : ∀ {r : List (Key × D)}, BdK n r → BdK n (r.map fun kv => if kv.1 = k then (kv.1, d) else kv) := by
        intro r
        induction r with
        | nil => intro _; exact trivial
        | cons x r ih =>
          obtain ⟨k', d'⟩ := x
          intro q
          rw [List.map_cons]
          by_cases e : k' = k
          · rw [if_pos e]; exact ⟨h, ih q.2⟩
          · rw [if_neg e]; exact ⟨q.1, ih q.2⟩
      exact step q
  · have step : ∀ {r : List (Key × D)}, BdK n r → BdK n (r ++ [(k, d)]) := by
      intro r
      induction r with
      | nil => intro _; exact ⟨h, trivial⟩
      | cons x r ih => obtain ⟨k', d'⟩ := x; intro q; exact ⟨q.1, ih q.2⟩
    exact step q
theorem up_dc {K : PySem.W.Frag} {ti : TID} {g : TGD} {tc : TTD} {tk tv : TED} {vs : List Nat} : ∀ σ H Q, up K (dDc ti g tc tk tv vs) σ H Q → tDc (upI K ti) (upGw K vs g) (upT K tc) (up K tk) (up K tv) vs σ H Q := fun σ H Q ⟨W0, F, δ, R, j, rel, sl, t, kk⟩ => by
  refine ⟨W0, F, δ, _, j, rel, sl, t, fun ds G W1 H1 J S1 rel1 j1 it ⟨I, i0, hG, turn, fin'⟩ => ?_⟩
  have sl1 := sl.to S1
  have hc1 : W1.cs.length = W1.al.length := rel1.len.symm
  rw [hc1] at turn
  intro Da hDa
  have hFD : F Da = none := by
    cases e : F Da with
    | none => rfl
    | some o => rw [(j1.out _ _ e).1] at hDa; cases hDa
  refine ⟨fun i m H => m = ds.length - i ∧ i ≤ ds.length ∧ ∃ (W : Wd) (acc : List (Key × D)) (accV : List (Key × V)), Jn W.H (upd F Da (.dK accV)) H ∧ Rel K W ∧ W1.al.length ≤ W.al.length ∧ Stp W1.al.length W1 W ∧ IsK K W acc accV ∧ BdK W1.al.length acc ∧ I i acc W.cs,
    ⟨ds.length, by simp, Nat.zero_le _, W1, [], [], j1.hide hDa _, rel1, Nat.le_refl _, .refl, rfl, trivial, i0⟩, ?_⟩
  rintro i m H ⟨rfl, hi, W, acc, accV, j, rel, hlw, S, ia, ba, im⟩
  have hWD : W.H Da = none := (j.out Da _ upd_same).2
  by_cases hlt : i < ds.length
  · refine .inr ⟨it.goes i W _ H S rel j (hG i acc W.cs im) hlt, fun H' => ∃ (W : Wd) (acc : List (Key × D)) (accV : List (Key × V)), Jn W.H (upd F Da (.dK accV)) H' ∧ Rel K W ∧ W1.al.length ≤ W.al.length ∧ Stp W1.al.length W1 W ∧ IsK K W acc accV ∧ BdK W1.al.length acc ∧ I (i + 1) acc W.cs,
      fun H' q => ⟨ds.length - (i + 1), by omega, rfl, hlt, q⟩, fun x H' y => ?_⟩
    obtain ⟨W2, d, j2, S2, rel2, ec2, hd, id⟩ := it.yields i W _ H x H' S rel j (hG i acc W.cs im) hlt y
    have hl2 : W1.al.length ≤ W2.al.length := Nat.le_trans hlw S2.lenLe
    have S12 : Stp W1.al.length W1 W2 := S.tr (S2.mono hlw) fun _ _ h _ => h
    have slw : Sl K W2 (wipeD δ vs) (L2.wipe σ vs) := by
      have q := sl1.wipe vs
      exact ⟨q.len, fun i d e => let ⟨v, e1, h⟩ := q.at_ i d e; ⟨v, e1, is_stp S12 d v h (is_bd d v h)⟩⟩
    refine ⟨W2, _, wipeD δ vs, d, _, j2, rel2, slw, id, turn i d acc W2.cs hd (ec2.symm ▸ im) (by rw [← rel2.len]; exact hl2), fun σ3 W3 δ3 H3 S3 rel3 j3 sl3 hw3 q => ?_⟩
    refine ⟨by rw [hw3]; exact (by
      have : ∀ (σ : L2.St) (us : List Nat), L2.wipe (L2.wipe σ us) us = L2.wipe σ us := by
        intro σ us
        have key : ∀ (ws : List Nat) (τ : L2.St), (∀ w ∈ ws, w ∈ us) → L2.wipe (L2.wipe τ ws) us = L2.wipe τ us := by
          intro ws
          induction ws with
          | nil => intro τ _; rfl
          | cons w ws ih =>
            intro τ h
            show L2.wipe ((L2.wipe τ ws).set w none) us = _
            rw [wipe_set (h w List.mem_cons_self)]
            exact ih τ fun x hx => h x (List.mem_cons_of_mem _ hx)
        exact key us σ fun _ h => h
      exact this σ vs), ?_⟩
    refine ⟨W3, _, δ3, _, j3, rel3, sl3, q, fun b W4 H4 S4 rel4 j4 q4 => brn_if q4 (fun q4 => ?_) fun q4 => ?_⟩
    · refine ⟨W4, _, δ3, _, j4, rel4, sl3.to S4, q4, fun y W5 dy H5 S5 rel5 j5 iy q5 => ⟨W5, _, δ3, _, j5, rel5, sl3.to (S4.full S5), q5, fun z W6 dz H6 S6 rel6 j6 iz q6 => ?_⟩⟩
      obtain ⟨key, rfl, q6⟩ := asKey_is (iy.to S6) q6
      obtain ⟨hz, z', c7, gh, hb, im'⟩ := q6
      have S36 := ((S3.full S4).full S5).full S6
      have hl6 : W1.al.length ≤ W6.al.length := Nat.le_trans hl2 S36.lenLe
      obtain ⟨W7, e7, ec7, S7, rel7, iz7, hl7⟩ := gh K W6 z rfl hl6 rel6 iz
      have h6D : H6 Da = some (.dK accV) := (j6.out Da _ upd_same).1
      refine ⟨accV, key, rfl, h6D, by rw [← isK_len ia]; exact hz, W7, putG acc key z', putK accV key z, ?_, rel7, hl7, ?_, ?_, bdK_put hb ba, ec7.symm ▸ im'⟩
      · have q := j6.putF (p := Da) (o0 := .dK accV) upd_same (.dK (putK accV key z))
        rw [upd_upd] at q
        rw [e7]; exact q
      · exact (S12.tr (S36.mono hl2) fun _ _ h _ => h).tr S7 fun _ _ h _ => h
      · have Sa : Stp W1.al.length W W7 := ((S2.mono hlw).tr (S36.mono hl2) fun _ _ h _ => h).tr S7 fun _ _ h _ => h
        exact isK_put iz7 (isK_stp Sa acc accV ia ba)
    · obtain ⟨c5, gh, im'⟩ := q4
      have S34 := S3.full S4
      have hl4 : W1.al.length ≤ W4.al.length := Nat.le_trans hl2 S34.lenLe
      obtain ⟨W6, e6, ec6, S6, rel6, hl6⟩ := gh K W4 rfl hl4 rel4
      have Sa : Stp W1.al.length W W6 := ((S2.mono hlw).tr (S34.mono hl2) fun _ _ h _ => h).tr S6 fun _ _ h _ => h
      exact ⟨W6, acc, accV, e6.symm ▸ j4, rel6, hl6, (S12.tr (S34.mono hl2) fun _ _ h _ => h).tr S6 fun _ _ h _ => h, isK_stp Sa acc accV ia ba, ba, ec6.symm ▸ im'⟩
  · have e : i = ds.length := by omega
    subst e
    have q := j.show_ (p := Da) (o := .dK accV) upd_same
    have ef : (fun a => if a = Da then none else upd F Da (.dK accV) a) = F := by
      funext a
      by_cases ha : a = Da
      · rw [if_pos ha, ha, hFD]
      · rw [if_neg ha, upd_ne ha]
    rw [ef] at q
    refine .inl ⟨it.stops W _ H S rel j (hG _ acc W.cs im), kk (.ref Da) (W.push Da (.dK accV) (.dK acc)) (.ptr W.cs.length) H ((S1.full S).full (push_stp hWD _ _ rel.len)) (rel.push hWD ⟨accV, upd_same, ia.to (push_stp hWD _ _ rel.len)⟩) q (push_is rel) (fin' acc W.cs im)⟩
section
variable {X : Cx} {kx vx tg iter : Expr} {ifs : List Expr} {scope : Scope} {own : List (Str × Nat)} {pos : Pos} {ti : TID} {g : TGD} {tc : TTD} {tk tv : TED}
theorem de_dc (hc : X.calm = true) (hN : X.N.Nodup) (hi : DI X tg iter ti) (ok : BlkOk X.N X.env.scope scope own)
    (hg : ∀ (s : Shared) (H : Hp) (C : Addr) (cl : List (Str × Addr)) (fp : List Addr), DGw (X.blk s H scope (compEnvC scope cl C X.env) fp) (own.map (·.2)) tg g) (ht : ∀ (s : Shared) (H : Hp) (C : Addr) (cl : List (Str × Addr)) (fp : List Addr), DTs (X.blk s H scope (compEnvC scope cl C X.env) fp) ifs tc)
    (hk : ∀ (s : Shared) (H : Hp) (C : Addr) (cl : List (Str × Addr)) (fp : List Addr), DE (X.blk s H scope (compEnvC scope cl C X.env) fp) kx tk)
    (he : ∀ (s : Shared) (H : Hp) (C : Addr) (cl : List (Str × Addr)) (fp : List Addr), DE (X.blk s H scope (compEnvC scope cl C X.env) fp) vx tv) (hs : ∀ x, foldedSetIterable iter X.env x = pure x := by intro _; rfl) :
    DE X (.DictComp kx vx [⟨tg, iter, ifs, 0⟩] scope pos) (dDc ti g tc tk tv (own.map (·.2))) := pe_imp (pe_dc (g := upGw X.K (own.map fun x : Str × Nat => x.2) g) (tt := upT X.K tc) (tk := up X.K tk) (tv := up X.K tv) hc hN hi ok hg ht hk he hs) up_dc
end
end DL
/-! DL13: ghost steps: cells are dropped, seen as values, slots forgotten. -/
namespace DL
open PySem PySem.Spec PyProof.Rows L2
/-- a cell that is no longer written -/
def Off (cs' : Cs) (k : Nat) : Prop := cs'[k]? = none ∨ cs'[k]? = some .gone
mutual
/-- the same value, seen after the step from the cells cs to the cells cs' -/
inductive Vw (cs cs' : Cs) : D → D → Prop where
  | same {d : D} (h : Bd cs'.length d) : Vw cs cs' d d
  | lst {ds ds' : List D} (h : Vws cs cs' ds ds') : Vw cs cs' (.lst ds) (.lst ds')
  | tup {ds ds' : List D} (h : Vws cs cs' ds ds') : Vw cs cs' (.tup ds) (.tup ds')
  | obj {C : Addr} {L : List Str} {ds ds' : List D} (h : Vws cs cs' ds ds') : Vw cs cs' (.obj C L ds) (.obj C L ds')
  | fL {k : Nat} {ds ds' : List D} (e : cs[k]? = some (.lst ds)) (o : Off cs' k) (h : Vws cs cs' ds ds') : Vw cs cs' (.ptr k) (.lst ds')
  | fO {k : Nat} {C : Addr} {L : List Str} {ds ds' : List D} (e : cs[k]? = some (.ins C L ds)) (o : Off cs' k) (h : Vws cs cs' ds ds') : Vw cs cs' (.ptr k) (.obj C L ds')
inductive Vws (cs cs' : Cs) : List D → List D → Prop where
  | nil : Vws cs cs' [] []
  | cons {d d' : D} {ds ds' : List D} (h : Vw cs cs' d d') (t : Vws cs cs' ds ds') : Vws cs cs' (d :: ds) (d' :: ds')
end
inductive VwK (cs cs' : Cs) : List (Key × D) → List (Key × D) → Prop where
  | nil : VwK cs cs' [] []
  | cons {k : Key} {d d' : D} {ds ds' : List (Key × D)} (h : Vw cs cs' d d') (t : VwK cs cs' ds ds') : VwK cs cs' ((k, d) :: ds) ((k, d') :: ds')
theorem Vws.same {cs cs' : Cs} : ∀ {ds : List D}, Bds cs'.length ds → Vws cs cs' ds ds
  | [], _ => .nil
  | _ :: _, h => .cons (.same h.1) (Vws.same h.2)
theorem VwK.same {cs cs' : Cs} : ∀ {ds : List (Key × D)}, BdK cs'.length ds → VwK cs cs' ds ds
  | [], _ => .nil
  | (_, _) :: _, h => .cons (.same h.1) (VwK.same h.2)
/-- a cell, after the step -/
inductive CVw (cs cs' : Cs) : Cel → Cel → Prop where
  | same {c : Cel} (h : BdC cs'.length c) : CVw cs cs' c c
  | gone {c : Cel} : CVw cs cs' c .gone
  | lst {ds ds' : List D} (h : Vws cs cs' ds ds') : CVw cs cs' (.lst ds) (.lst ds')
  | ins {C : Addr} {L : List Str} {ds ds' : List D} (h : Vws cs cs' ds ds') : CVw cs cs' (.ins C L ds) (.ins C L ds')
  | dK {ds ds' : List (Key × D)} (h : VwK cs cs' ds ds') : CVw cs cs' (.dK ds) (.dK ds')
inductive CVws (cs0 cs1 : Cs) : Cs → Cs → Prop where
  | nil {r : Cs} : CVws cs0 cs1 r []
  | cons {c c' : Cel} {r r' : Cs} (h : CVw cs0 cs1 c c') (t : CVws cs0 cs1 r r') : CVws cs0 cs1 (c :: r) (c' :: r')
/-- slots -/
inductive SVw (cs cs' : Cs) : Sd → Sd → Prop where
  | nil : SVw cs cs' [] []
  | forget {o : Option D} {r r' : Sd} (t : SVw cs cs' r r') : SVw cs cs' (o :: r) (none :: r')
  | cons {d d' : D} {r r' : Sd} (h : Vw cs cs' d d') (t : SVw cs cs' r r') : SVw cs cs' (some d :: r) (some d' :: r')
section
variable {K : PySem.W.Frag}
theorem CVws.at_ {cs cs' : Cs} : ∀ {r r' : Cs}, CVws cs cs' r r' → ∀ {k : Nat} {c' : Cel}, r'[k]? = some c' → ∃ c, r[k]? = some c ∧ CVw cs cs' c c'
  | _, _, .nil, k, c', e => by simp at e
  | _, _, .cons h t, 0, c', e => by simp at e; subst e; exact ⟨_, by simp, h⟩
  | _, _, .cons h t, k + 1, c', e => by
    obtain ⟨c, e2, q⟩ := CVws.at_ t (k := k) (by simpa using e)
    exact ⟨c, by simpa using e2, q⟩
theorem CVws.le {cs cs' : Cs} : ∀ {r r' : Cs}, CVws cs cs' r r' → r'.length ≤ r.length
  | _, _, .nil => Nat.zero_le _
  | _, _, .cons h t => Nat.succ_le_succ (CVws.le t)
/-- the world behind -/
def Wd.cut (W : Wd) (cs' : Cs) : Wd := ⟨W.al.take cs'.length, W.H, cs'⟩
structure CutOk (K : PySem.W.Frag) (W : Wd) (cs' : Cs) : Prop where
  rel : Rel K W
  v : CVws W.cs cs' W.cs cs'
theorem CVw.live {cs cs' : Cs} {c c' : Cel} (h : CVw cs cs' c c') (l : c'.live = true) : c.live = true := by
  cases h <;> first | exact l | exact rfl | cases l
theorem cut_al {W : Wd} {cs' : Cs} {k : Nat} {a : Addr} (e : (W.cut cs').al[k]? = some a) : W.al[k]? = some a ∧ k < cs'.length := by
  have e' : (W.al.take cs'.length)[k]? = some a := e
  have hk : k < cs'.length := by
    have := (List.getElem?_eq_some_iff.mp e').1
    rw [List.length_take] at this; omega
  rw [List.getElem?_take_of_lt hk] at e'
  exact ⟨e', hk⟩
theorem cut_mu {W : Wd} {cs' : Cs} (C : CutOk K W cs') {a : Addr} (m : (W.cut cs').mu a) : W.mu a := by
  obtain ⟨k, c, e1, e2, e3⟩ := m
  obtain ⟨c0, e4, q⟩ := C.v.at_ (show cs'[k]? = some c from e2)
  exact ⟨k, c0, (cut_al e1).1, e4, q.live e3⟩
theorem cut_off {W : Wd} {cs' : Cs} (C : CutOk K W cs') {a : Addr} {k : Nat} (ea : W.al[k]? = some a) (o : Off cs' k) : ¬ (W.cut cs').mu a := by
  rintro ⟨i, c, e1, e2, e3⟩
  have := nd_at C.rel.nd ea (cut_al e1).1
  subst this
  have e2' : cs'[k]? = some c := e2
  rcases o with o | o
  · rw [o] at e2'; cases e2'
  · rw [o] at e2'; cases e2'; cases e3
theorem cut_stp {W : Wd} {cs' : Cs} (C : CutOk K W cs') {lo : Nat} (h : lo ≤ cs'.length) : Stp lo W (W.cut cs') :=
  ⟨fun a o e _ => e, fun k a hk e => by show (W.al.take cs'.length)[k]? = some a; rw [List.getElem?_take_of_lt (by omega)]; exact e, fun a m => .inl (cut_mu C m)⟩
theorem cut_len {W : Wd} {cs' : Cs} (C : CutOk K W cs') : (W.cut cs').al.length = cs'.length := by
  show (W.al.take cs'.length).length = _
  have := C.v.le
  rw [List.length_take, C.rel.len]; omega
mutual
theorem vw_is {W : Wd} {cs' : Cs} (C : CutOk K W cs') : ∀ {d d' : D} {v : V}, Vw W.cs cs' d d' → Is K W d v → Is K (W.cut cs') d' v
  | d, _, v, .same h, i => is_stp (cut_stp C (Nat.le_refl _)) d v i h
  | _, _, v, .lst h, i => by
    obtain ⟨a, vs, r, e, n, q⟩ := i
    exact ⟨a, vs, r, e, fun m => n (cut_mu C m), vws_is C h q⟩
  | _, _, v, .tup h, i => by
    obtain ⟨a, vs, r, e, n, q⟩ := i
    exact ⟨a, vs, r, e, fun m => n (cut_mu C m), vws_is C h q⟩
  | _, _, v, .obj h, i => by
    obtain ⟨a, dx, vs, r, e, n, hl, q⟩ := i
    have hh := vws_len h
    exact ⟨a, dx, vs, r, by rw [← hh]; exact e, fun m => n (cut_mu C m), by rw [← hh]; exact hl, vws_is C h q⟩
  | _, _, v, .fL e o h, i => by
    obtain ⟨a, r, ea, vs, e2, q⟩ := ptr_cell C.rel i e
    exact ⟨a, vs, r, e2, cut_off C ea o, vws_is C h q⟩
  | _, _, v, .fO e o h, i => by
    obtain ⟨a, r, ea, dx, vs, e2, hl, q⟩ := ptr_cell C.rel i e
    have hh := vws_len h
    exact ⟨a, dx, vs, r, by rw [← hh]; exact e2, cut_off C ea o, by rw [← hh]; exact hl, vws_is C h q⟩
theorem vws_is {W : Wd} {cs' : Cs} (C : CutOk K W cs') : ∀ {ds ds' : List D} {vs : List V}, Vws W.cs cs' ds ds' → Iss K W ds vs → Iss K (W.cut cs') ds' vs
  | _, _, vs, .nil, i => i
  | _, _, vs, .cons h t, i => by
    obtain ⟨v, r, e, h1, h2⟩ := i
    exact ⟨v, r, e, vw_is C h h1, vws_is C t h2⟩
theorem vws_len {cs cs' : Cs} : ∀ {ds ds' : List D}, Vws cs cs' ds ds' → ds.length = ds'.length
  | _, _, .nil => rfl
  | _, _, .cons h t => by rw [List.length_cons, List.length_cons, vws_len t]
end
theorem vwK_is {W : Wd} {cs' : Cs} (C : CutOk K W cs') : ∀ {ds ds' : List (Key × D)} {vs : List (Key × V)}, VwK W.cs cs' ds ds' → IsK K W ds vs → IsK K (W.cut cs') ds' vs
  | _, _, vs, .nil, i => i
  | _, _, vs, .cons h t, i => by
    obtain ⟨v, r, e, h1, h2⟩ := i
    exact ⟨v, r, e, vw_is C h h1, vwK_is C t h2⟩
theorem cut_rel {W : Wd} {cs' : Cs} (C : CutOk K W cs') : Rel K (W.cut cs') := by
  refine ⟨cut_len C, C.rel.nd.sublist (List.take_sublist _ _), fun k a c e1 e2 => ?_, fun a ha => C.rel.there a (List.mem_of_mem_take ha)⟩
  obtain ⟨c0, e4, q⟩ := C.v.at_ (show cs'[k]? = some c from e2)
  have i := C.rel.cel k a c0 (cut_al e1).1 e4
  cases q with
  | same h =>
    have S := cut_stp C (Nat.le_refl _)
    cases c with
    | lst ds => obtain ⟨vs, e, q⟩ := i; exact ⟨vs, e, iss_stp S ds vs q h⟩
    | dK ds => obtain ⟨vs, e, q⟩ := i; exact ⟨vs, e, isK_stp S ds vs q h⟩
    | lk ds => obtain ⟨o, vs, e, q⟩ := i; exact ⟨o, vs, e, isK_stp S ds vs q h⟩
    | ins C L ds => obtain ⟨dx, vs, e, hl, q⟩ := i; exact ⟨dx, vs, e, hl, iss_stp S ds vs q h⟩
    | gone => trivial
  | gone => trivial
  | lst h => obtain ⟨vs, e, q⟩ := i; exact ⟨vs, e, vws_is C h q⟩
  | ins h =>
    obtain ⟨dx, vs, e, hl, q⟩ := i
    have hh := vws_len (K := K) h
    exact ⟨dx, vs, by rw [← hh]; exact e, by rw [← hh]; exact hl, vws_is C h q⟩
  | dK h => obtain ⟨vs, e, q⟩ := i; exact ⟨vs, e, vwK_is C h q⟩
theorem svw_is {W : Wd} {cs' : Cs} (C : CutOk K W cs') : ∀ {δ δ' : Sd} {σ : L2.St}, SVw W.cs cs' δ δ' → Sl K W δ σ → Sl K (W.cut cs') δ' σ := by
  intro δ δ' σ h sl
  have hl : ∀ {δ δ' : Sd}, SVw W.cs cs' δ δ' → δ'.length = δ.length := by
    intro δ δ' h
    induction h with
    | nil => rfl
    | forget t ih => simp [ih]
    | cons h t ih => simp [ih]
  have ht : ∀ {δ δ' : Sd}, SVw W.cs cs' δ δ' → ∀ (i : Nat) (d' : D), δ'[i]? = some (some d') → ∃ d, δ[i]? = some (some d) ∧ Vw W.cs cs' d d' := by
    intro δ δ' h
    induction h with
    | nil => intro i d' e; simp at e
    | forget t ih =>
      intro i d' e
      cases i with
      | zero => simp at e
      | succ i => simpa using ih i d' (by simpa using e)
    | cons h t ih =>
      intro i d' e
      cases i with
      | zero => simp at e; subst e; exact ⟨_, by simp, h⟩
      | succ i => simpa using ih i d' (by simpa using e)
  refine ⟨by rw [hl h]; exact sl.len, fun i d' e => ?_⟩
  obtain ⟨d, e1, q⟩ := ht h i d' e
  obtain ⟨v, e2, iv⟩ := sl.at_ i d e1
  exact ⟨v, e2, vw_is C q iv⟩
end
/-- a ghost step: cs' is what stays of the cells -/
theorem Gh.mk {lo : Nat} {δ δ' : Sd} {cs cs' : Cs} (h : lo ≤ cs'.length) (c : CVws cs cs' cs cs') (s : SVw cs cs' δ δ') : Gh lo δ cs δ' cs' := fun K W σ e hl rel sl => by
  subst e
  have C : CutOk K W cs' := ⟨rel, c⟩
  exact ⟨W.cut cs', rfl, rfl, cut_stp C h, cut_rel C, svw_is C s sl, by rw [cut_len C]; exact h⟩
theorem GhV.mk {lo : Nat} {d d' : D} {cs cs' : Cs} (h : lo ≤ cs'.length) (c : CVws cs cs' cs cs') (s : Vw cs cs' d d') : GhV lo d cs d' cs' := fun K W v e hl rel i => by
  subst e
  have C : CutOk K W cs' := ⟨rel, c⟩
  exact ⟨W.cut cs', rfl, rfl, cut_stp C h, cut_rel C, vw_is C s i, by rw [cut_len C]; exact h⟩
theorem GhC.mk {lo : Nat} {cs cs' : Cs} (h : lo ≤ cs'.length) (c : CVws cs cs' cs cs') : GhC lo cs cs' := fun K W e hl rel => by
  subst e
  have C : CutOk K W cs' := ⟨rel, c⟩
  exact ⟨W.cut cs', rfl, rfl, cut_stp C h, cut_rel C, by rw [cut_len C]; exact h⟩
/-- no cell changes: slots are forgotten -/
theorem CVws.refl {cs : Cs} (h : ∀ c ∈ cs, BdC cs.length c) : CVws cs cs cs cs := by
  have : ∀ r : Cs, (∀ c ∈ r, BdC cs.length c) → CVws cs cs r r := by
    intro r
    induction r with
    | nil => intro _; exact .nil
    | cons c r ih => intro h; exact .cons (.same (h c List.mem_cons_self)) (ih fun c hc => h c (List.mem_cons_of_mem _ hc))
  exact this cs h
theorem CVws.pre {cs cs' : Cs} : ∀ {r t : Cs}, (∀ c ∈ r, BdC cs'.length c) → CVws cs cs' (r ++ t) r
  | [], t, _ => .nil
  | c :: r, t, h => .cons (.same (h c List.mem_cons_self)) (CVws.pre fun c hc => h c (List.mem_cons_of_mem _ hc))
theorem rel_bdC {K : PySem.W.Frag} {W : Wd} (rel : Rel K W) : ∀ c ∈ W.cs, BdC W.cs.length c := by
  intro c hc
  obtain ⟨k, hk, e⟩ := List.getElem_of_mem hc
  have e2 : W.cs[k]? = some c := by rw [List.getElem?_eq_getElem hk, e]
  have hka : k < W.al.length := by rw [rel.len]; exact hk
  have i := rel.cel k _ c (List.getElem?_eq_getElem hka) e2
  rw [← rel.len]
  cases c with
  | lst ds => obtain ⟨vs, _, q⟩ := i; exact iss_bd ds vs q
  | dK ds => obtain ⟨vs, _, q⟩ := i; exact isK_bd ds vs q
  | lk ds => obtain ⟨_, vs, _, q⟩ := i; exact isK_bd ds vs q
  | ins C L ds => obtain ⟨_, vs, _, _, q⟩ := i; exact iss_bd ds vs q
  | gone => trivial
/-- slots alone are forgotten, nothing need be known of the cells -/
inductive Fgt : Sd → Sd → Prop where
  | nil : Fgt [] []
  | forget {o : Option D} {r r' : Sd} (t : Fgt r r') : Fgt (o :: r) (none :: r')
  | cons {o : Option D} {r r' : Sd} (t : Fgt r r') : Fgt (o :: r) (o :: r')
theorem Fgt.refl : ∀ {r : Sd}, Fgt r r
  | [] => .nil
  | _ :: _ => .cons Fgt.refl
theorem Gh.forget {lo : Nat} {δ δ' : Sd} {cs : Cs} (h : Fgt δ δ') : Gh lo δ cs δ' cs := fun K W σ e hl rel sl => by
  refine ⟨W, rfl, e, .refl, rel, ⟨?_, fun i d ei => ?_⟩, hl⟩
  · rw [← sl.len]
    have : ∀ {a b : Sd}, Fgt a b → b.length = a.length := by
      intro a b h
      induction h with
      | nil => rfl
      | forget _ ih => simp [ih]
      | cons _ ih => simp [ih]
    exact this h
  · refine sl.at_ i d ?_
    have : ∀ {a b : Sd}, Fgt a b → ∀ (i : Nat), b[i]? = some (some d) → a[i]? = some (some d) := by
      intro a b h
      induction h with
      | nil => intro i e; simp at e
      | forget _ ih => intro i e; cases i with
        | zero => simp at e
        | succ i => simpa using ih i (by simpa using e)
      | cons _ ih => intro i e; cases i with
        | zero => simpa using e
        | succ i => simpa using ih i (by simpa using e)
    exact this h i ei
/-- values without cells -/
theorem bds_map {α : Type} {n : Nat} {f : α → D} (h : ∀ x, Bd n (f x)) : ∀ xs : List α, Bds n (xs.map f)
  | [] => trivial
  | x :: xs => ⟨h x, bds_map h xs⟩
theorem bds_app {n : Nat} : ∀ {xs ys : List D}, Bds n xs → Bds n ys → Bds n (xs ++ ys)
  | [], _, _, h => h
  | _ :: _, _, h, q => ⟨h.1, bds_app h.2 q⟩
theorem bds_get {n : Nat} : ∀ {xs : List D} {i : Nat} {d : D}, Bds n xs → xs[i]? = some d → Bd n d
  | [], i, d, _, e => by simp at e
  | x :: xs, 0, d, h, e => by simp at e; subst e; exact h.1
  | x :: xs, i + 1, d, h, e => bds_get h.2 (by simpa using e)
theorem bdK_map {α : Type} {n : Nat} {f : α → Key × D} (h : ∀ x, Bd n (f x).2) : ∀ xs : List α, BdK n (xs.map f)
  | [] => trivial
  | x :: xs => ⟨h x, bdK_map h xs⟩
end DL
/-! DL14: y = {k: v for ..}. -/
namespace DL
open PySem PySem.Spec PyProof.Rows L2
section
variable {X : Cx} {kx vx tg iter : Expr} {ifs : List Expr} {scope : Scope} {own : List (Str × Nat)} {pos : Pos}
theorem ps_setDc {i : Nat} {y : Str} {py spos : Pos} {wi : TI} {g : TG} {tt : TT} {tk tv : TE} (hc : X.calm = true) (hN : X.N.Nodup) (hy : X.N[i]? = some y) (hyl : X.env.scope.names.lookup y = some .local)
    (hsw : swapsWith (.DictComp kx vx [⟨tg, iter, ifs, 0⟩] scope pos) (some (.Name y py)) spos.line X.env = pure true) (hi : PI X tg iter wi) (ok : BlkOk X.N X.env.scope scope own)
    (hg : ∀ (s : Shared) (H : Hp) (C : Addr) (cl : List (Str × Addr)) (fp : List Addr), PG (X.blk s H scope (compEnvC scope cl C X.env) fp) tg g) (ht : ∀ (s : Shared) (H : Hp) (C : Addr) (cl : List (Str × Addr)) (fp : List Addr), PTs (X.blk s H scope (compEnvC scope cl C X.env) fp) ifs tt)
    (hk : ∀ (s : Shared) (H : Hp) (C : Addr) (cl : List (Str × Addr)) (fp : List Addr), PE (X.blk s H scope (compEnvC scope cl C X.env) fp) kx tk)
    (he : ∀ (s : Shared) (H : Hp) (C : Addr) (cl : List (Str × Addr)) (fp : List Addr), PE (X.blk s H scope (compEnvC scope cl C X.env) fp) vx tv) (hs : ∀ x, foldedSetIterable iter X.env x = pure x := by intro _; rfl) :
    PS X (.Assign [.Name y py] (.DictComp kx vx [⟨tg, iter, ifs, 0⟩] scope pos) spos) (tAsg (tDc wi g tt tk tv (own.map (·.2))) (gName i)) := by
  refine ⟨fun pins s σ H D I h => ?_⟩
  rw [exec_Assign_Name_used _ _ _ _ hsw]
  refine wpAny_bind (wpAny_standAt (wpAny_bind ?_))
  show wpAny _ X.A (do let _ ← comprehension (.DictComp kx vx [⟨tg, iter, ifs, 0⟩] scope pos) scope X.env (firstIterPos [⟨tg, iter, ifs, 0⟩] pos) newDict false (eval iter X.env) (some (assign (.Name y py) X.env))) _ _ s
  have h : tDc wi g tt tk tv (own.map (·.2)) σ H (fun x H1 => gName i x σ H1 D.nx) := h
  refine wpAny_bind (thn (dc_core (Qf := fun _ s' => SP X pins D .next s') hc hN I hi ok hg ht hk he hs h fun L C s' m H' I' q hn f => ?_) fun _ s' hq => wpAny_pure (wpAny_pure hq))
  show wpAny _ _ (assign (.Name y py) X.env (.ref L)) _ _ _
  refine wpAny_assign_Name (store_ok2 (v := V.ref L) I' hN hy (.inl hyl) rfl (fun s2 I2 ⟨a, sb, ha⟩ => ?_) (.inr hyl))
  obtain ⟨f0, f1, f2, f3, f4, f5⟩ := f
  have haC : C ≠ a := by
    rcases ha with z | z
    · rw [z]; exact f1
    · exact fun e => f4 y a z e.symm
  refine ⟨m, hn.sameBut sb haC, fun h3 sb3 => ?_⟩
  exact ⟨_, H', I2.turned (t' := s2.toks) (fun b o hb e => (sb3.2 b hb).trans e) f0 f1 f3 f4 f5, q⟩
theorem ds_setDc {i : Nat} {y : Str} {py spos : Pos} {ti : TID} {g : TGD} {tc : TTD} {tk tv : TED} (hc : X.calm = true) (hN : X.N.Nodup) (hy : X.N[i]? = some y) (hyl : X.env.scope.names.lookup y = some .local)
    (hsw : swapsWith (.DictComp kx vx [⟨tg, iter, ifs, 0⟩] scope pos) (some (.Name y py)) spos.line X.env = pure true) (hi : DI X tg iter ti) (ok : BlkOk X.N X.env.scope scope own)
    (hg : ∀ (s : Shared) (H : Hp) (C : Addr) (cl : List (Str × Addr)) (fp : List Addr), DGw (X.blk s H scope (compEnvC scope cl C X.env) fp) (own.map (·.2)) tg g) (ht : ∀ (s : Shared) (H : Hp) (C : Addr) (cl : List (Str × Addr)) (fp : List Addr), DTs (X.blk s H scope (compEnvC scope cl C X.env) fp) ifs tc)
    (hk : ∀ (s : Shared) (H : Hp) (C : Addr) (cl : List (Str × Addr)) (fp : List Addr), DE (X.blk s H scope (compEnvC scope cl C X.env) fp) kx tk)
    (he : ∀ (s : Shared) (H : Hp) (C : Addr) (cl : List (Str × Addr)) (fp : List Addr), DE (X.blk s H scope (compEnvC scope cl C X.env) fp) vx tv) (hs : ∀ x, foldedSetIterable iter X.env x = pure x := by intro _; rfl) :
    DS X (.Assign [.Name y py] (.DictComp kx vx [⟨tg, iter, ifs, 0⟩] scope pos) spos) (dSet i (dDc ti g tc tk tv (own.map (·.2)))) := ps_imp (ps_setDc (g := upGw X.K (own.map fun x : Str × Nat => x.2) g) (tt := upT X.K tc) (tk := up X.K tk) (tv := up X.K tv) hc hN hy hyl hsw hi ok hg ht hk he hs) (upS_setLc up_dc)
end
end DL
/-! DL15: a def by its reading alone; small helps. -/
namespace DL
open PySem PySem.Spec PyProof.Rows L2
/-- what a reading promises -/
def Pl (N : List Str) (sp : SpD) (t : TSD) : Prop := ∀ (ds : List D) (cs : Cs) (R : QD) (Z : XD), (∀ c ∈ cs, BdC cs.length c) → Bds cs.length ds → sp ds cs R Z → t cs.length (bodyE cs.length R) (startD N ds) cs
section
variable {P : Program} {w : World} {K : PySem.W.Frag} {mg : Str → Option Value} {base : Heap}
/-- a def that lets nothing out: its derivation and what its reading promises -/
theorem fn_e {x qual : Str} {st : Stmt} {f : Addr} {fd : FuncData} {N ps : List Str} {k : Nat} {sp : SpD} {t : TSD} (F : Fun K x qual st f fd) (S : FnScope N ps (defScope st)) (len : ∀ ds cs R Z, sp ds cs R Z → ds.length = ps.length)
    (hd : ∀ (cdv : Value) (A : Around) (outer : List Env) (s : Shared) (H : Hp) (E : XK), Room k (A.deeper (envOfC qual (defScope st) s.heap.objs.size f cdv)) → DSs (cxOf CX0 P w K mg base N qual (defScope st) f cdv A outer s H E).nox (defBody st) t)
    (hp : Pl N sp t) : FnOk P w K mg base CX0 (k + 1) f fd ps (spOf K sp) := by
  refine F.ok S (fun vs H Q E ⟨W, F, ds, R, Z, j, rel, is, h, _⟩ => by rw [← iss_len is]; exact len _ _ _ _ h) (fun cdv A outer s H vs Q E hr h => ?_)
  obtain ⟨W, F, ds, R, Z, j, rel, is, h, k1, k2⟩ := h
  exact ⟨_, hd cdv A outer s H E hr, W, F, startD N ds, W.cs.length, _, j, rel, sl_start is, by rw [rel.len]; exact Nat.le_refl _, hp ds W.cs R Z (rel_bdC rel) (by rw [← rel.len]; exact iss_bd ds vs is) h, body_lk rel.len.symm k1⟩
theorem fn_eD {x qual : Str} {params : Arguments} {body : List Stmt} {scope : Scope} {dvs : List V} {kws : List (Str × V)} {f : Addr} {fd : FuncData} {N ps : List Str} {k : Nat} {sp : SpD} {t : TSD} (F : FunD K x qual params body scope dvs kws f fd) (S : FnScope N ps scope) (len : ∀ ds cs R Z, sp ds cs R Z → ds.length = ps.length)
    (hd : ∀ (cdv : Value) (A : Around) (outer : List Env) (s : Shared) (H : Hp) (E : XK), Room k (A.deeper (envOfC qual scope s.heap.objs.size f cdv)) → DSs (cxOf CX0 P w K mg base N qual scope f cdv A outer s H E).nox body t)
    (hp : Pl N sp t) : FnOk P w K mg base CX0 (k + 1) f fd ps (spOf K sp) := by
  refine F.ok S (fun vs H Q E ⟨W, F, ds, R, Z, j, rel, is, h, _⟩ => by rw [← iss_len is]; exact len _ _ _ _ h) (fun cdv A outer s H vs Q E hr h => ?_)
  obtain ⟨W, F, ds, R, Z, j, rel, is, h, k1, k2⟩ := h
  exact ⟨_, PSs.nox (hd cdv A outer s H E hr), W, F, startD N ds, W.cs.length, _, j, rel, sl_start is, by rw [rel.len]; exact Nat.le_refl _, hp ds W.cs R Z (rel_bdC rel) (by rw [← rel.len]; exact iss_bd ds vs is) h, body_lk rel.len.symm k1⟩
end
theorem brT {A B : Prop} (h : A) : brn true A B := ⟨fun _ => h, fun e => nomatch e⟩
theorem brF {A B : Prop} (h : B) : brn false A B := ⟨(fun e => nomatch e), fun _ => h⟩
theorem br {b : Bool} {A B : Prop} (h : b = true → A) (k : b = false → B) : brn b A B := ⟨h, k⟩
theorem ixN_nat {n k : Nat} (h : k < n) : ixN n (k : Int) = some k := by
  unfold ixN
  have h1 : ¬ ((k : Int) < 0) := by omega
  simp [h1, h]
theorem atI_nat {α : Type} {xs : List α} {k : Nat} {x : α} (h : xs[k]? = some x) : atI xs (k : Int) = some x := by
  unfold atI
  rw [ixN_nat (List.getElem?_eq_some_iff.mp h).1]
  exact h
theorem atI_pos {α : Type} {xs : List α} {i : Int} {x : α} (h0 : 0 ≤ i) (h : xs[i.toNat]? = some x) : atI xs i = some x := by
  have e : i = (i.toNat : Int) := by omega
  rw [e]
  exact atI_nat h
/-- keys of one kind -/
theorem valG_map {β γ : Type} {f : β → γ} {g : Int → Key} (hg : ∀ x y, g x = g y → x = y) : ∀ (p : List (Int × β)) (k : Int), valG (p.map fun e => (g e.1, f e.2)) (g k) = (valG p k).map f
  | [], k => rfl
  | (a, b) :: p, k => by
    have ih := valG_map (f := f) hg p k
    unfold valG at ih ⊢
    by_cases e : a = k
    · subst e; simp
    · have : ¬ g a = g k := fun h => e (hg _ _ h)
      simp only [List.map_cons, List.find?_cons, decide_eq_false e, decide_eq_false this]
      exact ih
theorem putG_map {β γ : Type} {f : β → γ} {g : Int → Key} (hg : ∀ x y, g x = g y → x = y) (p : List (Int × β)) (k : Int) (v : β) : putG (p.map fun e => (g e.1, f e.2)) (g k) (f v) = (putG p k v).map fun e => (g e.1, f e.2) := by
  have h1 : ∀ p : List (Int × β), ((p.map fun e => (g e.1, f e.2)).any fun kv => decide (kv.1 = g k)) = (p.any fun kv => decide (kv.1 = k)) := by
    intro p
    induction p with
    | nil => rfl
    | cons a p ih =>
      rw [List.map_cons, List.any_cons, List.any_cons, ih]
      by_cases e : a.1 = k
      · subst e; simp
      · have : ¬ g a.1 = g k := fun h => e (hg _ _ h)
        simp [e, this]
  unfold putG
  rw [h1]
  split
  · rw [List.map_map, List.map_map]
    refine List.map_congr_left fun a _ => ?_
    simp only [Function.comp]
    by_cases e : a.1 = k
    · subst e; simp
    · have : ¬ g a.1 = g k := fun h => e (hg _ _ h)
      simp [e, this]
  · simp
theorem inl_inj : ∀ x y : Int, (Sum.inl x : Key) = Sum.inl y → x = y := fun _ _ h => Sum.inl.inj h
end DL
/-! DL16: the first cells are a def's own. -/
namespace DL
open PySem PySem.Spec PyProof.Rows L2
mutual
theorem ren_same {f : Nat → Nat} {n : Nat} (h : ∀ i, i < n → f i = i) : ∀ d : D, Bd n d → ren f d = d
  | .non, _ => rfl
  | .bl _, _ => rfl
  | .int _, _ => rfl
  | .str _, _ => rfl
  | .ty _, _ => rfl
  | .adr _, _ => rfl
  | .ptr k, b => by show D.ptr (f k) = .ptr k; rw [h k b]
  | .lst ds, b => by show D.lst (rens f ds) = .lst ds; rw [rens_same h ds b]
  | .tup ds, b => by show D.tup (rens f ds) = .tup ds; rw [rens_same h ds b]
  | .obj C L ds, b => by show D.obj C L (rens f ds) = .obj C L ds; rw [rens_same h ds b]
  | .scr _, _ => rfl
theorem rens_same {f : Nat → Nat} {n : Nat} (h : ∀ i, i < n → f i = i) : ∀ ds : List D, Bds n ds → rens f ds = ds
  | [], _ => rfl
  | d :: ds, b => by show ren f d :: rens f ds = d :: ds; rw [ren_same h d b.1, rens_same h ds b.2]
end
theorem renK_same {f : Nat → Nat} {n : Nat} (h : ∀ i, i < n → f i = i) : ∀ ds : List (Key × D), BdK n ds → renK f ds = ds
  | [], _ => rfl
  | (k, d) :: ds, b => by show (k, ren f d) :: renK f ds = (k, d) :: ds; rw [ren_same h d b.1, renK_same h ds b.2]
theorem renC_same {f : Nat → Nat} {n : Nat} (h : ∀ i, i < n → f i = i) : ∀ c : Cel, BdC n c → renC f c = c
  | .lst ds, b => by show Cel.lst (rens f ds) = .lst ds; rw [rens_same h ds b]
  | .dK ds, b => by show Cel.dK (renK f ds) = .dK ds; rw [renK_same h ds b]
  | .lk ds, b => by show Cel.lk (renK f ds) = .lk ds; rw [renK_same h ds b]
  | .ins C L ds, b => by show Cel.ins C L (rens f ds) = .ins C L ds; rw [rens_same h ds b]
  | .gone, _ => rfl
theorem putAll_range {n : Nat} {cs r : Cs} (hr : r.length = n) (hn : n ≤ cs.length) : putAll cs (List.range n) r = r ++ cs.drop n := by
  refine List.ext_getElem? fun i => ?_
  by_cases h : i < n
  · rw [List.getElem?_append_left (by omega)]
    have e : r[i]? = some (r[i]'(by omega)) := List.getElem?_eq_getElem (by omega)
    rw [putAll_at (List.range n) r cs i i _ List.nodup_range (by rw [List.getElem?_range h]) e (by omega), e]
  · rw [putAll_out _ _ _ _ (by rw [List.mem_range]; exact h), List.getElem?_append_right (by omega), List.getElem?_drop, hr]
    congr 1
    omega
/-- the first cells are the callee's; it leaves no new ones -/
theorem framed_pre {sp : SpD} {ds : List D} {cs extra : Cs} {R : QD} {Z : XD} (hb : ∀ c ∈ cs, BdC cs.length c) (hd : Bds cs.length ds)
    (h : ∀ Z', sp ds cs (fun d c2 => c2.length = cs.length ∧ (∀ c ∈ c2, BdC cs.length c) ∧ Bd cs.length d ∧ R d (c2 ++ extra)) Z') (mono : ∀ {R R' : QD} {Z Z' : XD}, (∀ d c, R d c → R' d c) → sp ds cs R Z → sp ds cs R' Z') : framed sp ds (cs ++ extra) R Z := by
  have i0 : ∀ i, i < cs.length → ix0 (List.range cs.length) i = i := fun i hi => by
    unfold ix0
    rw [List.getD_eq_getElem?_getD, List.getElem?_range hi]
    rfl
  have i2 : ∀ i, i < cs.length → ix2 (List.range cs.length) (cs ++ extra).length i = i := fun i hi => by
    unfold ix2
    rw [if_pos (by simpa using hi), List.getD_eq_getElem?_getD, List.getElem?_range hi]
    rfl
  refine ⟨List.range cs.length, ds, cs, List.nodup_range, rens_same i0 ds hd, by simpa using hd, by simp, fun i c k e1 e2 => ?_, ?_⟩
  · have hi : i < cs.length := (List.getElem?_eq_some_iff.mp e1).1
    rw [List.getElem?_range hi] at e2
    cases e2
    have hc := hb c (List.mem_of_getElem? e1)
    rw [List.getElem?_append_left hi, renC_same i0 c hc]
    exact ⟨e1, by simpa using hc⟩
  · refine mono (fun d c2 ⟨hl, hc, hbd, q⟩ => ⟨fun c hm => ?_, d, c2 ++ extra, (ren_same i2 d hbd).symm, ?_, q⟩) (h noX)
    · rw [List.length_range, ← hl, List.drop_length] at hm
      cases hm
    · unfold bput
      have e1 : (c2.take (List.range cs.length).length).map (renC (ix2 (List.range cs.length) (cs ++ extra).length)) = c2 := by
        rw [List.length_range, ← hl, List.take_length]
        refine (List.map_congr_left fun c hm => ?_).trans (List.map_id _)
        have := renC_same (f := ix2 (List.range c2.length) (cs ++ extra).length) (n := cs.length) (by rw [hl]; exact i2) c (hc c hm)
        exact this
      rw [e1, putAll_range hl (by simp), List.drop_append_of_le_length (Nat.le_refl _), List.drop_length, List.nil_append, List.length_range, ← hl, List.drop_length]
      simp
end DL
/-! DL17: == of lists. -/
namespace DL
open PySem PySem.Spec PyProof.Rows L2
theorem pds_map {α : Type} {f : α → D} {g : α → PyData} : ∀ {xs : List α}, (∀ x ∈ xs, pd (f x) = some (g x)) → pds (xs.map f) = some (xs.map g)
  | [], _ => rfl
  | x :: xs, h => by
    have h1 := h x List.mem_cons_self
    have h2 := pds_map (f := f) (g := g) (xs := xs) fun y hy => h y (List.mem_cons_of_mem _ hy)
    show (match pd (f x), pds (xs.map f) with
      | some x, some l => some (x :: l)
      | _, _ => none) = _
    rw [h1, h2]
    rfl
theorem canLayAll {l : List PyData} : (∀ x ∈ l, PyData.canLay0 x = true) → PyData.canLayAll0 l = true := by
  induction l with
  | nil => intro _; rfl
  | cons a l ih =>
    intro h
    rw [PyData.canLayAll0, h a List.mem_cons_self, ih fun x hx => h x (List.mem_cons_of_mem _ hx)]
    rfl
theorem depthAll {l : List PyData} {n : Nat} : (∀ x ∈ l, PyData.depth x ≤ n) → PyData.depthAll l ≤ n := by
  induction l with
  | nil => intro _; exact Nat.zero_le _
  | cons a l ih =>
    intro h
    rw [PyData.depthAll]
    exact Nat.max_le.mpr ⟨h a List.mem_cons_self, ih fun x hx => h x (List.mem_cons_of_mem _ hx)⟩
/-- data that may be compared -/
def Sh (n : Nat) (d : PyData) : Prop := PyData.canLay0 d = true ∧ PyData.depth d ≤ n
theorem Sh.shaped {n : Nat} {d : PyData} (h : Sh n d) (hn : n ≤ 64 := by decide) : SeqAt.shaped d = true := by
  show (d.canLay0 && decide (d.depth ≤ 64)) = true
  rw [h.1, decide_eq_true (Nat.le_trans h.2 hn)]
  rfl
theorem Sh.list {n : Nat} {l : List PyData} (h : ∀ x ∈ l, Sh n x) : Sh (n + 1) (.list l) := by
  refine ⟨?_, ?_⟩
  · show PyData.canLay0 (.list l) = true
    rw [PyData.canLay0]; exact canLayAll fun x hx => (h x hx).1
  · rw [PyData.depth]; exact Nat.succ_le_succ (depthAll fun x hx => (h x hx).2)
theorem Sh.tuple {n : Nat} {l : List PyData} (h : ∀ x ∈ l, Sh n x) : Sh (n + 1) (.tuple l) := by
  refine ⟨?_, ?_⟩
  · rw [PyData.canLay0]; exact canLayAll fun x hx => (h x hx).1
  · rw [PyData.depth]; exact Nat.succ_le_succ (depthAll fun x hx => (h x hx).2)
theorem Sh.int {n : Nat} (i : Int) : Sh n (.int i) := ⟨by rw [PyData.canLay0], by rw [PyData.depth]; exact Nat.zero_le _⟩
theorem Sh.none {n : Nat} : Sh n .none := ⟨by rw [PyData.canLay0], by rw [PyData.depth]; exact Nat.zero_le _⟩
theorem Sh.bool {n : Nat} (i : Bool) : Sh n (.bool i) := ⟨by rw [PyData.canLay0], by rw [PyData.depth]; exact Nat.zero_le _⟩
theorem Sh.str {n : Nat} {b : Str} (h : PyData.strOk b = true) : Sh n (.str b) := ⟨by rw [PyData.canLay0]; exact h, by rw [PyData.depth]; exact Nat.zero_le _⟩
theorem eqv_nil {l : List PyData} : PyData.eqv (.list l) (.list []) = l.isEmpty := by
  rw [PyData.eqv]
  cases l <;> rw [PyData.eqvAll] <;> rfl
theorem eq_nil {f : Bool → Bool} {cs : Cs} {ds : List D} {l : List PyData} {n : Nat} {Q : QD} (h : pds ds = some l) (hs : Sh n (.list l)) (hn : n ≤ 64) (q : Q (.bl (f l.isEmpty)) cs) : rEqG f (.lst ds) (.lst []) cs Q := by
  refine ⟨.list l, by show (match pds ds with | some l => some (PyData.list l) | none => none) = _; rw [h], .list [], rfl, hs.shaped hn, by decide, ?_⟩
  rw [eqv_nil]
  exact q
theorem eq_nilP {f : Bool → Bool} {cs : Cs} {k : Nat} {ds : List D} {l : List PyData} {n : Nat} {Q : QD} (e : cs[k]? = some (.lst ds)) (h : pds ds = some l) (hs : Sh n (.list l)) (hn : n ≤ 64) (q : Q (.bl (f l.isEmpty)) cs) : rEqG f (.ptr k) (.lst []) cs Q := by
  show lstAt cs[k]? _
  rw [e]
  refine ⟨l, h, .list [], rfl, hs.shaped hn, by decide, ?_⟩
  rw [eqv_nil]
  exact q
theorem eq_same {f : Bool → Bool} {cs : Cs} {ds : List D} {l : List PyData} {n : Nat} {Q : QD} (h : pds ds = some l) (hs : Sh n (.list l)) (hn : n ≤ 64) (q : Q (.bl (f true)) cs) : rEqG f (.lst ds) (.lst ds) cs Q := by
  have e : pd (.lst ds) = some (.list l) := by show (match pds ds with | some l => some (PyData.list l) | none => none) = _; rw [h]
  refine ⟨.list l, e, .list l, e, hs.shaped hn, hs.shaped hn, ?_⟩
  rw [SeqAt.eqv_refl _ hs.1]
  exact q
end DL
/-! DL18: zip of a tuple and a list: two iterators by contract. -/
namespace DL
open PySem PySem.Spec PyProof.Rows L2
/-- an iterator at `it` over what stands at `l`: its states, what it hands out, when it stops -/
structure Nx (prog : Program) (w : World) (it l : Addr) (n : Nat) (x : Nat → Value) (St : Nat → Heap → Prop) : Prop where
  fr : ∀ k h h', St k h → (∀ o, h.get? it = some o → h'.get? it = some o) → (∀ o, h.get? l = some o → h'.get? l = some o) → St k h'
  there : ∀ k h, St k h → ∃ o, h.get? it = some o ∧ ∀ v, o.data ≠ .cell v
  item : ∀ (A : Around) (k : Nat) (s : Shared) (E Q : Value → Shared → Prop), k < n → St k s.heap → (∀ h', St (k + 1) h' → Heap.SameBut it s.heap h' → Q (x k) { s with heap := h' }) → wpAny (model prog w) A (Builtin.SmallTypes.nextOf (.ref it)) Q E s
  stop : ∀ (A : Around) (k : Nat) (s : Shared) (E Q : Value → Shared → Prop), A.handled = none → n ≤ k → St k s.heap → (∀ h' e, Heap.ExtBut it s.heap h' → (∃ o, h'.get? e = some o ∧ o.cls = .type "StopIteration") → E (.ref e) { s with heap := h' }) → wpAny (model prog w) A (Builtin.SmallTypes.nextOf (.ref it)) Q E s
theorem nx_tup {prog : Program} {w : World} {it l : Addr} {xs : List Value} (ne : l ≠ it) : Nx prog w it l xs.length (fun k => xs.getD k .none) fun k h => h.IsTupleIter it l k ∧ h.IsTuple l xs.toArray where
  fr := fun k h h' ⟨a, b⟩ e1 e2 => ⟨a.at e1, let ⟨o, ho, r⟩ := b; ⟨o, e2 o ho, r⟩⟩
  there := fun k h ⟨⟨o, ho, _, d⟩, _⟩ => ⟨o, ho, fun v q => by rw [d] at q; cases q⟩
  item := fun A k s E Q hk ⟨a, b⟩ q => RZ.nextOf_tuple_item a b (x := xs.getD k .none) (by simp [hk]) fun h' a' sb => q h' ⟨a', b.extBut sb.extBut ne⟩ sb
  stop := fun A k s E Q hh hk ⟨a, b⟩ q => RZ.nextOf_tuple_end hh a b (by simp [hk]) q
theorem nx_lst {prog : Program} {w : World} {it l : Addr} {xs : List Value} (ne : l ≠ it) : Nx prog w it l xs.length (fun k => xs.getD k .none) fun k h => h.IsListIter it l k ∧ h.IsList l xs.toArray where
  fr := fun k h h' ⟨a, b⟩ e1 e2 => ⟨a.at e1, let ⟨o, ho, r⟩ := b; ⟨o, e2 o ho, r⟩⟩
  there := fun k h ⟨⟨o, ho, _, d⟩, _⟩ => ⟨o, ho, fun v q => by rw [d] at q; cases q⟩
  item := fun A k s E Q hk ⟨a, b⟩ q => wpAny_nextOf_list_item a b (x := xs.getD k .none) (by simp [hk]) fun h' a' sb => q h' ⟨a', b.extBut sb.extBut ne⟩ sb
  stop := fun A k s E Q hh hk ⟨a, b⟩ q => wpAny_nextOf_list_end hh a b (by simp [hk]) q
section
variable {prog : Program} {w : World} {A : Around} {E : Value → Shared → Prop} {s : Shared} {z TI TO i1 i2 l1 l2 : Addr} {n1 n2 k : Nat} {x1 x2 : Nat → Value} {S1 S2 : Nat → Heap → Prop} {a b : Value}
theorem Nx.but {it l : Addr} {n : Nat} {x : Nat → Value} {St : Nat → Heap → Prop} {h h' : Heap} {c : Addr} {k : Nat} (N : Nx prog w it l n x St) (e : Heap.ExtBut c h h') (h1 : it ≠ c) (h2 : l ≠ c) (q : St k h) : St k h' := N.fr k h h' q (fun o => e it o h1) fun o => e l o h2
theorem zipX_item {Q : Value → Shared → Prop} (D : ZipApart z TI TO i1 i2 l1 l2) (N1 : Nx prog w i1 l1 n1 x1 S1) (N2 : Nx prog w i2 l2 n2 x2 S2)
    (hz : IsZip s.heap z TI TO .none) (hTI : IsPair s.heap TI (.ref i1) (.ref i2)) (hTO : IsPair s.heap TO a b) (h1 : S1 k s.heap) (h2 : S2 k s.heap) (k1 : k < n1) (k2 : k < n2)
    (hQ : ∀ h', IsZip h' z TI TO (rawInt s.heap.objs.size) → IsPair h' TO (x1 k) (x2 k) → S1 (k + 1) h' → S2 (k + 1) h' → IsPair h' s.heap.objs.size (x1 k) (x2 k) →
      (∀ c o, c ≠ z → c ≠ TO → c ≠ i1 → c ≠ i2 → s.heap.get? c = some o → h'.get? c = some o) → Q (.ref s.heap.objs.size) { s with heap := h' }) :
    wpAny (model prog w) A (Builtin.«zip.__next__» ⟨[.ref z], []⟩) (fun fin s' => ∃ v, fin = .done (.ret v) ∧ Q v s') E s := by
  show wpAny _ _ (field (.ref z) 2 >>= _) _ _ _
  refine wpAny_bind (wpAny_field hz rfl (x := .bool false) rfl ?_)
  show wpAny _ _ (field (.ref z) 3 >>= _) _ _ _
  refine wpAny_bind (wpAny_field hz rfl (x := .ref TI) rfl (wpAny_bind (wpAny_seqItems hTI rfl ?_)))
  show wpAny _ _ (Builtin.SmallTypes.ownedTupleIsFree (.ref z) >>= _) _ _ _
  unfold Builtin.SmallTypes.ownedTupleIsFree
  refine wpAny_bind (wpAny_bind (wpAny_field hz rfl (x := .none) rfl (wpAny_pure ?_)))
  simp only [if_true]
  refine wpAny_bind (wpAny_rule (wpAny_bind (wpAny_field hz rfl (x := .ref TO) rfl (wpAny_bind (wpAny_setField_rec hz (by simp) fun g1 z1 b1 => ?_)))))
  replace z1 : IsZip g1 z TI TO .ellipsis := z1
  refine wpAny_bind ?_
  simp only [List.zipIdx_cons, List.zipIdx_nil, List.forIn_cons, List.forIn_nil]
  refine wpAny_bind (wpAny_bind (wpAny_onRaise ?_))
  show wpAny _ _ (Builtin.SmallTypes.nextOf (.ref i1) >>= _) _ _ _
  refine wpAny_bind (N1.item _ k _ _ _ k1 (N1.but b1.extBut D.i1z D.l1z h1) fun g2 m1 b2 => wpAny_pure ?_)
  have t2 : IsPair g2 TO a b := b2.extBut _ _ D.TOi1 (b1.extBut _ _ D.TOz hTO)
  refine wpAny_bind (wpAny_seqItems t2 rfl (wpAny_bind (wpAny_updateSeq_pair t2 fun g3 t3 b3 => wpAny_bind (wpAny_letGo (wpAny_pure ?_)))))
  replace t3 : IsPair g3 TO (x1 k) b := t3
  refine wpAny_bind (wpAny_bind (wpAny_onRaise ?_))
  show wpAny _ _ (Builtin.SmallTypes.nextOf (.ref i2) >>= _) _ _ _
  refine wpAny_bind (N2.item _ k _ _ _ k2 (N2.but b3.extBut D.TOi2.symm D.l2TO (N2.but b2.extBut D.i12.symm D.l2i1 (N2.but b1.extBut D.i2z D.l2z h2))) fun g4 m2 b4 => wpAny_pure ?_)
  have t4 : IsPair g4 TO (x1 k) b := b4.extBut _ _ D.TOi2 t3
  refine wpAny_bind (wpAny_seqItems t4 rfl (wpAny_bind (wpAny_updateSeq_pair t4 fun g5 t5 b5 => wpAny_bind (wpAny_letGo (wpAny_pure (wpAny_pure ?_))))))
  replace t5 : IsPair g5 TO (x1 k) (x2 k) := t5
  refine wpAny_bind (wpAny_seqItems t5 rfl (wpAny_bind (wpAny_newTuple ?_)))
  have size5 : g5.objs.size = s.heap.objs.size := by rw [b5.1, b4.1, b3.1, b2.1, b1.1]
  have z5 : IsZip g5 z TI TO .ellipsis := b5.extBut _ _ D.TOz.symm (b4.extBut _ _ D.i2z.symm (b3.extBut _ _ D.TOz.symm (b2.extBut _ _ D.i1z.symm z1)))
  have kp : ∀ c o, c ≠ z → c ≠ TO → c ≠ i1 → c ≠ i2 → s.heap.get? c = some o → g5.get? c = some o := fun c o c1 c2 c3 c4 e => b5.extBut _ _ c2 (b4.extBut _ _ c4 (b3.extBut _ _ c2 (b2.extBut _ _ c3 (b1.extBut _ _ c1 e))))
  have q1 : S1 (k + 1) g5 := N1.but b5.extBut D.TOi1.symm D.l1TO (N1.but b4.extBut D.i12 D.l1i2 (N1.but b3.extBut D.TOi1.symm D.l1TO m1))
  have q2 : S2 (k + 1) g5 := N2.but b5.extBut D.TOi2.symm D.l2TO m2
  have hzlt : z < g5.objs.size := Heap.lt_size z5
  show wpAny _ _ (Builtin.SmallTypes.ownedTupleHandOut (.ref z) (.ref g5.objs.size) >>= _) _ _ _
  unfold Builtin.SmallTypes.ownedTupleHandOut
  have z6 : IsZip (g5.push { cls := .type "tuple", data := .seq #[x1 k, x2 k] }) z TI TO .ellipsis := Heap.get?_push_of_some _ z5
  refine wpAny_bind (wpAny_bind (wpAny_setField_rec z6 (by simp) fun g7 z7 b7 => ?_))
  replace z7 : IsZip g7 z TI TO (rawInt g5.objs.size) := z7
  refine wpAny_setField_rec z7 (by simp) fun g8 z8 b8 => ?_
  replace z8 : IsZip g8 z TI TO (rawInt g5.objs.size) := z8
  have up : ∀ c o, c ≠ z → g5.get? c = some o → g8.get? c = some o := fun c o c1 e => b8.extBut _ _ c1 (b7.extBut _ _ c1 (Heap.get?_push_of_some _ e))
  have new8 : IsPair g8 g5.objs.size (x1 k) (x2 k) := b8.extBut _ _ (Nat.ne_of_gt hzlt) (b7.extBut _ _ (Nat.ne_of_gt hzlt) (Heap.get?_push_size _ rfl))
  rw [size5] at z8 new8
  refine wpAny_pure ⟨_, rfl, ?_⟩
  show Q (.ref g5.objs.size) _
  rw [size5]
  exact hQ g8 z8 (up _ _ D.TOz t5) (N1.fr _ _ _ q1 (fun o => up _ o D.i1z) fun o => up _ o D.l1z) (N2.fr _ _ _ q2 (fun o => up _ o D.i2z) fun o => up _ o D.l2z) new8 fun c o c1 c2 c3 c4 e => up c o c1 (kp c o c1 c2 c3 c4 e)
theorem zipX_end {Q : Fin → Shared → Prop} (hh : A.handled = none) (D : ZipApart z TI TO i1 i2 l1 l2) (N1 : Nx prog w i1 l1 n1 x1 S1) (N2 : Nx prog w i2 l2 n2 x2 S2)
    (hz : IsZip s.heap z TI TO .none) (hTI : IsPair s.heap TI (.ref i1) (.ref i2)) (hTO : IsPair s.heap TO a b) (h1 : S1 k s.heap) (h2 : S2 k s.heap) (he : n1 ≤ k ∨ n2 ≤ k)
    (hE : ∀ h' e, (∀ c o, c ≠ z → c ≠ TO → c ≠ i1 → c ≠ i2 → s.heap.get? c = some o → h'.get? c = some o) → (∃ o, h'.get? e = some o ∧ o.cls = .type "StopIteration") → E (.ref e) { s with heap := h' }) :
    wpAny (model prog w) A (Builtin.«zip.__next__» ⟨[.ref z], []⟩) Q E s := by
  show wpAny _ _ (field (.ref z) 2 >>= _) _ _ _
  refine wpAny_bind (wpAny_field hz rfl (x := .bool false) rfl ?_)
  show wpAny _ _ (field (.ref z) 3 >>= _) _ _ _
  refine wpAny_bind (wpAny_field hz rfl (x := .ref TI) rfl (wpAny_bind (wpAny_seqItems hTI rfl ?_)))
  show wpAny _ _ (Builtin.SmallTypes.ownedTupleIsFree (.ref z) >>= _) _ _ _
  unfold Builtin.SmallTypes.ownedTupleIsFree
  refine wpAny_bind (wpAny_bind (wpAny_field hz rfl (x := .none) rfl (wpAny_pure ?_)))
  simp only [if_true]
  refine wpAny_bind (wpAny_rule (wpAny_bind (wpAny_field hz rfl (x := .ref TO) rfl (wpAny_bind (wpAny_setField_rec hz (by simp) fun g1 z1 b1 => ?_)))))
  replace z1 : IsZip g1 z TI TO .ellipsis := z1
  refine wpAny_bind ?_
  simp only [List.zipIdx_cons, List.zipIdx_nil, List.forIn_cons, List.forIn_nil]
  refine wpAny_bind (wpAny_bind (wpAny_onRaise ?_))
  show wpAny _ _ (Builtin.SmallTypes.nextOf (.ref i1) >>= _) _ _ _
  by_cases k1 : n1 ≤ k
  · refine wpAny_bind (N1.stop _ k _ _ _ hh k1 (N1.but b1.extBut D.i1z D.l1z h1) fun g2 e b2 ⟨oe, oe1, oe2⟩ => ?_)
    have z2 : IsZip g2 z TI TO .ellipsis := b2 _ _ D.i1z.symm z1
    have ez : e ≠ z := fun x => by subst x; rw [z2] at oe1; cases oe1; simp at oe2
    exact wpAny_setField_rec z2 (by simp) fun g3 _ b3 => hE g3 e (fun c o c1 _ c3 _ x => b3.extBut _ _ c1 (b2 _ _ c3 (b1.extBut _ _ c1 x))) ⟨oe, b3.extBut _ _ ez oe1, oe2⟩
  · refine wpAny_bind (N1.item _ k _ _ _ (by omega) (N1.but b1.extBut D.i1z D.l1z h1) fun g2 m1 b2 => wpAny_pure ?_)
    have t2 : IsPair g2 TO a b := b2.extBut _ _ D.TOi1 (b1.extBut _ _ D.TOz hTO)
    refine wpAny_bind (wpAny_seqItems t2 rfl (wpAny_bind (wpAny_updateSeq_pair t2 fun g3 t3 b3 => wpAny_bind (wpAny_letGo (wpAny_pure ?_)))))
    refine wpAny_bind (wpAny_bind (wpAny_onRaise ?_))
    show wpAny _ _ (Builtin.SmallTypes.nextOf (.ref i2) >>= _) _ _ _
    refine wpAny_bind (N2.stop _ k _ _ _ hh (by omega) (N2.but b3.extBut D.TOi2.symm D.l2TO (N2.but b2.extBut D.i12.symm D.l2i1 (N2.but b1.extBut D.i2z D.l2z h2))) fun g4 e b4 ⟨oe, oe1, oe2⟩ => ?_)
    have z4 : IsZip g4 z TI TO .ellipsis := b4 _ _ D.i2z.symm (b3.extBut _ _ D.TOz.symm (b2.extBut _ _ D.i1z.symm z1))
    have ez : e ≠ z := fun x => by subst x; rw [z4] at oe1; cases oe1; simp at oe2
    exact wpAny_setField_rec z4 (by simp) fun g5 _ b5 => hE g5 e (fun c o c1 c2 c3 c4 x => b5.extBut _ _ c1 (b4 _ _ c4 (b3.extBut _ _ c2 (b2.extBut _ _ c3 (b1.extBut _ _ c1 x))))) ⟨oe, b5.extBut _ _ ez oe1, oe2⟩
theorem nextX_item {Q : Option Value → Shared → Prop} (D : ZipApart z TI TO i1 i2 l1 l2) (N1 : Nx prog w i1 l1 n1 x1 S1) (N2 : Nx prog w i2 l2 n2 x2 S2)
    (hz : IsZip s.heap z TI TO .none) (hTI : IsPair s.heap TI (.ref i1) (.ref i2)) (hTO : IsPair s.heap TO a b) (h1 : S1 k s.heap) (h2 : S2 k s.heap) (k1 : k < n1) (k2 : k < n2)
    (hQ : ∀ h', IsZip h' z TI TO (rawInt s.heap.objs.size) → IsPair h' TO (x1 k) (x2 k) → S1 (k + 1) h' → S2 (k + 1) h' → IsPair h' s.heap.objs.size (x1 k) (x2 k) →
      (∀ c o, c ≠ z → c ≠ TO → c ≠ i1 → c ≠ i2 → s.heap.get? c = some o → h'.get? c = some o) → Q (some (.ref s.heap.objs.size)) { s with heap := h' }) :
    wpAny (model prog w) A (pyNext (.ref z)) Q E s := by
  have ty : s.TypeIs (.ref z) "zip" := ⟨_, hz, rfl⟩
  unfold pyNext
  refine wpAny_bind (wpAny_attempt (wpAny_callSpecial?_slot (name := Str.ofString "__next__") ty F.slot_zip_next (wpAny_call_entry F.slot_zip_next ty F.entry_zip_next ?_ (F.args_zip_next_1 _))))
  exact zipX_item D N1 N2 hz hTI hTO h1 h2 k1 k2 fun h' a1 a2 a3 a4 a5 a6 => wpAny_pure (hQ h' a1 a2 a3 a4 a5 a6)
theorem nextX_end {Q : Option Value → Shared → Prop} (hh : A.handled = none) (D : ZipApart z TI TO i1 i2 l1 l2) (N1 : Nx prog w i1 l1 n1 x1 S1) (N2 : Nx prog w i2 l2 n2 x2 S2)
    (hz : IsZip s.heap z TI TO .none) (hTI : IsPair s.heap TI (.ref i1) (.ref i2)) (hTO : IsPair s.heap TO a b) (h1 : S1 k s.heap) (h2 : S2 k s.heap) (he : n1 ≤ k ∨ n2 ≤ k)
    (hQ : ∀ h', (∀ c o, c ≠ z → c ≠ TO → c ≠ i1 → c ≠ i2 → s.heap.get? c = some o → h'.get? c = some o) → Q none { s with heap := h' }) : wpAny (model prog w) A (pyNext (.ref z)) Q E s := by
  have ty : s.TypeIs (.ref z) "zip" := ⟨_, hz, rfl⟩
  unfold pyNext
  refine wpAny_bind (wpAny_attempt (wpAny_callSpecial?_slot (name := Str.ofString "__next__") ty F.slot_zip_next (wpAny_call_entry F.slot_zip_next ty F.entry_zip_next ?_ (F.args_zip_next_1 _))))
  refine zipX_end hh D N1 N2 hz hTI hTO h1 h2 he fun h' e kp ⟨o, ho, hc⟩ => wpAny_bind (wpAny_isInstance (T := "StopIteration") (b := true) ⟨o, ho, hc⟩ isSubtype_stop (wpAny_pure (hQ _ kp)))
end
/-- what a new zip lays down -/
abbrev zx1 (h : Heap) (l1 : Addr) : Heap := h.push { cls := .type "tuple_iterator", data := .fields #[.ref l1, .int 0 0] }
abbrev zx2 (h : Heap) (l1 l2 : Addr) : Heap := (zx1 h l1).push { cls := .type "list_iterator", data := .fields #[.ref l2, .int 0 0] }
abbrev zx3 (h : Heap) (l1 l2 : Addr) : Heap := (zx2 h l1 l2).push { cls := .type "tuple", data := .seq #[.ref h.objs.size, .ref (zx1 h l1).objs.size] }
abbrev zx4 (h : Heap) (l1 l2 : Addr) : Heap := (zx3 h l1 l2).push { cls := .type "tuple", data := .seq #[.none, .none] }
abbrev zx5 (h : Heap) (l1 l2 : Addr) : Heap := (zx4 h l1 l2).push { cls := .type "zip", data := .fields #[.none, .bool false, .bool false, .ref (zx2 h l1 l2).objs.size, .ref (zx3 h l1 l2).objs.size] }
theorem meets_zx (l1 l2 : Addr) (xs ys : Array Value) :
    Meets (Builtin.«zip.__new__» ⟨[.type "zip", .ref l1, .ref l2], []⟩) (fun _ R s => s.heap.IsTuple l1 xs ∧ s.heap.IsList l2 ys ∧ R (.ok (.ret (.ref (zx4 s.heap l1 l2).objs.size))) { s with heap := zx5 s.heap l1 l2 }) :=
  .of_wp fun prog w A R s h => by
    obtain ⟨hp, g, d, tk, os⟩ := s
    obtain ⟨t1, t2, h⟩ := h
    have sub := sub_zip
    have u1 : Heap.IsTuple (Shared.heap ⟨hp, g, d, tk, os⟩) l1 xs := t1
    have u2 : Heap.IsList (Shared.heap ⟨hp.push { cls := .type "tuple_iterator", data := .fields #[.ref l1, .int 0 0] }, g, d, tk, os⟩) l2 ys := Heap.IsList.push t2 _
    wp_walk using wpAny_pyIter_tuple u1, wpAny_pyIter_list u2
    exact ⟨_, rfl, h⟩
theorem call_zx {prog : Program} {w : World} {A : Around} {E : Value → Shared → Prop} {s : Shared} {l1 l2 : Addr} {xs ys : Array Value} {Q : Value → Shared → Prop} (t1 : s.heap.IsTuple l1 xs) (t2 : s.heap.IsList l2 ys)
    (h : ∀ h', IsZip h' (s.heap.objs.size + 4) (s.heap.objs.size + 2) (s.heap.objs.size + 3) .none → IsPair h' (s.heap.objs.size + 2) (.ref s.heap.objs.size) (.ref (s.heap.objs.size + 1)) →
      IsPair h' (s.heap.objs.size + 3) .none .none → h'.IsTupleIter s.heap.objs.size l1 0 → h'.IsListIter (s.heap.objs.size + 1) l2 0 → (∀ c o, s.heap.get? c = some o → h'.get? c = some o) → Q (.ref (s.heap.objs.size + 4)) { s with heap := h' }) :
    wpAny (model prog w) A (call (.type "zip") [.ref l1, .ref l2]) Q E s := by
  refine callType_new F.called_zip (by decide) (F.typeCall_zip_2 _ _) (F.newCall_zip_2 _ _) (fun obj => F.args_object_init_3 obj _ _) F.entry_zip_new (meets_zx l1 l2 xs ys) ⟨t1, t2, ?_⟩
  have s1 : (zx1 s.heap l1).objs.size = s.heap.objs.size + 1 := Heap.size_push ..
  have s2 : (zx2 s.heap l1 l2).objs.size = s.heap.objs.size + 2 := by rw [Heap.size_push, s1]
  have s3 : (zx3 s.heap l1 l2).objs.size = s.heap.objs.size + 3 := by rw [Heap.size_push, s2]
  have s4 : (zx4 s.heap l1 l2).objs.size = s.heap.objs.size + 4 := by rw [Heap.size_push, s3]
  have p5 : (zx5 s.heap l1 l2).get? (zx4 s.heap l1 l2).objs.size = some _ := Heap.get?_push_size _ rfl
  have p4 : (zx5 s.heap l1 l2).get? (zx3 s.heap l1 l2).objs.size = some _ := Heap.get?_push_of_some _ (Heap.get?_push_size _ rfl)
  have p3 : (zx5 s.heap l1 l2).get? (zx2 s.heap l1 l2).objs.size = some _ := Heap.get?_push_of_some _ (Heap.get?_push_of_some _ (Heap.get?_push_size _ rfl))
  have p2 : (zx5 s.heap l1 l2).get? (zx1 s.heap l1).objs.size = some _ := Heap.get?_push_of_some _ (Heap.get?_push_of_some _ (Heap.get?_push_of_some _ (Heap.get?_push_size _ rfl)))
  have p1 : (zx5 s.heap l1 l2).get? s.heap.objs.size = some _ := Heap.get?_push_of_some _ (Heap.get?_push_of_some _ (Heap.get?_push_of_some _ (Heap.get?_push_of_some _ (Heap.get?_push_size _ rfl))))
  show _ ∧ _
  rw [s2, s3, s4] at p5
  rw [s1, s2] at p3
  rw [s3] at p4
  rw [s1] at p2
  rw [s4]
  refine ⟨⟨_, p5, rfl⟩, h _ p5 p3 p4 ⟨_, p1, rfl, rfl⟩ ⟨_, p2, rfl, rfl⟩ fun c o x => ?_⟩
  iterate 4 refine Heap.get?_push_of_some _ ?_
  exact Heap.get?_push_of_some _ x
/-- the tuple at a and the list at b, the items in new pairs -/
def ItX (K : PySem.W.Frag) (a b : Addr) : It :=
  ⟨fun i H => ∃ (xs ys : List V) (x y : V), SqT K H a xs ∧ SqL K H b ys ∧ xs[i]? = some x ∧ ys[i]? = some y,
    fun i H v H' => ∃ T x y, v = .ref T ∧ H T = none ∧ H' = upd H T (.tup [x, y]) ∧ (∀ xs, SqT K H a xs → xs[i]? = some x) ∧ ∀ ys, SqL K H b ys → ys[i]? = some y,
    fun i H => ∃ xs ys : List V, SqT K H a xs ∧ SqL K H b ys ∧ (xs.length ≤ i ∨ ys.length ≤ i)⟩
theorem turn_zx {P : Program} {w : World} {K : PySem.W.Frag} {elts : List Expr} {kk : Nat} {tpos : Pos} {a b z TI TO i1 i2 : Addr} (D : ZipApart z TI TO i1 i2 a b) :
    Turn P w K (.Tuple elts kk tpos) (ItX K a b) [z, TI, TO, i1, i2] z (fun i h => IsZip h z TI TO .none ∧ IsPair h TI (.ref i1) (.ref i2) ∧ (∃ x y, IsPair h TO x y) ∧ h.IsTupleIter i1 a i ∧ h.IsListIter i2 b i) where
  mem := by simp
  obj := fun i h st c hc => by
    obtain ⟨hz, hTI, ⟨x, y, hTO⟩, ⟨o1, e1, _, d1⟩, ⟨o2, e2, _, d2⟩⟩ := st
    simp only [List.mem_cons, List.not_mem_nil, or_false] at hc
    rcases hc with rfl | rfl | rfl | rfl | rfl
    · exact ⟨_, hz, fun v q => nomatch q⟩
    · exact ⟨_, hTI, fun v q => nomatch q⟩
    · exact ⟨_, hTO, fun v q => nomatch q⟩
    · exact ⟨o1, e1, fun v q => by rw [d1] at q; cases q⟩
    · exact ⟨o2, e2, fun v q => by rw [d2] at q; cases q⟩
  keep := fun i h h' st k => by
    obtain ⟨hz, hTI, ⟨x, y, hTO⟩, h1, h2⟩ := st
    exact ⟨k z (by simp) _ hz, k TI (by simp) _ hTI, ⟨x, y, k TO (by simp) _ hTO⟩, h1.at fun o q => k i1 (by simp) o q, h2.at fun o q => k i2 (by simp) o q⟩
  item := by
    intro X hP hw hK hc i pins s σ H E I hf st hg
    subst hP hw hK
    obtain ⟨hz, hTI, ⟨x0, y0, hTO⟩, h1, h2⟩ := st
    obtain ⟨xs, ys, x, y, hqx, hqy, hx, hy⟩ := hg
    obtain ⟨its, rv, p, _⟩ := I.tuple hqx
    obtain ⟨its2, rv2, p2, _⟩ := I.list hqy
    obtain ⟨u, hu, ru⟩ := rv.get hx
    obtain ⟨u2, hu2, ru2⟩ := rv2.get hy
    have k1 := (List.getElem?_eq_some_iff.mp hu).1
    have k2 := (List.getElem?_eq_some_iff.mp hu2).1
    have g1 : its.getD i .none = u := by rw [List.getD_eq_getElem?_getD, hu]; rfl
    have g2 : its2.getD i .none = u2 := by rw [List.getD_eq_getElem?_getD, hu2]; rfl
    have hzl : z < s.heap.objs.size := Heap.lt_size hz
    refine nextX_item D (nx_tup D.l1i1) (nx_lst D.l2i2) hz hTI hTO ⟨h1, p⟩ ⟨h2, p2.isList⟩ k1 k2 fun h' z' TO' h1' h2' hT hk => ?_
    rw [g1, g2] at TO' hT
    refine ⟨_, rfl, wpAny_letOwnedTupleGo_zip (s := { s with heap := h' }) z' fun h'' z'' sb => ?_⟩
    have hT2 : h''.get? s.heap.objs.size = some { cls := .type "tuple", data := .seq #[u, u2] } := (sb.2 _ (Nat.ne_of_gt hzl)).trans hT
    have new : ObjOk X.prog X.w (upd H s.heap.objs.size (.tup [x, y])) h'' s.heap.objs.size (.tup [x, y]) := ⟨by show 2 ≤ sizeLine; decide, [u, u2], .cons ru (.cons ru2 .nil), ⟨_, hT2, rfl, _, rfl⟩⟩
    have I1 : Inv X pins σ (upd H s.heap.objs.size (.tup [x, y])) { s with heap := h'' } := by
      refine I.turnedNew (t' := s.toks) (ch := [z, TI, TO, i1, i2]) (fun c o hb q => ?_) hf (Nat.le_refl _) new
      simp only [List.mem_cons, List.not_mem_nil, or_false, not_or] at hb
      exact (sb.2 c hb.1).trans (hk c o hb.1 hb.2.2.1 hb.2.2.2.1 hb.2.2.2.2 q)
    refine ⟨.ref s.heap.objs.size, _, I1, rfl, ⟨_, x, y, rfl, I.hok.fresh (Nat.le_refl _), rfl, fun l hl => by rw [I.tuple_inj hl hqx]; exact hx, fun l hl => by rw [I.list_inj hl hqy]; exact hy⟩, ⟨z'', ?_, ⟨u, u2, ?_⟩, ?_, ?_⟩, fun c hcm => ?_⟩
    · exact (sb.2 _ D.TIz).trans (hk _ _ D.TIz D.TITO D.TIi1 D.TIi2 hTI)
    · exact (sb.2 _ D.TOz).trans TO'
    · exact h1'.1.at fun o q => (sb.2 _ D.i1z).trans q
    · exact h2'.1.at fun o q => (sb.2 _ D.i2z).trans q
    · have hlt : c < s.heap.objs.size := by
        simp only [List.mem_cons, List.not_mem_nil, or_false] at hcm
        rcases hcm with rfl | rfl | rfl | rfl | rfl
        · exact hzl
        · exact Heap.lt_size hTI
        · exact Heap.lt_size hTO
        · obtain ⟨_, e1, _⟩ := h1; exact Heap.lt_size e1
        · obtain ⟨_, e2, _⟩ := h2; exact Heap.lt_size e2
      rw [upd_ne (Nat.ne_of_lt hlt)]
      exact (hf c hcm).1
  done := by
    intro X hP hw hK hc i pins s σ H E I hf st hg
    subst hP hw hK
    obtain ⟨hz, hTI, ⟨x0, y0, hTO⟩, h1, h2⟩ := st
    obtain ⟨xs, ys, hqx, hqy, hend⟩ := hg
    obtain ⟨its, rv, p, _⟩ := I.tuple hqx
    obtain ⟨its2, rv2, p2, _⟩ := I.list hqy
    have l1 := rv.length
    have l2 := rv2.length
    refine nextX_end (I.ok.hd hc) D (nx_tup D.l1i1) (nx_lst D.l2i2) hz hTI hTO ⟨h1, p⟩ ⟨h2, p2.isList⟩ (by omega) fun h' hk => ⟨rfl, I.turnedL (t' := s.toks) (ch := [z, TI, TO, i1, i2]) (fun c o hb q => ?_) hf⟩
    simp only [List.mem_cons, List.not_mem_nil, or_false, not_or] at hb
    exact hk c o hb.1 hb.2.2.1 hb.2.2.2.1 hb.2.2.2.2 q
  self := fun A i s Q E st h => wpAny_pyIter_zip st.1 h
def iZipX (K : PySem.W.Frag) (ta : TA) : TI := fun σ H R => ta σ H fun vs H1 => ∃ a b xs ys, vs = [.ref a, .ref b] ∧ SqT K H1 a xs ∧ SqL K H1 b ys ∧ R (ItX K a b) H1
theorem pi_zipX {X : Cx} {e e2 : Expr} {ta : TA} {p pos tpos : Pos} {elts : List Expr} {kk : Nat} (hg : Gl X "zip") (hm : X.mg "zip" = none) (ha : PA X [e, e2] ta)
    (hs : starEach [e, e2] X.env = (false, eval e X.env) :: starEach [e2] X.env := by rfl) (hpl : (backTo pos (starEach [e2] X.env)).any (·.1) = false := by rfl) :
    PI X (.Tuple elts kk tpos) (.Call (.Name "zip" p) [e, e2] [] pos) (iZipX X.K ta) := by
  refine ⟨fun pins s σ H R I h => ?_⟩
  refine Call_ (ld_blt I hg hm PyProof.Rows.boot_zip (PyProof.Rows.callWith_type1 (thn (ha.run pos pins s σ H _ I h) fun us s1 ⟨vs, H1, I1, r1, q1⟩ => ?_) hs hpl))
  obtain ⟨a, b, xs, ys, ex, hqx, hqy, q⟩ := q1
  subst ex
  obtain ⟨v1, v2, rfl, r, r'⟩ := vals2 r1
  cases r
  cases r'
  have fresh : ∀ c, c ∈ [s1.heap.objs.size + 4, s1.heap.objs.size + 2, s1.heap.objs.size + 3, s1.heap.objs.size, s1.heap.objs.size + 1] → FpOk X pins H1 c := fun c hcm => by
    have hle : s1.heap.objs.size ≤ c := by
      simp only [List.mem_cons, List.not_mem_nil, or_false] at hcm
      omega
    exact I1.fpOk hle (I1.hok.fresh hle)
  obtain ⟨its, rv, p1, _⟩ := I1.tuple hqx
  obtain ⟨its2, rv2, p2, _⟩ := I1.list hqy
  obtain ⟨o1, ho1, _⟩ := id p1
  refine call_zx (show s1.heap.IsTuple a its.toArray from p1) p2.isList fun h' hz hTI hTO h1 h2 hk => wpAny_pyIter_zip hz ?_
  have I2 : Inv X pins σ H1 { s1 with heap := h' } := I1.kept (t' := s1.toks) hk
  exact ⟨s1.heap.objs.size + 4, [s1.heap.objs.size + 4, s1.heap.objs.size + 2, s1.heap.objs.size + 3, s1.heap.objs.size, s1.heap.objs.size + 1], _, _, H1, rfl, I2, turn_zx (PySem.W.ktu_apart s1.heap.objs.size a b (Heap.lt_size ho1) p2.lt), ⟨hz, hTI, ⟨_, _, hTO⟩, h1, h2⟩, fresh, q⟩
/-! ### over deep values: a tuple that stays, a list -/
theorem iter_zipX {K : PySem.W.Frag} {W1 : Wd} {a b : Addr} {ds es : List D} {G : Cs → Prop} (h : ∀ (W : Wd) (F H : Hp), Stp W1.al.length W1 W → Rel K W → Jn W.H F H → ∃ vs, SqT K H a vs ∧ Iss K W ds vs) (h' : Stands K W1 b es G) : IterOk K W1 (ItX K a b) (pairs ds es) G where
  goes := fun i W F H S r j g hi => by
    obtain ⟨vs, hs, is⟩ := h W F H S r j
    obtain ⟨us, hu, iu⟩ := h' W F H S r j g
    have hl := iss_len is
    have hl' := iss_len iu
    have hm : i < ds.length ∧ i < es.length := by simp [pairs] at hi; omega
    exact ⟨vs, us, vs[i]'(by omega), us[i]'(by omega), hs, hu, List.getElem?_eq_getElem (by omega), List.getElem?_eq_getElem (by omega)⟩
  stops := fun W F H S r j g => by
    obtain ⟨vs, hs, is⟩ := h W F H S r j
    obtain ⟨us, hu, iu⟩ := h' W F H S r j g
    have hl := iss_len is
    have hl' := iss_len iu
    refine ⟨vs, us, hs, hu, ?_⟩
    have : (pairs ds es).length = min ds.length es.length := by simp [pairs]
    omega
  yields := fun i W F H x H' S r j g hi y => by
    obtain ⟨vs, hs, is⟩ := h W F H S r j
    obtain ⟨us, hu, iu⟩ := h' W F H S r j g
    obtain ⟨T, u1, u2, rfl, hT, rfl, e1, e2⟩ := y
    obtain ⟨d1, hd1, k1⟩ := is.get' (e1 vs hs)
    obtain ⟨d2, hd2, k2⟩ := iu.get' (e2 us hu)
    refine ⟨W.add T (.tup [u1, u2]), .tup [d1, d2], j.new hT _, add_stp (j.none hT) _, r.add (j.none hT) _, rfl, ?_, r.newTup (j.none hT) ⟨_, _, rfl, k1, _, _, rfl, k2, rfl⟩⟩
    unfold pairs
    rw [List.getElem?_map, List.getElem?_zip_eq_some.mpr (show ds[i]? = some (d1, d2).1 ∧ es[i]? = some (d1, d2).2 from ⟨hd1, hd2⟩)]
    rfl
def iZipXD (t u : TED) : TID := fun δ cs R => t δ cs fun d c1 => u δ c1 fun e c2 => asT d fun ds => asLG c2 e fun es G => R (pairs ds es) G c2
theorem di_zipX {X : Cx} {e e2 : Expr} {t u : TED} {p pos tpos : Pos} {elts : List Expr} {kk : Nat} (hg : Gl X "zip") (hm : X.mg "zip" = none) (h : DE X e t) (h' : DE X e2 u) (hs : starEach [e, e2] X.env = (false, eval e X.env) :: starEach [e2] X.env := by rfl) (hs4 : starEach (e2 :: []) X.env = (false, eval e2 X.env) :: starEach [] X.env := by rfl) (hpl : (backTo pos (starEach [e2] X.env)).any (·.1) = false := by rfl) :
    DI X (.Tuple elts kk tpos) (.Call (.Name "zip" p) [e, e2] [] pos) (iZipXD t u) :=
  pi_imp (pi_zipX hg hm (da_cons h (da_cons h' da_nil hs4) hs) hs hpl) fun σ H R ⟨W, F, δ, RR, j, rel, sl, q, k⟩ => ⟨W, F, δ, fun ds c1 => twoL ds fun d e => asT d fun ds => asLG c1 e fun es G => RR (pairs ds es) G c1, j, rel, sl, q, fun vs W1 ds H1 S1 rel1 j1 is q => by
    obtain ⟨d, v, e, w, rfl, i, i', q⟩ := twoL_is is q
    obtain ⟨a, ds, vs, rfl, rfl, ha, is1, q⟩ := asT_is i q
    obtain ⟨b, es, us, G, rfl, hs', st', q⟩ := asLG_is rel1 j1 i' q
    have hn : ¬ W1.mu a := by
      obtain ⟨a', vs', e, _, n, _⟩ := i
      cases e; exact n
    exact ⟨a, b, vs, us, rfl, .of (j1.sub _ _ ha), hs', k _ _ W1 H1 _ S1 rel1 j1 (iter_zipX (fun W F H S r j => ⟨vs, .of (j.sub _ _ (S.keep _ _ ha hn)), is1.to S⟩) st') q⟩⟩
end DL
/-! SA: windows and arrivals: data and promises. -/
namespace AU
open PySem PySem.Spec PyProof.Rows L2 DL
structure Ad where
  Window : Addr
  Pairing : Addr
def L_Window : List Str := ["own_first", "own_last", "own_must", "own_label"]
def L_Pairing : List Str := ["windows", "arrivals", "window_of", "arrival_of"]
theorem nd_Window : L_Window.Nodup := by decide +kernel
theorem nd_Pairing : L_Pairing.Nodup := by decide +kernel
def tyL : List ((String × String) × Bool) := [(("int", "int"), true), (("int", "bool"), false), (("bool", "bool"), true), (("bool", "int"), true), (("list", "list"), true), (("list", "tuple"), false), (("tuple", "list"), false), (("tuple", "tuple"), true), (("str", "str"), true), (("str", "int"), false), (("int", "str"), false), (("int", "tuple"), false), (("list", "int"), false), (("NoneType", "int"), false)]
def tabX (A : Ad) : Tab := fun t u => match t, u with
  | .b a, .b c => tyL.lookup (a, c)
  | .o C, .o C' => if C = A.Window ∧ C' = A.Window then some true else none
  | _, _ => none
theorem lookup_all {α β : Type} [BEq α] [LawfulBEq α] {k : α} {v : β} {P : α × β → Bool} : ∀ {l : List (α × β)}, l.all P = true → l.lookup k = some v → P (k, v) = true
  | [], _, h => by cases h
  | (a, b) :: l, ha, h => by
    rw [List.all_cons, Bool.and_eq_true] at ha
    rw [List.lookup_cons] at h
    cases e : k == a with
    | true =>
      rw [e] at h
      cases h
      rw [eq_of_beq e]
      exact ha.1
    | false =>
      rw [e] at h
      exact lookup_all ha.2 h
theorem tab_ok {K : PySem.W.Frag} {A : Ad} (h : InsCls K A.Window) : TabOk K (tabX A) where
  ans := fun t u b e => by
    cases t <;> cases u <;> first | (cases e; done) | skip
    · rename_i a c
      have q : kitB a c = some b := by
        have := lookup_all (P := fun e => kitB e.1.1 e.1.2 == some e.2) (by decide +kernel) (show tyL.lookup (a, c) = some b from e)
        exact eq_of_beq this
      exact kit_ty q
    · rename_i C C'
      have e' : (if C = A.Window ∧ C' = A.Window then some true else none) = some b := e
      by_cases hc : C = A.Window ∧ C' = A.Window
      · rw [if_pos hc] at e'
        cases e'
        obtain ⟨rfl, rfl⟩ := hc
        show PySem.W.kitOne K (.ref A.Window) (.ref A.Window) = some true
        unfold PySem.W.kitOne
        simp
      · rw [if_neg hc] at e'; cases e'
  ins := fun C u b e => by
    cases u <;> first | (cases e; done) | skip
    rename_i C'
    have e' : (if C = A.Window ∧ C' = A.Window then some true else none) = some b := e
    by_cases hc : C = A.Window ∧ C' = A.Window
    · obtain ⟨rfl, _⟩ := hc; exact h
    · rw [if_neg hc] at e'; cases e'
/-! ### windows, arrivals -/
structure Win where
  f : Int
  l : Int
  m : Bool
  b : Str
structure Arr where
  t : Int
  b : Str
def fW (w : Win) : List D := [.int w.f, .int w.l, .bl w.m, .str w.b]
def dWin (A : Ad) (w : Win) : D := .obj A.Window L_Window (fW w)
def dArr (a : Arr) : D := .tup [.int a.t, .str a.b]
def Win.ok (w : Win) : Prop := 0 ≤ w.f ∧ w.f ≤ w.l ∧ w.l ≤ 1000000
def Arr.ok (a : Arr) : Prop := 0 ≤ a.t
def adm (w : Win) (a : Arr) : Bool := decide (a.b = w.b) && (decide (w.f ≤ a.t) && decide (a.t ≤ w.l))
/-- the places of what has p -/
def idxF {α : Type} (p : α → Bool) : Nat → List α → List Int
  | _, [] => []
  | n, x :: xs => if p x = true then (n : Int) :: idxF p (n + 1) xs else idxF p (n + 1) xs
def nbW (ws : List Win) (as : List Arr) : Int → List Int := fun i => match ws[i.toNat]? with
  | some w => if 0 ≤ i then idxF (fun a => adm w a) 0 as else []
  | none => []
def nbA (ws : List Win) (as : List Arr) : Int → List Int := fun i => match as[i.toNat]? with
  | some a => if 0 ≤ i then idxF (fun w => adm w a) 0 ws else []
  | none => []
abbrev PM := List (Int × Int)
def mC (p : PM) : Cel := .dK (p.map fun e => (.inl e.1, .int e.2))
def pC (A : Ad) (ws : List Win) (as : List Arr) : Cel := .ins A.Pairing L_Pairing [.lst (ws.map (dWin A)), .lst (as.map dArr), .ptr 1, .ptr 2]
structure In (ws : List Win) (as : List Arr) : Prop where
  lw : ws.length ≤ 60
  la : as.length ≤ 60
  ok : ∀ a ∈ as, a.ok
/-- p and q are each other's inverse, along the edges -/
structure Mt (nb : Int → List Int) (p q : PM) : Prop where
  kp : (p.map Prod.fst).Nodup
  kq : (q.map Prod.fst).Nodup
  iff : ∀ x y, valG p x = some y ↔ valG q y = some x
  ed : ∀ x y, valG p x = some y → x ∈ nb y
/-- what is next to R is paired within R -/
def Closed (nb : Int → List Int) (p : PM) (R : List Int) : Prop := ∀ y ∈ R, ∀ x ∈ nb y, ∃ y' ∈ R, valG p x = some y'
structure Grown (nb : Int → List Int) (p q : PM) (r : Int) (p' q' : PM) : Prop where
  mt : Mt nb p' q'
  dq : ∀ y, valG q' y ≠ none ↔ (valG q y ≠ none ∨ y = r)
  dp : ∀ x, valG p x ≠ none → valG p' x ≠ none
  cl : ∀ R, Closed nb p R → Closed nb p' R
structure Stuck (nb : Int → List Int) (p q : PM) (r : Int) (R : List Int) : Prop where
  nd : R.Nodup
  root : r ∈ R
  cl : Closed nb p R
  mem : ∀ y ∈ R, y = r ∨ valG q y ≠ none
/-! ### promises -/
def sp_is_integer (A : Ad) : SpD := fun ds cs R _ => ∃ v lo hi : Int, ds = [.int v, .int lo, .int hi] ∧ R (.bl (decide (lo ≤ v) && decide (v ≤ hi))) cs
def sp_is_list (A : Ad) : SpD := fun ds cs R _ => ∃ xs, ds = [.lst xs] ∧ R (.bl true) cs
def sp_is_arrival (A : Ad) : SpD := fun ds cs R _ => ∃ a : Arr, ds = [dArr a] ∧ R (.bl (decide (0 ≤ a.t))) cs
def sp_Window___init__ (A : Ad) : SpD := fun ds cs R _ => ∃ (k : Nat) (w : Win), ds = [.ptr k, .int w.f, .int w.l, .bl w.m, .str w.b] ∧ cs[k]? = some (.ins A.Window L_Window []) ∧ w.ok ∧ R .non (cs.set k (.ins A.Window L_Window (fW w)))
def sp_Window___contains__ (A : Ad) : SpD := fun ds cs R _ => ∃ (w : Win) (v : Int), ds = [dWin A w, .int v] ∧ R (.bl (decide (w.f ≤ v) && decide (v ≤ w.l))) cs
def sp_Window_must (A : Ad) : SpD := fun ds cs R _ => ∃ w : Win, ds = [dWin A w] ∧ R (.bl w.m) cs
def sp_Window_admits (A : Ad) : SpD := fun ds cs R _ => ∃ (w : Win) (a : Arr), ds = [dWin A w, dArr a] ∧ a.ok ∧ R (.bl (adm w a)) cs
def sp_check_lists (A : Ad) : SpD := fun ds cs R _ => ∃ (ws : List Win) (as : List Arr), ds = [.lst (ws.map (dWin A)), .lst (as.map dArr)] ∧ In ws as ∧ R .non cs
def sp_Pairing___init__ (A : Ad) : SpD := fun ds cs R _ => ∃ (k : Nat) (ws : List Win) (as : List Arr), ds = [.ptr k, .lst (ws.map (dWin A)), .lst (as.map dArr)] ∧ In ws as ∧ cs[k]? = some (.ins A.Pairing L_Pairing []) ∧
  R .non (cs.set k (.ins A.Pairing L_Pairing [.lst (ws.map (dWin A)), .lst (as.map dArr), .ptr cs.length, .ptr (cs.length + 1)]) ++ [mC [], mC []])
def sp_Pairing_arrivals_of (A : Ad) : SpD := fun ds cs R _ => ∃ (ws : List Win) (as : List Arr) (p q : PM) (i : Int), ds = [.ptr 0, .int i] ∧ cs = [pC A ws as, mC p, mC q] ∧ In ws as ∧ 0 ≤ i ∧ i < (ws.length : Int) ∧ R (.lst ((nbW ws as i).map .int)) cs
def sp_Pairing_windows_for (A : Ad) : SpD := fun ds cs R _ => ∃ (ws : List Win) (as : List Arr) (p q : PM) (i : Int), ds = [.ptr 0, .int i] ∧ cs = [pC A ws as, mC p, mC q] ∧ In ws as ∧ 0 ≤ i ∧ i < (as.length : Int) ∧ R (.lst ((nbA ws as i).map .int)) cs
def sp_Pairing_pair (A : Ad) : SpD := fun ds cs R _ => ∃ (ws : List Win) (as : List Arr) (p q : PM) (a w : Int), ds = [.ptr 0, .int a, .int w] ∧ cs = [pC A ws as, mC p, mC q] ∧ p.length < 1000 ∧ q.length < 1000 ∧ R .non [pC A ws as, mC (putG p a w), mC (putG q w a)]
/-- the way back from x: came tells each one's, q what is ahead -/
def Chain (came q : PM) : Int → List (Int × Int) → Prop
  | _, [] => False
  | x, (x', y) :: r => x' = x ∧ valG came x = some y ∧ ((r = [] ∧ valG q y = none) ∨ ∃ b, valG q y = some b ∧ Chain came q b r)
def puts (p : PM) : List (Int × Int) → PM
  | [] => p
  | (x, y) :: r => puts (putG p x y) r
def putsB (q : PM) : List (Int × Int) → PM
  | [] => q
  | (x, y) :: r => putsB (putG q y x) r
def sp_Pairing_turn_windows (A : Ad) : SpD := fun ds cs R _ => ∃ (ws : List Win) (as : List Arr) (p q came : PM) (rc : List Int) (x : Int) (path : List (Int × Int)), ds = [.ptr 0, .int x, .ptr 4] ∧ cs = [pC A ws as, mC p, mC q, .lst (rc.map .int), mC came] ∧
  Chain came q x path ∧ (path.map Prod.snd).Nodup ∧ p.length + path.length < 1000 ∧ q.length + path.length < 1000 ∧ R .non [pC A ws as, mC (puts p path), mC (putsB q path), .lst (rc.map .int), mC came]
def sp_Pairing_turn_arrivals (A : Ad) : SpD := fun ds cs R _ => ∃ (ws : List Win) (as : List Arr) (p q came : PM) (rc : List Int) (x : Int) (path : List (Int × Int)), ds = [.ptr 0, .int x, .ptr 4] ∧ cs = [pC A ws as, mC q, mC p, .lst (rc.map .int), mC came] ∧
  Chain came q x path ∧ (path.map Prod.snd).Nodup ∧ p.length + path.length < 1000 ∧ q.length + path.length < 1000 ∧ R .non [pC A ws as, mC (putsB q path), mC (puts p path), .lst (rc.map .int), mC came]
def sp_Pairing_place_window (A : Ad) : SpD := fun ds cs R _ => ∃ (ws : List Win) (as : List Arr) (p q : PM) (i : Int), ds = [.ptr 0, .int i] ∧ cs = [pC A ws as, mC p, mC q] ∧ In ws as ∧ Mt (nbW ws as) p q ∧ 0 ≤ i ∧ i < (ws.length : Int) ∧ valG q i = none ∧
  (∀ p' q', Grown (nbW ws as) p q i p' q' → R .non [pC A ws as, mC p', mC q']) ∧ ∀ F : List Int, Stuck (nbW ws as) p q i F → R (.lst (F.map .int)) cs
def sp_Pairing_place_arrival (A : Ad) : SpD := fun ds cs R _ => ∃ (ws : List Win) (as : List Arr) (p q : PM) (i : Int), ds = [.ptr 0, .int i] ∧ cs = [pC A ws as, mC q, mC p] ∧ In ws as ∧ Mt (nbA ws as) p q ∧ 0 ≤ i ∧ i < (as.length : Int) ∧ valG q i = none ∧
  (∀ p' q', Grown (nbA ws as) p q i p' q' → R .non [pC A ws as, mC q', mC p']) ∧ ∀ F : List Int, Stuck (nbA ws as) p q i F → R (.lst (F.map .int)) cs
def sp_Pairing_pairs (A : Ad) : SpD := fun ds cs R _ => ∃ (ws : List Win) (as : List Arr) (p q : PM), ds = [.ptr 0] ∧ cs = [pC A ws as, mC p, mC q] ∧ ∀ ps : List (Int × Int), ps.Perm p → ps.Pairwise leP → R (.lst (ps.map pairI)) cs
/-- all windows of a list of places must arrive and have too few arrivals -/
structure NoWay (ws : List Win) (as : List Arr) (F : List Int) : Prop where
  must : ∀ i ∈ F, 0 ≤ i ∧ ∃ w, ws[i.toNat]? = some w ∧ w.m = true
  st : ∃ p q r, Mt (nbW ws as) p q ∧ valG q r = none ∧ Stuck (nbW ws as) p q r F
/-- p: arrival to window; all windows that must are paired -/
structure Musts (ws : List Win) (as : List Arr) (p q : PM) : Prop where
  mt : Mt (nbW ws as) p q
  all : ∀ (i : Nat) (w : Win), ws[i]? = some w → w.m = true → valG q (i : Int) ≠ none
def sp_explained (A : Ad) : SpD := fun ds cs R _ => ∃ (ws : List Win) (as : List Arr), ds = [.lst (ws.map (dWin A)), .lst (as.map dArr)] ∧ cs = [] ∧ In ws as ∧
  (∀ F, NoWay ws as F → R (.tup [.str "missing", .lst (F.map .int)]) cs) ∧
  (∀ (p q : PM) (r : Int) (F : List Int), Musts ws as p q → valG p r = none → 0 ≤ r → r < (as.length : Int) → Stuck (nbA ws as) q p r F → R (.tup [.str "too_many", .lst (F.map .int)]) cs) ∧
  (∀ (p q ps : PM), Musts ws as p q → (∀ i : Nat, i < as.length → valG p (i : Int) ≠ none) → ps.Perm p → ps.Pairwise leP → R (.tup [.str "explained", .lst (ps.map pairI)]) cs)
/-- as many as can be: what is reached from the arrivals that lack, the windows crossed -/
structure Most (ws : List Win) (as : List Arr) (p q : PM) (Rs X : List Int) : Prop where
  mt : Mt (nbA ws as) q p
  nd : Rs.Nodup
  ndX : X.Nodup
  lack : ∀ i : Nat, i < as.length → valG p (i : Int) = none → (i : Int) ∈ Rs
  inn : ∀ y ∈ Rs, 0 ≤ y ∧ y < (as.length : Int)
  nb : ∀ y ∈ Rs, ∀ x ∈ nbA ws as y, x ∈ X
  back : ∀ x ∈ X, ∃ y ∈ Rs, valG q x = some y
  why : ∀ y ∈ Rs, valG p y = none ∨ ∃ x ∈ X, valG p y = some x
/-- the places below n that are not in R -/
def others (n : Nat) (R : List Int) : List Int := ((List.range n).map fun i : Nat => (i : Int)).filter fun i => !decide (i ∈ R)
def sp_most_explained (A : Ad) : SpD := fun ds cs R _ => ∃ (ws : List Win) (as : List Arr), ds = [.lst (ws.map (dWin A)), .lst (as.map dArr)] ∧ cs = [] ∧ In ws as ∧
  ∀ (p q ps : PM) (Rs X : List Int), Most ws as p q Rs X → ps.Perm p → ps.Pairwise leP → X.Pairwise (· ≤ ·) →
    R (.tup [.lst (ps.map pairI), .lst (X.map .int), .lst ((others as.length Rs).map .int)]) cs
/-- keyword-only parameters of a window -/
def gW : List Value → List Value → List Value := fun us ws => us ++ ws
def gWV : List V → List V → List V := fun us ws => us ++ ws
def gD_Window : List D → List D → List D := fun ds es => ds ++ es
theorem gD_Window_ok {K : PySem.W.Frag} : KwD K gD_Window gWV := fun W ds vs es us h q => h.append q
end AU
/-! RA: readings (printed by gen.py). -/
namespace AU
open PySem PySem.Spec PyProof.Rows L2 DL
def rd_is_integer (A : Ad) : TSD :=
 (dRet (dAndV (dCB (isiD (tabX A)) (dCons (dVar 0) (dCons (dC (.ty "int")) dNil))) (dAndV (dNotV (dCB (isiD (tabX A)) (dCons (dVar 0) (dCons (dC (.ty "bool")) dNil)))) (dChain (rOrdD pLe qLe) (rOrdD pLe qLe) (dVar 1) (dVar 0) (dVar 2)))))
def rd_is_list (A : Ad) : TSD :=
 (dRet (dCB (isiTD (tabX A)) (dCons (dVar 0) (dCons (dTup (dCons (dC (.ty "list")) (dCons (dC (.ty "tuple")) dNil))) dNil))))
def rd_is_arrival (A : Ad) : TSD :=
 (dSeq (dIf (dOr (dNot (dB (dCB (isiD (tabX A)) (dCons (dVar 0) (dCons (dC (.ty "tuple")) dNil))))) (dOr (dB (dOp rNeDD (dCB (one lenD) (dCons (dVar 0) dNil)) (dC (.int 2)))) (dNot (dB (dCB (isiD (tabX A)) (dCons (dOp ixD (dVar 0) (dC (.int 1))) (dCons (dC (.ty "str")) dNil)))))))
 (dRet (dC (.bl false)))
 dPass)
 (dRet (dAndV (dCB (isiD (tabX A)) (dCons (dOp ixD (dVar 0) (dC (.int 0))) (dCons (dC (.ty "int")) dNil))) (dAndV (dNotV (dCB (isiD (tabX A)) (dCons (dOp ixD (dVar 0) (dC (.int 0))) (dCons (dC (.ty "bool")) dNil)))) (dOp (rOrdD pGe qGe) (dOp ixD (dVar 0) (dC (.int 0))) (dC (.int 0)))))))
def rd_Window___init__ (A : Ad) : TSD :=
 (dSeq (dIf (dNot (dB (dCall (sp_is_integer A) [] (dCons (dVar 1) (dCons (dC (.int 0)) (dCons (dC (.int 1000000)) dNil))))))
 dNever
 dPass)
 (dSeq (dIf (dNot (dB (dCall (sp_is_integer A) [] (dCons (dVar 2) (dCons (dVar 1) (dCons (dC (.int 1000000)) dNil))))))
 dNever
 dPass)
 (dSeq (dIf (dNot (dB (dCB (isiD (tabX A)) (dCons (dVar 3) (dCons (dC (.ty "bool")) dNil)))))
 dNever
 dPass)
 (dSeq (dIf (dNot (dB (dCB (isiD (tabX A)) (dCons (dVar 4) (dCons (dC (.ty "str")) dNil)))))
 dNever
 dPass)
 (dSeq (dSetF A.Window L_Window 0 (dVar 0) (dVar 1))
 (dSeq (dSetF A.Window L_Window 1 (dVar 0) (dVar 2))
 (dSeq (dSetF A.Window L_Window 2 (dVar 0) (dVar 3))
 (dSetF A.Window L_Window 3 (dVar 0) (dVar 4)))))))))
def rd_Window___contains__ (A : Ad) : TSD :=
 (dRet (dCall (sp_is_integer A) [] (dCons (dVar 1) (dCons (dFld A.Window L_Window 0 (dVar 0)) (dCons (dFld A.Window L_Window 1 (dVar 0)) dNil)))))
def rd_Window_must (A : Ad) : TSD :=
 (dRet (dFld A.Window L_Window 2 (dVar 0)))
def rd_Window_admits (A : Ad) : TSD :=
 (dSeq (dIf (dNot (dB (dCall (sp_is_arrival A) [] (dCons (dVar 1) dNil))))
 dNever
 dPass)
 (dRet (dAndV (dOp rEqDD (dOp ixD (dVar 1) (dC (.int 1))) (dFld A.Window L_Window 3 (dVar 0))) (dOp (inOwnD A.Window (sp_Window___contains__ A)) (dOp ixD (dVar 1) (dC (.int 0))) (dVar 0)))))
def rd_check_lists (A : Ad) : TSD :=
 (dSeq (dIf (dOr (dNot (dB (dCall (sp_is_list A) [] (dCons (dVar 0) dNil)))) (dB (dOp (rOrdD pGt qGt) (dCB (one lenD) (dCons (dVar 0) dNil)) (dC (.int 60)))))
 dNever
 dPass)
 (dSeq (dFor (iListD (dVar 0)) (gdName 2)
 (dIf (dNot (dB (dCB (isiD (tabX A)) (dCons (dVar 2) (dCons (dC (.adr A.Window)) dNil)))))
 dNever
 dPass))
 (dSeq (dIf (dOr (dNot (dB (dCall (sp_is_list A) [] (dCons (dVar 1) dNil)))) (dB (dOp (rOrdD pGt qGt) (dCB (one lenD) (dCons (dVar 1) dNil)) (dC (.int 60)))))
 dNever
 dPass)
 (dFor (iListD (dVar 1)) (gdName 3)
 (dIf (dNot (dB (dCall (sp_is_arrival A) [] (dCons (dVar 3) dNil))))
 dNever
 dPass)))))
def rd_Pairing___init__ (A : Ad) : TSD :=
 (dSeq (dDrop (dCall (sp_check_lists A) [] (dCons (dVar 1) (dCons (dVar 2) dNil))))
 (dSeq (dSetF A.Pairing L_Pairing 0 (dVar 0) (dCB listD (dCons (dVar 1) dNil)))
 (dSeq (dSetF A.Pairing L_Pairing 1 (dVar 0) (dCB listD (dCons (dVar 2) dNil)))
 (dSeq (dSetF A.Pairing L_Pairing 2 (dVar 0) dNewK)
 (dSetF A.Pairing L_Pairing 3 (dVar 0) dNewK)))))
def rd_Pairing_arrivals_of (A : Ad) : TSD :=
 (dRet (dLc (iEnumD (dFld A.Pairing L_Pairing 1 (dVar 0))) (gdTup 2 (gdCons (gdName 2) (gdCons (gdName 3) gdNil))) (dB (dMeth A.Window "admits" (sp_Window_admits A) [] (dOp ixD (dFld A.Pairing L_Pairing 0 (dVar 0)) (dVar 1)) (dCons (dVar 3) dNil))) (dVar 2) [2, 3]))
def rd_Pairing_windows_for (A : Ad) : TSD :=
 (dRet (dLc (iEnumD (dFld A.Pairing L_Pairing 0 (dVar 0))) (gdTup 2 (gdCons (gdName 2) (gdCons (gdName 3) gdNil))) (dB (dMeth A.Window "admits" (sp_Window_admits A) [] (dVar 3) (dCons (dOp ixD (dFld A.Pairing L_Pairing 1 (dVar 0)) (dVar 1)) dNil))) (dVar 2) [2, 3]))
def rd_Pairing_pair (A : Ad) : TSD :=
 (dSeq (dAsg (dVar 2) (gdSub (dFld A.Pairing L_Pairing 2 (dVar 0)) (dVar 1)))
 (dAsg (dVar 1) (gdSub (dFld A.Pairing L_Pairing 3 (dVar 0)) (dVar 2))))
def rd_Pairing_turn_windows (A : Ad) : TSD :=
 (dWhile (dB (dOp (rIsND not) (dVar 1) (dC .non)))
 (dSeq (dSet 3 (dOp ixD (dVar 2) (dVar 1)))
 (dSeq (dSet 4 (dGet1 (dFld A.Pairing L_Pairing 3 (dVar 0)) (dVar 3)))
 (dSeq (dDrop (dMeth A.Pairing "pair" (framed (sp_Pairing_pair A)) [] (dVar 0) (dCons (dVar 1) (dCons (dVar 3) dNil))))
 (dSet 1 (dVar 4))))))
def rd_Pairing_place_window (A : Ad) : TSD :=
 (dSeq (dPar3 2 3 4 (dCons (dLstP (dCons (dVar 1) dNil)) (dCons dNewK (dCons (dC (.int 0)) dNil))))
 (dSeq (dWhile (dB (dOp (rOrdD pLt qLt) (dVar 4) (dCB (one lenD) (dCons (dVar 2) dNil))))
 (dSeq (dSet 5 (dOp ixD (dVar 2) (dVar 4)))
 (dSeq (dFor (iListD (dMeth A.Pairing "arrivals_of" (framed (sp_Pairing_arrivals_of A)) [] (dVar 0) (dCons (dVar 5) dNil))) (gdName 6)
 (dIf (dB (dOp (rInD not) (dVar 6) (dVar 3)))
 (dSeq (dAsg (dVar 5) (gdSub (dVar 3) (dVar 6)))
 (dSeq (dIf (dB (dOp (rInD not) (dVar 6) (dFld A.Pairing L_Pairing 2 (dVar 0))))
 (dSeq (dDrop (dMeth A.Pairing "turn_windows" (framed (sp_Pairing_turn_windows A)) [] (dVar 0) (dCons (dVar 6) (dCons (dVar 3) dNil))))
 (dRet (dC .non)))
 dPass)
 (dDrop (dBM "list" appD (dVar 2) (dCons (dOp ixD (dFld A.Pairing L_Pairing 2 (dVar 0)) (dVar 6)) dNil)))))
 dPass))
 (dAug 4 (dC (.int 1)) (dI0 fun i j => .int (i + j))))))
 (dRet (dCB (sortID false) (dCons (dVar 2) dNil)))))
def rd_Pairing_turn_arrivals (A : Ad) : TSD :=
 (dWhile (dB (dOp (rIsND not) (dVar 1) (dC .non)))
 (dSeq (dSet 3 (dOp ixD (dVar 2) (dVar 1)))
 (dSeq (dSet 4 (dGet1 (dFld A.Pairing L_Pairing 2 (dVar 0)) (dVar 3)))
 (dSeq (dDrop (dMeth A.Pairing "pair" (framed (sp_Pairing_pair A)) [] (dVar 0) (dCons (dVar 3) (dCons (dVar 1) dNil))))
 (dSet 1 (dVar 4))))))
def rd_Pairing_place_arrival (A : Ad) : TSD :=
 (dSeq (dPar3 2 3 4 (dCons (dLstP (dCons (dVar 1) dNil)) (dCons dNewK (dCons (dC (.int 0)) dNil))))
 (dSeq (dWhile (dB (dOp (rOrdD pLt qLt) (dVar 4) (dCB (one lenD) (dCons (dVar 2) dNil))))
 (dSeq (dSet 5 (dOp ixD (dVar 2) (dVar 4)))
 (dSeq (dFor (iListD (dMeth A.Pairing "windows_for" (framed (sp_Pairing_windows_for A)) [] (dVar 0) (dCons (dVar 5) dNil))) (gdName 6)
 (dIf (dB (dOp (rInD not) (dVar 6) (dVar 3)))
 (dSeq (dAsg (dVar 5) (gdSub (dVar 3) (dVar 6)))
 (dSeq (dIf (dB (dOp (rInD not) (dVar 6) (dFld A.Pairing L_Pairing 3 (dVar 0))))
 (dSeq (dDrop (dMeth A.Pairing "turn_arrivals" (framed (sp_Pairing_turn_arrivals A)) [] (dVar 0) (dCons (dVar 6) (dCons (dVar 3) dNil))))
 (dRet (dC .non)))
 dPass)
 (dDrop (dBM "list" appD (dVar 2) (dCons (dOp ixD (dFld A.Pairing L_Pairing 3 (dVar 0)) (dVar 6)) dNil)))))
 dPass))
 (dAug 4 (dC (.int 1)) (dI0 fun i j => .int (i + j))))))
 (dRet (dCB (sortID false) (dCons (dVar 2) dNil)))))
def rd_Pairing_pairs (A : Ad) : TSD :=
 (dRet (dCB sortPD (dCons (itemsL (dFld A.Pairing L_Pairing 2 (dVar 0))) dNil)))
def rd_explained (A : Ad) : TSD :=
 (dSeq (dSet 2 (dMake A.Pairing L_Pairing (sp_Pairing___init__ A) [] (dCons (dVar 0) (dCons (dVar 1) dNil))))
 (dSeq (dFor (iEnumD (dFld A.Pairing L_Pairing 0 (dVar 2))) (gdTup 2 (gdCons (gdName 3) (gdCons (gdName 4) gdNil)))
 (dIf (dB (dProp A.Window (sp_Window_must A) (dVar 4)))
 (dSeq (dSet 5 (dMeth A.Pairing "place_window" (framed (sp_Pairing_place_window A)) [] (dVar 2) (dCons (dVar 3) dNil)))
 (dIf (dB (dOp (rIsND not) (dVar 5) (dC .non)))
 (dRet (dTup (dCons (dC (.str "missing")) (dCons (dVar 5) dNil))))
 dPass))
 dPass))
 (dSeq (dFor (iRng1D (dCB (one lenD) (dCons (dFld A.Pairing L_Pairing 1 (dVar 2)) dNil))) (gdName 3)
 (dSeq (dSet 5 (dIfE (dB (dOp (rInD not) (dVar 3) (dFld A.Pairing L_Pairing 2 (dVar 2)))) (dMeth A.Pairing "place_arrival" (framed (sp_Pairing_place_arrival A)) [] (dVar 2) (dCons (dVar 3) dNil)) (dC .non)))
 (dIf (dB (dOp (rIsND not) (dVar 5) (dC .non)))
 (dRet (dTup (dCons (dC (.str "too_many")) (dCons (dVar 5) dNil))))
 dPass)))
 (dRet (dTup (dCons (dC (.str "explained")) (dCons (dMeth A.Pairing "pairs" (framed (sp_Pairing_pairs A)) [] (dVar 2) dNil) dNil)))))))
def rd_most_explained (A : Ad) : TSD :=
 (dSeq (dSet 2 (dMake A.Pairing L_Pairing (sp_Pairing___init__ A) [] (dCons (dVar 0) (dCons (dVar 1) dNil))))
 (dSeq (dSet 3 (dDc (iRng1D (dCB (one lenD) (dCons (dFld A.Pairing L_Pairing 1 (dVar 2)) dNil))) (gdName 9) dYes (dVar 9) (dMeth A.Pairing "place_arrival" (framed (sp_Pairing_place_arrival A)) [] (dVar 2) (dCons (dVar 9) dNil)) [9]))
 (dSeq (dSet 4 (dLockE (dLcP (iKeysD (dVar 3)) (gdName 9) (dB (dOp (rInD not) (dVar 9) (dFld A.Pairing L_Pairing 2 (dVar 2)))) (dVar 9) [9])))
 (dSeq (dPar 6 7 (dCons (dLstP dNil) (dCons (dC (.int 0)) dNil)))
 (dSeq (dWhile (dB (dOp (rOrdD pLt qLt) (dVar 7) (dCB (one lenD) (dCons (dVar 4) dNil))))
 (dSeq (dFor (iListD (dMeth A.Pairing "windows_for" (framed (sp_Pairing_windows_for A)) [] (dVar 2) (dCons (dOp ixD (dVar 4) (dVar 7)) dNil))) (gdName 8)
 (dIf (dB (dOp (rInD not) (dVar 8) (dVar 6)))
 (dSeq (dDrop (dBM "list" appD (dVar 6) (dCons (dVar 8) dNil)))
 (dDrop (dBM "list" appD (dVar 4) (dCons (dOp ixD (dFld A.Pairing L_Pairing 3 (dVar 2)) (dVar 8)) dNil))))
 dPass))
 (dAug 7 (dC (.int 1)) (dI0 fun i j => .int (i + j)))))
 (dSeq (dSet 5 (dLc (iRng1D (dCB (one lenD) (dCons (dFld A.Pairing L_Pairing 1 (dVar 2)) dNil))) (gdName 9) (dB (dOp (rInD not) (dVar 9) (dVar 4))) (dVar 9) [9]))
 (dRet (dTup (dCons (dMeth A.Pairing "pairs" (framed (sp_Pairing_pairs A)) [] (dVar 2) dNil) (dCons (dCB (sortID false) (dCons (dVar 6) dNil)) (dCons (dVar 5) dNil)))))))))))
end AU
/-! PA1: the small defs of the audits. -/
namespace AU
open PySem PySem.Spec PyProof.Rows L2 DL
variable {A : Ad}
theorem pl_is_integer : Pl ["value", "low", "high"] (sp_is_integer A) (rd_is_integer A) := by
  rintro ds cs R Z hb hd ⟨v, lo, hi, rfl, h⟩
  refine ⟨.b "int", .b "int", true, rfl, rfl, rfl, brT ⟨.b "int", .b "bool", false, rfl, rfl, rfl, brT (br (fun e => ⟨_, _, .refl, ?_⟩) fun e => ⟨_, _, .refl, ?_⟩)⟩⟩
  · have : decide (lo ≤ v) = true := e
    rw [this] at h
    exact h
  · have : decide (lo ≤ v) = false := e
    rw [this] at h
    exact h
theorem pl_is_list : Pl ["value"] (sp_is_list A) (rd_is_list A) := by
  rintro ds cs R Z hb hd ⟨xs, rfl, h⟩
  refine ⟨by show 2 ≤ sizeLine; decide, .b "list", _, [.b "list", .b "tuple"], true, rfl, rfl, rfl, rfl, _, _, .refl, h⟩
theorem pl_is_arrival : Pl ["value"] (sp_is_arrival A) (rd_is_arrival A) := by
  rintro ds cs R Z hb hd ⟨a, rfl, h⟩
  refine ⟨.b "tuple", .b "tuple", true, rfl, rfl, rfl, brF ?_⟩
  refine brF ⟨_, rfl, .b "str", .b "str", true, rfl, rfl, rfl, brF ?_⟩
  refine ⟨_, rfl, .b "int", .b "int", true, rfl, rfl, rfl, brT ⟨_, rfl, .b "int", .b "bool", false, rfl, rfl, rfl, brT ⟨_, rfl, _, _, .refl, h⟩⟩⟩
theorem bsub {b : Bool} {k : Int} : True := trivial
theorem pl_Window___init__ : Pl ["self", "first", "last", "must", "label"] (sp_Window___init__ A) (rd_Window___init__ A) := by
  rintro ds cs R Z hb hd ⟨k, w, rfl, hk, ⟨h0, h1, h2⟩, h⟩
  have hkl := (List.getElem?_eq_some_iff.mp hk).1
  have t1 : (decide ((0 : Int) ≤ w.f) && decide (w.f ≤ 1000000)) = true := by rw [decide_eq_true h0, decide_eq_true (by omega)]; rfl
  have t2 : (decide (w.f ≤ w.l) && decide (w.l ≤ 1000000)) = true := by rw [decide_eq_true h1, decide_eq_true h2]; rfl
  refine ⟨_, _, _, rfl, ?_⟩
  show brn (!(decide ((0 : Int) ≤ w.f) && decide (w.f ≤ 1000000))) _ _
  rw [t1]
  refine brF ⟨_, _, _, rfl, ?_⟩
  show brn (!(decide (w.f ≤ w.l) && decide (w.l ≤ 1000000))) _ _
  rw [t2]
  refine brF ⟨.b "bool", .b "bool", true, rfl, rfl, rfl, brF ⟨.b "str", .b "str", true, rfl, rfl, rfl, brF ?_⟩⟩
  conv => whnf
  rw [hk]
  refine ⟨rfl, rfl, Nat.zero_le _, ?_⟩
  have at_ : ∀ (l : List D), (cs.set k (.ins A.Window L_Window l))[k]? = some (.ins A.Window L_Window l) := fun l => List.getElem?_set_self hkl
  conv => whnf
  rw [at_]
  refine ⟨rfl, rfl, Nat.le_refl 1, ?_⟩
  rw [List.set_set]
  conv => whnf
  rw [at_]
  refine ⟨rfl, rfl, Nat.le_refl 2, ?_⟩
  rw [List.set_set]
  conv => whnf
  rw [at_]
  refine ⟨rfl, rfl, Nat.le_refl 3, ?_⟩
  rw [List.set_set]
  exact ⟨_, _, .refl, h⟩
theorem pl_Window___contains__ : Pl ["self", "turn"] (sp_Window___contains__ A) (rd_Window___contains__ A) := by
  rintro ds cs R Z hb hd ⟨w, v, rfl, h⟩
  exact ⟨rfl, rfl, _, rfl, rfl, rfl, _, rfl, _, _, _, rfl, _, _, .refl, h⟩
theorem pl_Window_must : Pl ["self"] (sp_Window_must A) (rd_Window_must A) := by
  rintro ds cs R Z hb hd ⟨w, rfl, h⟩
  exact ⟨rfl, rfl, _, rfl, _, _, .refl, h⟩
theorem pl_Window_admits : Pl ["self", "arrival"] (sp_Window_admits A) (rd_Window_admits A) := by
  rintro ds cs R Z hb hd ⟨w, a, rfl, ha, h⟩
  refine ⟨a, rfl, ?_⟩
  show brn (!decide (0 ≤ a.t)) _ _
  rw [decide_eq_true (show 0 ≤ a.t from ha)]
  refine brF ⟨_, rfl, rfl, rfl, _, rfl, ?_⟩
  unfold adm at h
  refine br (fun e => ⟨_, rfl, rfl, w, a.t, rfl, _, _, .refl, ?_⟩) (fun e => ⟨_, _, .refl, ?_⟩)
  · have : decide (a.b = w.b) = true := e
    rw [this] at h
    exact h
  · have : decide (a.b = w.b) = false := e
    rw [this] at h
    exact h
theorem mem_at {α : Type} {f : α → D} {xs : List α} {i : Nat} {d : D} (h : (xs.map f)[i]? = some d) : ∃ x, xs[i]? = some x ∧ d = f x := by
  rw [List.getElem?_map] at h
  cases e : xs[i]? with
  | none => rw [e] at h; cases h
  | some x => rw [e] at h; cases h; exact ⟨x, rfl, rfl⟩
theorem pl_check_lists : Pl ["windows", "arrivals", "window", "arrival"] (sp_check_lists A) (rd_check_lists A) := by
  rintro ds cs R Z hb hd ⟨ws, as, rfl, I, h⟩
  refine ⟨_, rfl, brF ?_⟩
  show brn (decide ((60 : Int) < ((ws.map (dWin A)).length : Nat))) _ _
  have n1 : ¬ ((60 : Int) < ((ws.map (dWin A)).length : Nat)) := by rw [List.length_map]; have := I.lw; omega
  rw [decide_eq_false n1]
  refine brF ⟨fun i δ c => ∃ o, δ = [some (.lst (ws.map (dWin A))), some (.lst (as.map dArr)), o, none] ∧ c = cs, ⟨_, rfl, rfl⟩, fun _ _ _ _ => trivial, ?_, ?_⟩
  · rintro i d δ c hi ⟨o, rfl, rfl⟩ _
    obtain ⟨w, _, rfl⟩ := mem_at hi
    exact ⟨.o A.Window, .o A.Window, true, rfl, rfl, if_pos ⟨rfl, rfl⟩, brF ⟨_, _, .refl, _, rfl, rfl⟩⟩
  · rintro δ c ⟨o, rfl, rfl⟩
    refine ⟨_, rfl, brF ?_⟩
    show brn (decide ((60 : Int) < ((as.map dArr).length : Nat))) _ _
    have n2 : ¬ ((60 : Int) < ((as.map dArr).length : Nat)) := by rw [List.length_map]; have := I.la; omega
    rw [decide_eq_false n2]
    refine brF ⟨fun i δ c' => ∃ o', δ = [some (.lst (ws.map (dWin A))), some (.lst (as.map dArr)), o, o'] ∧ c' = c, ⟨_, rfl, rfl⟩, fun _ _ _ _ => trivial, ?_, ?_⟩
    · rintro i d δ c hi ⟨o', rfl, rfl⟩ _
      obtain ⟨a, ha, rfl⟩ := mem_at hi
      refine ⟨a, rfl, ?_⟩
      show brn (!decide (0 ≤ a.t)) _ _
      rw [decide_eq_true (show 0 ≤ a.t from I.ok a (List.mem_of_getElem? ha))]
      exact brF ⟨_, _, .refl, _, rfl, rfl⟩
    · rintro δ c' ⟨o', rfl, rfl⟩
      exact ⟨_, _, .refl, h⟩
theorem pl_Pairing___init__ : Pl ["self", "windows", "arrivals"] (sp_Pairing___init__ A) (rd_Pairing___init__ A) := by
  rintro ds cs R Z hb hd ⟨k, ws, as, rfl, I, hk, h⟩
  have hkl := (List.getElem?_eq_some_iff.mp hk).1
  refine ⟨ws, as, rfl, I, ?_⟩
  conv => whnf
  rw [hk]
  refine ⟨rfl, rfl, Nat.zero_le _, ?_⟩
  have at_ : ∀ (l : List D), (cs.set k (.ins A.Pairing L_Pairing l))[k]? = some (.ins A.Pairing L_Pairing l) := fun l => List.getElem?_set_self hkl
  conv => whnf
  rw [at_]
  refine ⟨rfl, rfl, Nat.le_refl 1, ?_⟩
  rw [List.set_set]
  conv => whnf
  rw [List.getElem?_append_left (by simpa using hkl), at_]
  refine ⟨rfl, rfl, Nat.le_refl 2, ?_⟩
  rw [List.set_append_left _ _ (by simpa using hkl), List.set_set]
  conv => whnf
  rw [List.append_assoc, List.getElem?_append_left (by simpa using hkl), at_]
  refine ⟨rfl, rfl, Nat.le_refl 3, ?_⟩
  rw [List.set_append_left _ _ (by simpa using hkl), List.set_set]
  refine ⟨_, _, .refl, ?_⟩
  have e1 : (cs.set k (Cel.ins A.Pairing L_Pairing [D.lst (ws.map (dWin A)), D.lst (as.map dArr)])).length = cs.length := by simp
  simp only [setA, List.length_set, List.length_append, List.length_singleton]
  exact h
theorem idxF_app {α : Type} {p : α → Bool} (x : α) : ∀ (xs : List α) (n : Nat), idxF p n (xs ++ [x]) = idxF p n xs ++ (if p x = true then [((n + xs.length : Nat) : Int)] else [])
  | [], n => by simp only [List.nil_append, idxF, List.length_nil, Nat.add_zero]
  | y :: xs, n => by
    have ih := idxF_app (p := p) x xs (n + 1)
    have e : n + 1 + xs.length = n + (y :: xs).length := by simp; omega
    show (if p y = true then (n : Int) :: idxF p (n + 1) (xs ++ [x]) else idxF p (n + 1) (xs ++ [x])) = (if p y = true then (n : Int) :: idxF p (n + 1) xs else idxF p (n + 1) xs) ++ _
    rw [ih, e]
    split <;> rfl
theorem take_snoc {α : Type} {xs : List α} {i : Nat} {x : α} (h : xs[i]? = some x) : xs.take (i + 1) = xs.take i ++ [x] := by
  rw [List.take_succ, h]; rfl
theorem pl_Pairing_arrivals_of : Pl ["self", "index", "place", "arrival"] (sp_Pairing_arrivals_of A) (rd_Pairing_arrivals_of A) := by
  rintro ds cs R Z hb hd ⟨ws, as, p, q, i, rfl, rfl, I, h0, h1, h⟩
  have hw : ws[i.toNat]? = some ws[i.toNat] := List.getElem?_eq_getElem (by omega)
  refine ⟨rfl, rfl, _, rfl, fun n acc c => acc = (idxF (fun a => adm ws[i.toNat] a) 0 (as.take n)).map .int ∧ c = [pC A ws as, mC p, mC q], ⟨rfl, rfl⟩, fun _ _ _ _ => trivial, ?_, ?_⟩
  · rintro n d acc c hn ⟨rfl, rfl⟩ _
    have hn1 : n < as.length := by have := (List.getElem?_eq_some_iff.mp hn).1; rw [enumD_len, List.length_map] at this; exact this
    have hn2 : as[n]? = some as[n] := List.getElem?_eq_getElem hn1
    have e2 := enumD_get (xs := as.map dArr) (i := n) (d := dArr as[n]) (by rw [List.getElem?_map, hn2]; rfl)
    rw [e2] at hn; cases hn
    refine ⟨rfl, rfl, rfl, rfl, _, rfl, dWin A ws[i.toNat], atI_pos h0 (by rw [List.getElem?_map, hw]; rfl), rfl, (by decide +kernel : ("admits" : Str) ∉ L_Window), _, _, rfl, I.ok _ (List.getElem_mem hn1), ?_⟩
    refine br (fun e => ⟨?_, _, _, .refl, trivial, ?_, rfl⟩) fun e => ⟨_, .refl, ?_, rfl⟩
    · have : (idxF (fun a => adm ws[i.toNat] a) 0 (as.take n)).length ≤ (as.take n).length := by
        have : ∀ (l : List Arr) (k : Nat), (idxF (fun a => adm ws[i.toNat] a) k l).length ≤ l.length := by
          intro l
          induction l with
          | nil => intro k; exact Nat.le_refl _
          | cons a l ih =>
            intro k
            unfold idxF
            split
            · have := ih (k + 1); simp; omega
            · have := ih (k + 1); simp; omega
        exact this _ _
      rw [List.length_map]
      have h2 := I.la
      have h3 : (as.take n).length ≤ as.length := by rw [List.length_take]; omega
      show _ < 2 ^ 24
      omega
    · rw [take_snoc hn2, idxF_app, List.map_append, if_pos e, List.length_take, Nat.min_eq_left (Nat.le_of_lt hn1), Nat.zero_add]
      rfl
    · rw [take_snoc hn2, idxF_app, List.map_append, if_neg (by rw [e]; exact Bool.false_ne_true)]
      simp
  · rintro acc c ⟨rfl, rfl⟩
    refine ⟨_, _, .refl, ?_⟩
    rw [enumD_len, List.length_map, List.take_length]
    have e : nbW ws as i = idxF (fun a => adm ws[i.toNat] a) 0 as := by
      unfold nbW
      rw [hw]
      exact if_pos h0
    rw [e] at h
    exact h
theorem pl_Pairing_windows_for : Pl ["self", "index", "place", "window"] (sp_Pairing_windows_for A) (rd_Pairing_windows_for A) := by
  rintro ds cs R Z hb hd ⟨ws, as, p, q, i, rfl, rfl, I, h0, h1, h⟩
  have hw : as[i.toNat]? = some as[i.toNat] := List.getElem?_eq_getElem (by omega)
  refine ⟨rfl, rfl, _, rfl, fun n acc c => acc = (idxF (fun w => adm w as[i.toNat]) 0 (ws.take n)).map .int ∧ c = [pC A ws as, mC p, mC q], ⟨rfl, rfl⟩, fun _ _ _ _ => trivial, ?_, ?_⟩
  · rintro n d acc c hn ⟨rfl, rfl⟩ _
    have hn1 : n < ws.length := by have := (List.getElem?_eq_some_iff.mp hn).1; rw [enumD_len, List.length_map] at this; exact this
    have hn2 : ws[n]? = some ws[n] := List.getElem?_eq_getElem hn1
    have e2 := enumD_get (xs := ws.map (dWin A)) (i := n) (d := dWin A ws[n]) (by rw [List.getElem?_map, hn2]; rfl)
    rw [e2] at hn; cases hn
    refine ⟨rfl, rfl, rfl, (by decide +kernel : ("admits" : Str) ∉ L_Window), rfl, rfl, _, rfl, dArr as[i.toNat], atI_pos h0 (by rw [List.getElem?_map, hw]; rfl), _, _, rfl, I.ok _ (List.getElem_mem (by omega)), ?_⟩
    refine br (fun e => ⟨?_, _, _, .refl, trivial, ?_, rfl⟩) fun e => ⟨_, .refl, ?_, rfl⟩
    · have : (idxF (fun w => adm w as[i.toNat]) 0 (ws.take n)).length ≤ (ws.take n).length := by
        have : ∀ (l : List Win) (k : Nat), (idxF (fun w => adm w as[i.toNat]) k l).length ≤ l.length := by
          intro l
          induction l with
          | nil => intro k; exact Nat.le_refl _
          | cons a l ih =>
            intro k
            unfold idxF
            split
            · have := ih (k + 1); simp; omega
            · have := ih (k + 1); simp; omega
        exact this _ _
      rw [List.length_map]
      have h2 := I.lw
      have h3 : (ws.take n).length ≤ ws.length := by rw [List.length_take]; omega
      show _ < 2 ^ 24
      omega
    · rw [take_snoc hn2, idxF_app, List.map_append, if_pos e, List.length_take, Nat.min_eq_left (Nat.le_of_lt hn1), Nat.zero_add]
      rfl
    · rw [take_snoc hn2, idxF_app, List.map_append, if_neg (by rw [e]; exact Bool.false_ne_true)]
      simp
  · rintro acc c ⟨rfl, rfl⟩
    refine ⟨_, _, .refl, ?_⟩
    rw [enumD_len, List.length_map, List.take_length]
    have e : nbA ws as i = idxF (fun w => adm w as[i.toNat]) 0 ws := by
      unfold nbA
      rw [hw]
      exact if_pos h0
    rw [e] at h
    exact h
theorem mC_put (p : PM) (k v : Int) : Cel.dK (putG (p.map fun e => ((Sum.inl e.1 : Key), D.int e.2)) (.inl k) (.int v)) = mC (putG p k v) := by
  unfold mC
  rw [putG_map (f := D.int) (g := Sum.inl) inl_inj]
theorem pl_Pairing_pair : Pl ["self", "arrival", "window"] (sp_Pairing_pair A) (rd_Pairing_pair A) := by
  rintro ds cs R Z hb hd ⟨ws, as, p, q, a, w, rfl, rfl, h1, h2, h⟩
  refine ⟨rfl, rfl, _, rfl, ?_⟩
  refine ⟨by rw [List.length_map]; show _ < 2 ^ 24; omega, ?_⟩
  rw [mC_put]
  refine ⟨rfl, rfl, _, rfl, ?_⟩
  refine ⟨by rw [List.length_map]; show _ < 2 ^ 24; omega, ?_⟩
  rw [mC_put]
  exact ⟨_, _, .refl, h⟩
theorem pairK_I (p : PM) : (p.map fun e => ((Sum.inl e.1 : Key), D.int e.2)).map pairK = p.map pairI := by
  rw [List.map_map]
  rfl
theorem pl_Pairing_pairs : Pl ["self"] (sp_Pairing_pairs A) (rd_Pairing_pairs A) := by
  rintro ds cs R Z hb hd ⟨ws, as, p, q, rfl, rfl, h⟩
  refine ⟨rfl, rfl, _, rfl, ?_⟩
  refine ⟨p, pairK_I p, fun ps h1 h2 => ⟨_, _, .refl, h ps h1 h2⟩⟩
end AU
/-! PA2: pairings: what a way back makes, what a search knows. -/
namespace AU
open PySem PySem.Spec PyProof.Rows L2 DL
/-! ### maps -/
section
variable {β : Type}
theorem val_nil {k : Int} : valG ([] : List (Int × β)) k = none := rfl
theorem val_cons {a : Int} {b : β} {p : List (Int × β)} {k : Int} : valG ((a, b) :: p) k = if a = k then some b else valG p k := by
  unfold valG
  by_cases h : a = k <;> simp [h]
theorem val_none {p : List (Int × β)} {k : Int} : valG p k = none ↔ k ∉ p.map Prod.fst := by
  induction p with
  | nil => simp [val_nil]
  | cons e p ih =>
    obtain ⟨a, b⟩ := e
    rw [val_cons]
    by_cases h : a = k
    · subst h; simp
    · rw [if_neg h, ih]
      simp
      intro _ e
      exact absurd e.symm h
theorem val_some {p : List (Int × β)} (nd : (p.map Prod.fst).Nodup) {k : Int} {v : β} : valG p k = some v ↔ (k, v) ∈ p := by
  induction p with
  | nil => simp [val_nil]
  | cons e p ih =>
    obtain ⟨a, b⟩ := e
    have nd' := List.nodup_cons.mp nd
    rw [val_cons]
    by_cases h : a = k
    · subst h
      rw [if_pos rfl]
      constructor
      · intro e; cases e; exact List.mem_cons_self
      · intro e
        rcases List.mem_cons.mp e with e | e
        · cases e; rfl
        · exact absurd (List.mem_map.mpr ⟨_, e, rfl⟩) nd'.1
    · rw [if_neg h, ih nd'.2]
      constructor
      · exact List.mem_cons_of_mem _
      · intro e
        rcases List.mem_cons.mp e with e | e
        · cases e; exact absurd rfl h
        · exact e
theorem put_keys {p : List (Int × β)} {k : Int} {v : β} : (putG p k v).map Prod.fst = if k ∈ p.map Prod.fst then p.map Prod.fst else p.map Prod.fst ++ [k] := by
  unfold putG
  have h : (p.any fun kv => decide (kv.1 = k)) = true ↔ k ∈ p.map Prod.fst := by
    rw [List.any_eq_true, List.mem_map]
    constructor
    · rintro ⟨x, hx, e⟩; exact ⟨x, hx, of_decide_eq_true e⟩
    · rintro ⟨x, hx, e⟩; exact ⟨x, hx, decide_eq_true e⟩
  by_cases hk : k ∈ p.map Prod.fst
  · rw [if_pos (h.mpr hk), if_pos hk, List.map_map]
    refine List.map_congr_left fun a _ => ?_
    simp only [Function.comp]
    split <;> rfl
  · rw [if_neg (fun z => hk (h.mp z)), if_neg hk]
    simp
theorem put_val {p : List (Int × β)} {k : Int} {v : β} {k' : Int} : valG (putG p k v) k' = if k = k' then some v else valG p k' := by
  unfold putG
  by_cases h : (p.any fun kv => decide (kv.1 = k)) = true
  · rw [if_pos h]
    induction p with
    | nil => simp at h
    | cons e p ih =>
      obtain ⟨a, b⟩ := e
      rw [List.map_cons]
      by_cases ha : a = k
      · subst ha
        rw [if_pos rfl, val_cons, val_cons]
        by_cases hk : a = k'
        · rw [if_pos hk, if_pos hk]
        · rw [if_neg hk, if_neg hk, if_neg hk]
          have key : ∀ p : List (Int × β), valG (p.map fun kv => if kv.1 = a then (kv.1, v) else kv) k' = valG p k' := by
            intro p
            induction p with
            | nil => rfl
            | cons e p ih =>
              obtain ⟨c, d⟩ := e
              rw [List.map_cons]
              by_cases hc : c = a
              · rw [if_pos hc, val_cons, val_cons, ih]
                have : ¬ c = k' := fun e => hk (hc ▸ e)
                simp only
                rw [if_neg this, if_neg this]
              · rw [if_neg hc, val_cons, val_cons, ih]
          exact key p
      · rw [if_neg ha, val_cons, val_cons]
        have h' : (p.any fun kv => decide (kv.1 = k)) = true := by
          rw [List.any_cons, decide_eq_false ha, Bool.false_or] at h
          exact h
        rw [ih h']
        by_cases hk : a = k'
        · rw [if_pos hk, if_pos hk, if_neg fun e => ha (hk.trans e.symm)]
        · rw [if_neg hk, if_neg hk]
  · rw [if_neg h]
    induction p with
    | nil => rw [List.nil_append, val_cons]
    | cons e p ih =>
      obtain ⟨a, b⟩ := e
      rw [List.any_cons, Bool.or_eq_true, not_or] at h
      have ha : ¬ a = k := fun e => h.1 (decide_eq_true e)
      rw [List.cons_append, val_cons, val_cons, ih h.2]
      by_cases hk : a = k'
      · rw [if_pos hk, if_pos hk, if_neg fun e => ha (hk.trans e.symm)]
      · rw [if_neg hk, if_neg hk]
theorem put_nd {p : List (Int × β)} {k : Int} {v : β} (h : (p.map Prod.fst).Nodup) : ((putG p k v).map Prod.fst).Nodup := by
  rw [put_keys]
  split
  · exact h
  · rename_i hk
    exact List.nodup_append.mpr ⟨h, by simp, fun a ha b hb e => by
      have : b = k := by simpa using hb
      subst this; subst e; exact hk ha⟩
theorem put_len {p : List (Int × β)} {k : Int} {v : β} : (putG p k v).length ≤ p.length + 1 := by
  have := congrArg List.length (put_keys (p := p) (k := k) (v := v))
  rw [List.length_map] at this
  rw [this]
  split <;> simp
end
theorem puts_val : ∀ (path : List (Int × Int)) (p : PM) (x : Int), (path.map Prod.fst).Nodup → valG (puts p path) x = (valG path x).or (valG p x)
  | [], p, x, _ => rfl
  | (a, b) :: r, p, x, nd => by
    have nd' := List.nodup_cons.mp nd
    show valG (puts (putG p a b) r) x = _
    rw [puts_val r _ x nd'.2, put_val, val_cons]
    by_cases h : a = x
    · subst h
      rw [if_pos rfl, if_pos rfl, val_none.mpr nd'.1]
      rfl
    · rw [if_neg h, if_neg h]
theorem puts_nd : ∀ (path : List (Int × Int)) (p : PM), (p.map Prod.fst).Nodup → ((puts p path).map Prod.fst).Nodup
  | [], p, h => h
  | (a, b) :: r, p, h => puts_nd r _ (put_nd h)
theorem putsB_eq : ∀ (path : List (Int × Int)) (q : PM), putsB q path = puts q (path.map Prod.swap)
  | [], q => rfl
  | (a, b) :: r, q => putsB_eq r _
theorem puts_len : ∀ (path : List (Int × Int)) (p : PM), (puts p path).length ≤ p.length + path.length
  | [], p => Nat.le_refl _
  | (a, b) :: r, p => by
    have := puts_len r (putG p a b)
    have h := put_len (p := p) (k := a) (v := b)
    show (puts (putG p a b) r).length ≤ p.length + (r.length + 1)
    omega
theorem swap_fst (path : List (Int × Int)) : (path.map Prod.swap).map Prod.fst = path.map Prod.snd := by rw [List.map_map]; rfl
theorem mem_swap {path : List (Int × Int)} {x y : Int} : (y, x) ∈ path.map Prod.swap ↔ (x, y) ∈ path := by
  rw [List.mem_map]
  constructor
  · rintro ⟨⟨a, b⟩, h, e⟩; cases e; exact h
  · intro h; exact ⟨_, h, rfl⟩
/-! ### the way back -/
section
variable {nb : Int → List Int} {p q came : PM}
theorem chain_head {x : Int} : ∀ {path : List (Int × Int)}, Chain came q x path → ∃ y r, path = (x, y) :: r
  | [], h => h.elim
  | (x', y) :: r, h => ⟨y, r, by rw [h.1]⟩
theorem chain_tail {x y : Int} {r : List (Int × Int)} (h : Chain came q x ((x, y) :: r)) : valG came x = some y ∧ ((r = [] ∧ valG q y = none) ∨ ∃ b, valG q y = some b ∧ Chain came q b r) := h.2
theorem chain_c1 : ∀ {path : List (Int × Int)} {x : Int}, Chain came q x path → ∀ e ∈ path, valG q e.2 = none ∨ ∃ e' ∈ path, valG q e.2 = some e'.1
  | [], x, h => h.elim
  | (x', y) :: r, x, h => by
    have ex : x' = x := h.1
    subst ex
    obtain ⟨_, h2⟩ := chain_tail h
    intro e he
    rcases h2 with ⟨rfl, h2⟩ | ⟨b, h2, h3⟩
    · have : e = (x', y) := by simpa using he
      subst this; exact .inl h2
    · rcases List.mem_cons.mp he with rfl | he
      · obtain ⟨y2, r2, rfl⟩ := chain_head h3
        exact .inr ⟨(b, y2), by simp, h2⟩
      · rcases chain_c1 h3 e he with z | ⟨e', m, z⟩
        · exact .inl z
        · exact .inr ⟨e', List.mem_cons_of_mem _ m, z⟩
theorem chain_c2 : ∀ {path : List (Int × Int)} {x : Int}, Chain came q x path → ∀ e ∈ path, e.1 = x ∨ ∃ e' ∈ path, valG q e'.2 = some e.1
  | [], x, h => h.elim
  | (x', y) :: r, x, h => by
    have ex : x' = x := h.1
    subst ex
    obtain ⟨_, h2⟩ := chain_tail h
    intro e he
    rcases h2 with ⟨rfl, h2⟩ | ⟨b, h2, h3⟩
    · have : e = (x', y) := by simpa using he
      subst this; exact .inl rfl
    · rcases List.mem_cons.mp he with rfl | he
      · exact .inl rfl
      · rcases chain_c2 h3 e he with z | ⟨e', m, z⟩
        · exact .inr ⟨(x', y), by simp, by rw [z]; exact h2⟩
        · exact .inr ⟨e', List.mem_cons_of_mem _ m, z⟩
theorem chain_c3 : ∀ {path : List (Int × Int)} {x : Int}, Chain came q x path → ∃ e ∈ path, valG q e.2 = none
  | [], x, h => h.elim
  | (x', y) :: r, x, h => by
    have ex : x' = x := h.1
    subst ex
    obtain ⟨_, h2⟩ := chain_tail h
    rcases h2 with ⟨rfl, h2⟩ | ⟨b, h2, h3⟩
    · exact ⟨_, List.mem_cons_self, h2⟩
    · obtain ⟨e, m, z⟩ := chain_c3 h3
      exact ⟨e, List.mem_cons_of_mem _ m, z⟩
theorem chain_nd (iff : ∀ x y, valG p x = some y ↔ valG q y = some x) : ∀ {path : List (Int × Int)} {x : Int}, Chain came q x path → (path.map Prod.snd).Nodup → (∀ e ∈ path, valG q e.2 ≠ some x) → (path.map Prod.fst).Nodup
  | [], x, h, _, _ => h.elim
  | (x', y) :: r, x, h, nd, hx => by
    have ex : x' = x := h.1
    subst ex
    obtain ⟨_, h2⟩ := chain_tail h
    have nd' := List.nodup_cons.mp nd
    rcases h2 with ⟨rfl, h2⟩ | ⟨b, h2, h3⟩
    · simp
    · have hb : ∀ e ∈ r, valG q e.2 ≠ some b := fun e he z => by
        have z1 := (iff b e.2).mpr z
        rw [(iff b y).mpr h2] at z1
        cases z1
        exact nd'.1 (List.mem_map.mpr ⟨e, he, rfl⟩)
      refine List.nodup_cons.mpr ⟨fun m => ?_, chain_nd iff h3 nd'.2 hb⟩
      obtain ⟨e, he, ee⟩ := List.mem_map.mp m
      have ee' : e.1 = x' := ee
      rcases chain_c2 h3 e he with z | ⟨e', m', z⟩
      · exact hx (x', y) List.mem_cons_self (by rw [h2, ← z, ee'])
      · exact hx e' (List.mem_cons_of_mem _ m') (by rw [z, ee'])
theorem chain_out {R : List Int} (iff : ∀ x y, valG p x = some y ↔ valG q y = some x) (cl : Closed nb p R) : ∀ {path : List (Int × Int)} {x : Int}, Chain came q x path → (∀ e ∈ path, e.1 ∈ nb e.2) → (∀ y', valG p x = some y' → y' ∉ R) → ∀ e ∈ path, e.2 ∉ R
  | [], x, h, _, _ => h.elim
  | (x', y) :: r, x, h, ed, hx => by
    have ex : x' = x := h.1
    subst ex
    obtain ⟨_, h2⟩ := chain_tail h
    have hy : y ∉ R := fun m => by
      obtain ⟨y', m', z⟩ := cl y m x' (ed _ List.mem_cons_self)
      exact hx y' z m'
    intro e he
    rcases h2 with ⟨rfl, h2⟩ | ⟨b, h2, h3⟩
    · have : e = (x', y) := by simpa using he
      subst this; exact hy
    · rcases List.mem_cons.mp he with rfl | he
      · exact hy
      · refine chain_out iff cl h3 (fun e he => ed e (List.mem_cons_of_mem _ he)) (fun y' z => ?_) e he
        rw [(iff b y).mpr h2] at z
        cases z
        exact hy
/-- pairing along a way back -/
theorem grown {x r : Int} {path : List (Int × Int)} (M : Mt nb p q) (hx : valG p x = none) (hr : valG q r = none) (h : Chain came q x path) (nd : (path.map Prod.snd).Nodup) (ed : ∀ e ∈ path, e.1 ∈ nb e.2) (rt : ∀ e ∈ path, e.2 = r ∨ valG q e.2 ≠ none) :
    Grown nb p q r (puts p path) (putsB q path) := by
  have c1 := chain_c1 h
  have c2 := chain_c2 h
  have ndx := chain_nd M.iff h nd fun e _ z => by
    rw [(M.iff x e.2).mpr z] at hx; cases hx
  have vp : ∀ x', valG (puts p path) x' = (valG path x').or (valG p x') := fun x' => puts_val path p x' ndx
  have nds : ((path.map Prod.swap).map Prod.fst).Nodup := by rw [swap_fst]; exact nd
  have vq : ∀ y, valG (putsB q path) y = (valG (path.map Prod.swap) y).or (valG q y) := fun y => by rw [putsB_eq, puts_val _ _ _ nds]
  -- who stays
  have stayX : ∀ {x' y'}, valG p x' = some y' → y' ∉ path.map Prod.snd → valG path x' = none := fun {x' y'} e hy => by
    cases e2 : valG path x' with
    | none => rfl
    | some y1 =>
      have m := (val_some ndx).mp e2
      rcases c2 _ m with z | ⟨e', m', z⟩
      · have z' : x' = x := z
        rw [z', hx] at e; cases e
      · rw [(M.iff x' e'.2).mpr z] at e
        cases e
        exact absurd (List.mem_map.mpr ⟨e', m', rfl⟩) hy
  have stayY : ∀ {x' y'}, valG q y' = some x' → x' ∉ path.map Prod.fst → valG (path.map Prod.swap) y' = none := fun {x' y'} e hy => by
    cases e2 : valG (path.map Prod.swap) y' with
    | none => rfl
    | some x1 =>
      have m := mem_swap.mp ((val_some nds).mp e2)
      rcases c1 _ m with z | ⟨e', m', z⟩
      · have z' : valG q y' = none := z
        rw [z'] at e; cases e
      · have z' : valG q y' = some e'.1 := z
        rw [z'] at e; cases e
        exact absurd (List.mem_map.mpr ⟨e', m', rfl⟩) hy
  refine ⟨⟨puts_nd path p M.kp, by rw [putsB_eq]; exact puts_nd _ q M.kq, fun x' y' => ?_, fun x' y' e => ?_⟩, fun y => ?_, fun x' e => ?_, fun R cl y hy x' hx' => ?_⟩
  · rw [vp, vq]
    constructor
    · intro e
      cases e1 : valG path x' with
      | some y1 =>
        rw [e1] at e; cases e
        rw [(val_some nds).mpr (mem_swap.mpr ((val_some ndx).mp e1))]
        rfl
      | none =>
        rw [e1] at e
        have e' : valG p x' = some y' := e
        have eq := (M.iff x' y').mp e'
        rw [stayY eq (val_none.mp e1)]
        exact eq
    · intro e
      cases e1 : valG (path.map Prod.swap) y' with
      | some x1 =>
        rw [e1] at e; cases e
        rw [(val_some ndx).mpr (mem_swap.mp ((val_some nds).mp e1))]
        rfl
      | none =>
        rw [e1] at e
        have e' : valG q y' = some x' := e
        have ep := (M.iff x' y').mpr e'
        have hy := val_none.mp e1
        rw [swap_fst] at hy
        rw [stayX ep hy]
        exact ep
  · rw [vp] at e
    cases e1 : valG path x' with
    | some y1 =>
      rw [e1] at e; cases e
      exact ed _ ((val_some ndx).mp e1)
    | none =>
      rw [e1] at e
      exact M.ed x' y' e
  · rw [vq]
    constructor
    · intro e
      cases e1 : valG (path.map Prod.swap) y with
      | some x1 =>
        have m := mem_swap.mp ((val_some nds).mp e1)
        rcases rt _ m with z | z
        · exact .inr z
        · exact .inl z
      | none => rw [e1] at e; exact .inl e
    · rintro (e | e)
      · cases e1 : valG (path.map Prod.swap) y with
        | some x1 => exact fun z => nomatch z
        | none => exact e
      · obtain ⟨e0, m0, z0⟩ := chain_c3 h
        have : e0.2 = r := (rt e0 m0).resolve_right fun n => n z0
        rw [(val_some nds).mpr (mem_swap.mpr (show (e0.1, y) ∈ path by rw [e, ← this]; exact m0))]
        exact fun z => nomatch z
  · rw [vp]
    cases e1 : valG path x' with
    | some y1 => exact fun z => nomatch z
    | none => exact e
  · obtain ⟨y', m', e⟩ := cl y hy x' hx'
    refine ⟨y', m', ?_⟩
    have out := chain_out M.iff cl h ed (fun y' z => by rw [hx] at z; cases z)
    rw [vp, stayX e fun m => ?_]
    · exact e
    · obtain ⟨e', he', ee⟩ := List.mem_map.mp m
      exact out e' he' (by rw [ee]; exact m')
end
/-! ### the search -/
/-- what is found from y: back to the root -/
def Bk (came q : PM) (y : Int) : List (Int × Int) → Prop
  | [] => valG q y = none
  | (b, y2) :: r => valG q y = some b ∧ Chain came q b ((b, y2) :: r)
structure Srch (nb : Int → List Int) (p q : PM) (r m : Int) (reached : List Int) (came : PM) : Prop where
  nd : reached.Nodup
  root : r ∈ reached
  rng : ∀ y ∈ reached, 0 ≤ y ∧ y < m
  cm : ∀ x y, valG came x = some y → ∃ y' ∈ reached, valG p x = some y'
  ch : ∀ y ∈ reached, ∃ path, Bk came q y path ∧ (y :: path.map Prod.snd).Nodup ∧ (∀ e ∈ path, e.2 ∈ reached ∧ e.1 ∈ nb e.2)
  mem : ∀ y ∈ reached, y = r ∨ valG q y ≠ none
  un : ∀ y ∈ reached, ∀ x, valG q y = some x → valG came x ≠ none
section
variable {nb : Int → List Int} {p q came : PM} {r m : Int} {reached : List Int}
theorem Srch.start (hr : valG q r = none) (h0 : 0 ≤ r) (hm : r < m) : Srch nb p q r m [r] [] where
  nd := by simp
  root := by simp
  rng := fun y hy => by have : y = r := by simpa using hy
                        subst this; exact ⟨h0, hm⟩
  cm := fun x y e => by cases e
  ch := fun y hy => by
    have : y = r := by simpa using hy
    subst this
    exact ⟨[], hr, by simp, fun e he => by cases he⟩
  mem := fun y hy => .inl (by simpa using hy)
  un := fun y hy x e => by
    have : y = r := by simpa using hy
    subst this
    rw [hr] at e; cases e
theorem chain_ext {came' : PM} (h : ∀ x y, valG came x = some y → valG came' x = some y) : ∀ {path : List (Int × Int)} {x : Int}, Chain came q x path → Chain came' q x path
  | [], x, c => c
  | (x', y) :: r, x, ⟨c1, c2, c3⟩ => ⟨c1, h _ _ c2, c3.imp id fun ⟨b, e, c⟩ => ⟨b, e, chain_ext h c⟩⟩
theorem bk_ext {came' : PM} (h : ∀ x y, valG came x = some y → valG came' x = some y) {y : Int} : ∀ {path : List (Int × Int)}, Bk came q y path → Bk came' q y path
  | [], b => b
  | (_, _) :: _, b => ⟨b.1, chain_ext h b.2⟩
/-- a new x whose other end was reached: the way back -/
theorem Srch.way (S : Srch nb p q r m reached came) {x y : Int} (hy : y ∈ reached) (hx : x ∈ nb y) (hc : valG came x = none) :
    ∃ path, Chain (putG came x y) q x ((x, y) :: path) ∧ (((x, y) :: path).map Prod.snd).Nodup ∧ ∀ e ∈ (x, y) :: path, e.2 ∈ reached ∧ e.1 ∈ nb e.2 := by
  have ext : ∀ x' y', valG came x' = some y' → valG (putG came x y) x' = some y' := fun x' y' e => by
    rw [put_val, if_neg fun z => by subst z; rw [hc] at e; cases e]
    exact e
  obtain ⟨path, b, nd, all⟩ := S.ch y hy
  have b' := bk_ext ext b
  refine ⟨path, ⟨rfl, by rw [put_val, if_pos rfl], ?_⟩, nd, fun e he => ?_⟩
  · cases path with
    | nil => exact .inl ⟨rfl, b'⟩
    | cons e r' => obtain ⟨b0, y2⟩ := e; exact .inr ⟨b0, b'⟩
  · rcases List.mem_cons.mp he with rfl | he
    · exact ⟨hy, hx⟩
    · exact all e he
theorem Srch.step (S : Srch nb p q r m reached came) (M : Mt nb p q) (hnb : ∀ y x, x ∈ nb y → 0 ≤ y ∧ y < m) {x y y' : Int} (hy : y ∈ reached) (hx : x ∈ nb y) (hc : valG came x = none) (hp : valG p x = some y') :
    Srch nb p q r m (reached ++ [y']) (putG came x y) := by
  have ext : ∀ x' y', valG came x' = some y' → valG (putG came x y) x' = some y' := fun x' y' e => by
    rw [put_val, if_neg fun z => by subst z; rw [hc] at e; cases e]
    exact e
  have hq := (M.iff x y').mp hp
  have new : y' ∉ reached := fun m => S.un y' m x hq hc
  have mono : ∀ z ∈ reached, z ∈ reached ++ [y'] := fun z hz => List.mem_append_left _ hz
  have last : ∀ z ∈ reached ++ [y'], z ∈ reached ∨ z = y' := fun z hz => by simpa using hz
  refine ⟨List.nodup_append.mpr ⟨S.nd, by simp, fun a ha b hb e => ?_⟩, mono _ S.root, fun z hz => ?_, fun x' z e => ?_, fun z hz => ?_, fun z hz => ?_, fun z hz x' e => ?_⟩
  · have : b = y' := by simpa using hb
    subst this; subst e; exact new ha
  · rcases last z hz with h | rfl
    · exact S.rng z h
    · exact hnb _ _ (M.ed x z hp)
  · rw [put_val] at e
    by_cases h : x = x'
    · subst h
      exact ⟨y', by simp, hp⟩
    · rw [if_neg h] at e
      obtain ⟨y1, m1, e1⟩ := S.cm x' z e
      exact ⟨y1, mono _ m1, e1⟩
  · rcases last z hz with h | rfl
    · obtain ⟨path, b, nd, all⟩ := S.ch z h
      exact ⟨path, bk_ext ext b, nd, fun e he => ⟨mono _ (all e he).1, (all e he).2⟩⟩
    · obtain ⟨path, c, nd, all⟩ := S.way hy hx hc
      refine ⟨(x, y) :: path, ⟨hq, c⟩, List.nodup_cons.mpr ⟨fun h => ?_, nd⟩, fun e he => ⟨mono _ (all e he).1, (all e he).2⟩⟩
      obtain ⟨e, he, ee⟩ := List.mem_map.mp h
      exact new (by rw [← ee]; exact (all e he).1)
  · rcases last z hz with h | rfl
    · exact S.mem z h
    · exact .inr (by rw [hq]; exact fun z => nomatch z)
  · rw [put_val]
    by_cases h : x = x'
    · rw [if_pos h]; exact fun z => nomatch z
    · rw [if_neg h]
      rcases last z hz with h' | rfl
      · exact S.un z h' x' e
      · rw [hq] at e; cases e; exact absurd rfl h
theorem Srch.found (S : Srch nb p q r m reached came) (M : Mt nb p q) (hr : valG q r = none) {x y : Int} (hy : y ∈ reached) (hx : x ∈ nb y) (hc : valG came x = none) (hp : valG p x = none) :
    ∃ path, Chain (putG came x y) q x path ∧ (path.map Prod.snd).Nodup ∧ (∀ e ∈ path, e.2 ∈ reached) ∧ Grown nb p q r (puts p path) (putsB q path) := by
  obtain ⟨path, c, nd, all⟩ := S.way hy hx hc
  exact ⟨_, c, nd, fun e he => (all e he).1, grown M hp hr c nd (fun e he => (all e he).2) fun e he => S.mem _ (all e he).1⟩
theorem Srch.stuck (S : Srch nb p q r m reached came) (hd : ∀ y ∈ reached, ∀ x ∈ nb y, valG came x ≠ none) {F : List Int} (hF : F.Perm reached) : Stuck nb p q r F where
  nd := hF.nodup_iff.mpr S.nd
  root := hF.mem_iff.mpr S.root
  cl := fun y hy x hx => by
    cases e : valG came x with
    | none => exact absurd e (hd y (hF.mem_iff.mp hy) x hx)
    | some z =>
      obtain ⟨y', m', e'⟩ := S.cm x z e
      exact ⟨y', hF.mem_iff.mpr m', e'⟩
  mem := fun y hy => S.mem y (hF.mem_iff.mp hy)
end
theorem nd_sub {α : Type} [BEq α] [LawfulBEq α] : ∀ {l l' : List α}, l.Nodup → l ⊆ l' → l.length ≤ l'.length
  | [], l', _, _ => Nat.zero_le _
  | a :: l, l', nd, h => by
    have nd' := List.nodup_cons.mp nd
    have ha : a ∈ l' := h List.mem_cons_self
    have ih := nd_sub (l := l) (l' := l'.erase a) nd'.2 fun x hx => by
      have hne : x ≠ a := fun e => nd'.1 (e ▸ hx)
      exact (List.mem_erase_of_ne hne).mpr (h (List.mem_cons_of_mem _ hx))
    have := List.length_erase_of_mem ha
    have h0 : 0 < l'.length := List.length_pos_of_mem ha
    simp
    omega
/-- different whole numbers of a range -/
theorem nd_range {m : Int} : ∀ {l : List Int}, l.Nodup → (∀ y ∈ l, 0 ≤ y ∧ y < m) → (l.length : Int) ≤ m ∨ l = [] := by
  intro l nd h
  cases l with
  | nil => exact .inr rfl
  | cons a l =>
    refine .inl ?_
    have hm : 0 ≤ m := by have := h a List.mem_cons_self; omega
    have key : (a :: l).map Int.toNat ⊆ List.range m.toNat := fun x hx => by
      obtain ⟨y, hy, e⟩ := List.mem_map.mp hx
      have := h y hy
      rw [List.mem_range]; omega
    have nd2 : ((a :: l).map Int.toNat).Nodup := by
      refine List.pairwise_map.mpr (nd.imp_of_mem fun {x y} hx hy hne e => hne ?_)
      have h1 := h x hx
      have h2 := h y hy
      omega
    have := nd_sub nd2 key
    simp at this
    simp
    omega
theorem nd_len {m : Int} {n : Nat} {l : List Int} (nd : l.Nodup) (h : ∀ y ∈ l, 0 ≤ y ∧ y < m) (hm : m ≤ n) : l.length ≤ n := by
  rcases nd_range nd h with z | z
  · omega
  · subst z; simp
end AU
/-! PA3: the turns. -/
namespace AU
open PySem PySem.Spec PyProof.Rows L2 DL
variable {A : Ad}
theorem bd_pC {ws : List Win} {as : List Arr} {n : Nat} (h : 3 ≤ n) : BdC n (pC A ws as) :=
  ⟨bds_map (f := dWin A) (fun w => ⟨trivial, trivial, trivial, trivial, trivial⟩) ws, bds_map (f := dArr) (fun a => ⟨trivial, trivial, trivial⟩) as, by show 1 < n; omega, by show 2 < n; omega, trivial⟩
theorem bd_mC {p : PM} {n : Nat} : BdC n (mC p) := bdK_map (f := fun e : Int × Int => ((Sum.inl e.1 : Key), D.int e.2)) (fun _ => trivial) p
theorem bd_all {ws : List Win} {as : List Arr} {p q : PM} : ∀ c ∈ [pC A ws as, mC p, mC q], BdC 3 c := by
  intro c hc
  simp only [List.mem_cons, List.not_mem_nil, or_false] at hc
  rcases hc with rfl | rfl | rfl
  · exact bd_pC (Nat.le_refl _)
  · exact bd_mC
  · exact bd_mC
theorem mono_pair {ds : List D} {cs : Cs} {R R' : QD} {Z Z' : XD} (h : ∀ d c, R d c → R' d c) : sp_Pairing_pair A ds cs R Z → sp_Pairing_pair A ds cs R' Z' :=
  fun ⟨ws, as, p, q, a, w, e1, e2, h1, h2, r⟩ => ⟨ws, as, p, q, a, w, e1, e2, h1, h2, h _ _ r⟩
theorem fr_pair {ws : List Win} {as : List Arr} {p q : PM} {a w : Int} {extra : Cs} {R : QD} {Z : XD} (h1 : p.length < 1000) (h2 : q.length < 1000) (h : R .non ([pC A ws as, mC (putG p a w), mC (putG q w a)] ++ extra)) :
    framed (sp_Pairing_pair A) [.ptr 0, .int a, .int w] ([pC A ws as, mC p, mC q] ++ extra) R Z :=
  framed_pre bd_all ⟨(by show 0 < 3; decide), trivial, trivial, trivial⟩ (fun Z' => ⟨ws, as, p, q, a, w, rfl, rfl, h1, h2, rfl, bd_all, trivial, h⟩) mono_pair
theorem chain_q {came q q' : PM} : ∀ {path : List (Int × Int)} {x : Int}, (∀ e ∈ path, valG q' e.2 = valG q e.2) → Chain came q x path → Chain came q' x path
  | [], x, _, c => c
  | (x', y) :: r, x, h, ⟨c1, c2, c3⟩ => by
    have hy := h _ List.mem_cons_self
    refine ⟨c1, c2, ?_⟩
    rcases c3 with ⟨e, c3⟩ | ⟨b, e, c3⟩
    · exact .inl ⟨e, by rw [hy]; exact c3⟩
    · exact .inr ⟨b, by rw [hy]; exact e, chain_q (fun e he => h e (List.mem_cons_of_mem _ he)) c3⟩
theorem valG_C (p : PM) (k : Int) : valG (p.map fun e => ((Sum.inl e.1 : Key), D.int e.2)) (.inl k) = (valG p k).map D.int := valG_map (f := D.int) (g := Sum.inl) inl_inj p k
/-- where a turn stands -/
def hd (path : List (Int × Int)) : D := match path with
  | [] => .non
  | e :: _ => .int e.1
structure TurnI (came p q p0 q0 : PM) (path path0 : List (Int × Int)) : Prop where
  ch : path = [] ∨ ∃ x, Chain came q x path
  nd : (path.map Prod.snd).Nodup
  lp : p.length + path.length < 1000
  lq : q.length + path.length < 1000
  ep : puts p path = puts p0 path0
  eq : putsB q path = putsB q0 path0
theorem TurnI.next {came p q p0 q0 : PM} {x y : Int} {r path0 : List (Int × Int)} (T : TurnI came p q p0 q0 ((x, y) :: r) path0) : TurnI came (putG p x y) (putG q y x) p0 q0 r path0 := by
  have nd := List.nodup_cons.mp T.nd
  have lp := T.lp
  have lq := T.lq
  have l1 := put_len (p := p) (k := x) (v := y)
  have l2 := put_len (p := q) (k := y) (v := x)
  rw [List.length_cons] at lp lq
  refine ⟨?_, nd.2, by omega, by omega, T.ep, T.eq⟩
  rcases T.ch with h | ⟨x', c⟩
  · cases h
  · rcases c.2.2 with ⟨e, _⟩ | ⟨b, _, c⟩
    · exact .inl e
    · refine .inr ⟨b, chain_q (fun e he => ?_) c⟩
      rw [put_val, if_neg fun z => nd.1 (List.mem_map.mpr ⟨e, he, z.symm⟩)]
theorem TurnI.ahead {came p q p0 q0 : PM} {x y : Int} {r path0 : List (Int × Int)} (T : TurnI came p q p0 q0 ((x, y) :: r) path0) : valG came x = some y ∧ optD ((valG q y).map D.int) = hd r := by
  rcases T.ch with h | ⟨x', c⟩
  · cases h
  · obtain ⟨e1, e2, e3⟩ := c
    subst e1
    refine ⟨e2, ?_⟩
    rcases e3 with ⟨rfl, e3⟩ | ⟨b, e3, c⟩
    · rw [e3]; rfl
    · obtain ⟨y2, r2, rfl⟩ := chain_head c
      rw [e3]; rfl
theorem pl_Pairing_turn_windows : Pl ["self", "arrival", "came", "window", "ahead"] (sp_Pairing_turn_windows A) (rd_Pairing_turn_windows A) := by
  rintro ds cs R Z hb hdd ⟨ws, as, p, q, came, rc, x, path, rfl, rfl, hc, nd, lp, lq, h⟩
  refine ⟨fun m δ c => ∃ (p' q' : PM) (path' : List (Int × Int)) (o3 o4 : Option D), m = path'.length ∧ δ = [some (.ptr 0), some (hd path'), some (.ptr 4), o3, o4] ∧ c = [pC A ws as, mC p', mC q', .lst (rc.map .int), mC came] ∧ TurnI came p' q' p q path' path, ⟨path.length, p, q, path, none, none, rfl, ?_, rfl, ⟨.inr ⟨x, hc⟩, nd, lp, lq, rfl, rfl⟩⟩, ?_⟩
  · obtain ⟨y, r, rfl⟩ := chain_head hc
    rfl
  · rintro m δ c ⟨p', q', path', o3, o4, rfl, rfl, rfl, T⟩ _
    cases path' with
    | nil =>
      refine brF ⟨_, _, .refl, ?_⟩
      have e1 : puts p path = p' := T.ep.symm
      have e2 : putsB q path = q' := T.eq.symm
      rw [e1, e2] at h
      exact h
    | cons e r =>
      obtain ⟨x', y⟩ := e
      obtain ⟨a1, a2⟩ := T.ahead
      have T' := T.next
      refine brT ⟨.int y, by rw [valG_C, a1]; rfl, rfl, rfl, _, rfl, ?_⟩
      conv => whnf
      rw [valG_C, a2]
      refine ⟨rfl, (by decide +kernel : ("pair" : Str) ∉ L_Pairing), ?_⟩
      have lp := T.lp
      have lq := T.lq
      refine fr_pair (extra := [.lst (rc.map .int), mC came]) (by omega) (by omega) ?_
      exact ⟨_, _, r.length, Nat.lt_succ_self _, .refl, _, _, r, _, _, rfl, rfl, rfl, T'⟩
theorem fr_pair2 {ws : List Win} {as : List Arr} {p q : PM} {a w : Int} {extra : Cs} {R : QD} {Z : XD} (h1 : p.length < 1000) (h2 : q.length < 1000) (h : R .non ([pC A ws as, mC (putG q w a), mC (putG p a w)] ++ extra)) :
    framed (sp_Pairing_pair A) [.ptr 0, .int w, .int a] ([pC A ws as, mC q, mC p] ++ extra) R Z := fr_pair h2 h1 h
theorem pl_Pairing_turn_arrivals : Pl ["self", "window", "came", "arrival", "ahead"] (sp_Pairing_turn_arrivals A) (rd_Pairing_turn_arrivals A) := by
  rintro ds cs R Z hb hdd ⟨ws, as, p, q, came, rc, x, path, rfl, rfl, hc, nd, lp, lq, h⟩
  refine ⟨fun m δ c => ∃ (p' q' : PM) (path' : List (Int × Int)) (o3 o4 : Option D), m = path'.length ∧ δ = [some (.ptr 0), some (hd path'), some (.ptr 4), o3, o4] ∧ c = [pC A ws as, mC q', mC p', .lst (rc.map .int), mC came] ∧ TurnI came p' q' p q path' path, ⟨path.length, p, q, path, none, none, rfl, ?_, rfl, ⟨.inr ⟨x, hc⟩, nd, lp, lq, rfl, rfl⟩⟩, ?_⟩
  · obtain ⟨y, r, rfl⟩ := chain_head hc
    rfl
  · rintro m δ c ⟨p', q', path', o3, o4, rfl, rfl, rfl, T⟩ _
    cases path' with
    | nil =>
      refine brF ⟨_, _, .refl, ?_⟩
      have e1 : puts p path = p' := T.ep.symm
      have e2 : putsB q path = q' := T.eq.symm
      rw [e1, e2] at h
      exact h
    | cons e r =>
      obtain ⟨x', y⟩ := e
      obtain ⟨a1, a2⟩ := T.ahead
      have T' := T.next
      refine brT ⟨.int y, by rw [valG_C, a1]; rfl, rfl, rfl, _, rfl, ?_⟩
      conv => whnf
      rw [valG_C, a2]
      refine ⟨rfl, (by decide +kernel : ("pair" : Str) ∉ L_Pairing), ?_⟩
      have lp := T.lp
      have lq := T.lq
      refine fr_pair2 (extra := [.lst (rc.map .int), mC came]) (by omega) (by omega) ?_
      exact ⟨_, _, r.length, Nat.lt_succ_self _, .refl, _, _, r, _, _, rfl, rfl, rfl, T'⟩
end AU
/-! PA4: the searches (printed by gen_PA4.py). -/
namespace AU
open PySem PySem.Spec PyProof.Rows L2 DL
variable {A : Ad}
theorem mem_idxF {α : Type} {p : α → Bool} {i : Int} : ∀ {xs : List α} {n : Nat}, i ∈ idxF p n xs → ∃ (k : Nat) (x : α), xs[k]? = some x ∧ p x = true ∧ i = ((n + k : Nat) : Int)
  | [], n, h => by cases h
  | x :: xs, n, h => by
    unfold idxF at h
    have tl : i ∈ idxF p (n + 1) xs → ∃ (k : Nat) (y : α), (x :: xs)[k]? = some y ∧ p y = true ∧ i = ((n + k : Nat) : Int) := fun h => by
      obtain ⟨k, y, h1, h2, h3⟩ := mem_idxF h
      exact ⟨k + 1, y, by simpa using h1, h2, by rw [h3]; congr 1; omega⟩
    split at h
    · rename_i hp
      rcases List.mem_cons.mp h with e | h
      · exact ⟨0, x, by simp, hp, by simpa using e⟩
      · exact tl h
    · exact tl h
theorem idxF_mem {α : Type} {p : α → Bool} : ∀ {xs : List α} {n k : Nat} {x : α}, xs[k]? = some x → p x = true → ((n + k : Nat) : Int) ∈ idxF p n xs
  | [], n, k, x, h, _ => by simp at h
  | y :: xs, n, 0, x, h, hp => by
    simp at h
    subst h
    unfold idxF
    rw [if_pos hp]
    exact List.mem_cons_self
  | y :: xs, n, k + 1, x, h, hp => by
    have ih := idxF_mem (n := n + 1) (k := k) (x := x) (xs := xs) (by simpa using h) hp
    have e : n + 1 + k = n + (k + 1) := by omega
    rw [e] at ih
    unfold idxF
    split
    · exact List.mem_cons_of_mem _ ih
    · exact ih
theorem nbW_mem {ws : List Win} {as : List Arr} {y x : Int} : x ∈ nbW ws as y ↔ 0 ≤ y ∧ 0 ≤ x ∧ ∃ w a, ws[y.toNat]? = some w ∧ as[x.toNat]? = some a ∧ adm w a = true := by
  unfold nbW
  constructor
  · intro h
    cases e : ws[y.toNat]? with
    | none => rw [e] at h; cases h
    | some w =>
      rw [e] at h
      by_cases h0 : 0 ≤ y
      · have h' : x ∈ idxF (fun a => adm w a) 0 as := by simpa [h0] using h
        obtain ⟨k, a, h1, h2, h3⟩ := mem_idxF h'
        have ek : x.toNat = k := by omega
        exact ⟨h0, by omega, w, a, rfl, by rw [ek]; exact h1, h2⟩
      · simp [h0] at h
  · rintro ⟨h0, h1, w, a, e1, e2, e3⟩
    rw [e1]
    have := idxF_mem (p := fun a => adm w a) (n := 0) e2 e3
    have ex : ((0 + x.toNat : Nat) : Int) = x := by omega
    rw [ex] at this
    simpa [h0] using this
theorem nbA_mem {ws : List Win} {as : List Arr} {y x : Int} : x ∈ nbA ws as y ↔ 0 ≤ y ∧ 0 ≤ x ∧ ∃ w a, ws[x.toNat]? = some w ∧ as[y.toNat]? = some a ∧ adm w a = true := by
  unfold nbA
  constructor
  · intro h
    cases e : as[y.toNat]? with
    | none => rw [e] at h; cases h
    | some a =>
      rw [e] at h
      by_cases h0 : 0 ≤ y
      · have h' : x ∈ idxF (fun w => adm w a) 0 ws := by simpa [h0] using h
        obtain ⟨k, w, h1, h2, h3⟩ := mem_idxF h'
        have ek : x.toNat = k := by omega
        exact ⟨h0, by omega, w, a, by rw [ek]; exact h1, rfl, h2⟩
      · simp [h0] at h
  · rintro ⟨h0, h1, w, a, e1, e2, e3⟩
    rw [e2]
    have := idxF_mem (p := fun w => adm w a) (n := 0) e1 e3
    have ex : ((0 + x.toNat : Nat) : Int) = x := by omega
    rw [ex] at this
    simpa [h0] using this
theorem nbW_rng {ws : List Win} {as : List Arr} {y x : Int} (h : x ∈ nbW ws as y) : (0 ≤ y ∧ y < (ws.length : Int)) ∧ 0 ≤ x ∧ x < (as.length : Int) := by
  obtain ⟨h0, h1, w, a, e1, e2, _⟩ := nbW_mem.mp h
  have := (List.getElem?_eq_some_iff.mp e1).1
  have := (List.getElem?_eq_some_iff.mp e2).1
  omega
theorem nbA_rng {ws : List Win} {as : List Arr} {y x : Int} (h : x ∈ nbA ws as y) : (0 ≤ y ∧ y < (as.length : Int)) ∧ 0 ≤ x ∧ x < (ws.length : Int) := by
  obtain ⟨h0, h1, w, a, e1, e2, _⟩ := nbA_mem.mp h
  have := (List.getElem?_eq_some_iff.mp e1).1
  have := (List.getElem?_eq_some_iff.mp e2).1
  omega
theorem nb_sym {ws : List Win} {as : List Arr} {y x : Int} : x ∈ nbW ws as y ↔ y ∈ nbA ws as x := by
  rw [nbW_mem, nbA_mem]
  constructor
  · rintro ⟨h0, h1, w, a, e⟩; exact ⟨h1, h0, w, a, e⟩
  · rintro ⟨h0, h1, w, a, e⟩; exact ⟨h1, h0, w, a, e⟩
/-- sizes -/
theorem mt_lens {nb : Int → List Int} {p q : PM} {m n : Nat} (M : Mt nb p q) (h : ∀ y x, x ∈ nb y → (0 ≤ y ∧ y < (m : Int)) ∧ 0 ≤ x ∧ x < (n : Int)) : p.length ≤ n ∧ q.length ≤ m := by
  constructor
  · have := nd_len (n := n) (m := n) M.kp (fun x hx => ?_) (Int.le_refl _)
    · rw [List.length_map] at this; exact this
    · cases e : valG p x with
      | none => exact absurd hx (val_none.mp e)
      | some y => exact (h y x (M.ed x y e)).2
  · have := nd_len (n := m) (m := m) M.kq (fun x hx => ?_) (Int.le_refl _)
    · rw [List.length_map] at this; exact this
    · cases e : valG q x with
      | none => exact absurd hx (val_none.mp e)
      | some y => exact (h x y (M.ed y x ((M.iff y x).mpr e))).1
theorem came_len {nb : Int → List Int} {p q came : PM} {r m : Int} {n m' : Nat} {reached : List Int} (S : Srch nb p q r m reached came) (M : Mt nb p q) (h : ∀ y x, x ∈ nb y → (0 ≤ y ∧ y < (m' : Int)) ∧ 0 ≤ x ∧ x < (n : Int)) (nd : (came.map Prod.fst).Nodup) : came.length ≤ n := by
  have := nd_len (n := n) (m := n) nd (fun x hx => ?_) (Int.le_refl _)
  · rw [List.length_map] at this; exact this
  · cases e : valG came x with
    | none => exact absurd hx (val_none.mp e)
    | some y =>
      obtain ⟨y', _, e'⟩ := S.cm x y e
      exact (h y' x (M.ed x y' e')).2
theorem gh5 {ws : List Win} {as : List Arr} {p q : PM} {x y : Cel} {d : D} (h : Bd 3 d) : GhV 3 d [pC A ws as, mC p, mC q, x, y] d [pC A ws as, mC p, mC q] :=
  GhV.mk (Nat.le_refl 3) (.cons (.same (bd_pC (Nat.le_refl 3))) (.cons (.same bd_mC) (.cons (.same bd_mC) .nil))) (.same h)
theorem isS_map {o : Option Int} : (o.map D.int).isSome = o.isSome := by cases o <;> rfl
theorem bd_ints {n : Nat} (l : List Int) : Bds n (l.map D.int) := bds_map (f := D.int) (fun _ => trivial) l
theorem bd_five {ws : List Win} {as : List Arr} {p q came : PM} {rc : List Int} : ∀ c ∈ [pC A ws as, mC p, mC q, .lst (rc.map .int), mC came], BdC 5 c := by
  intro c hc
  simp only [List.mem_cons, List.not_mem_nil, or_false] at hc
  rcases hc with rfl | rfl | rfl | rfl | rfl
  · exact bd_pC (by decide)
  · exact bd_mC
  · exact bd_mC
  · exact bd_ints rc
  · exact bd_mC
theorem not_done {reached : List Int} {place : Nat} (h : ¬ decide ((place : Int) < ((reached.map D.int).length : Nat)) = true) (hp : place ≤ reached.length) : place = reached.length := by
  rw [List.length_map] at h
  by_cases z : (place : Int) < (reached.length : Nat)
  · exact absurd (decide_eq_true z) h
  · omega
theorem mono_arrivals_of {ds : List D} {cs : Cs} {R R' : QD} {Z Z' : XD} (h : ∀ d c, R d c → R' d c) : sp_Pairing_arrivals_of A ds cs R Z → sp_Pairing_arrivals_of A ds cs R' Z' :=
  fun ⟨ws, as, p, q, i, e1, e2, h0, h1, h2, r⟩ => ⟨ws, as, p, q, i, e1, e2, h0, h1, h2, h _ _ r⟩
theorem fr_arrivals_of {ws : List Win} {as : List Arr} {p q : PM} {i : Int} {extra : Cs} {R : QD} {Z : XD} (I : In ws as) (h1 : 0 ≤ i) (h2 : i < (ws.length : Int)) (h : R (.lst ((nbW ws as i).map .int)) ([pC A ws as, mC p, mC q] ++ extra)) :
    framed (sp_Pairing_arrivals_of A) [.ptr 0, .int i] ([pC A ws as, mC p, mC q] ++ extra) R Z :=
  framed_pre bd_all ⟨(by show 0 < 3; decide), trivial, trivial⟩ (fun Z' => ⟨ws, as, p, q, i, rfl, rfl, I, h1, h2, rfl, bd_all, bd_ints _, h⟩) mono_arrivals_of
theorem mono_turn_windows {ds : List D} {cs : Cs} {R R' : QD} {Z Z' : XD} (h : ∀ d c, R d c → R' d c) : sp_Pairing_turn_windows A ds cs R Z → sp_Pairing_turn_windows A ds cs R' Z' :=
  fun ⟨ws, as, p, q, came, rc, x, path, e1, e2, h1, h2, h3, h4, r⟩ => ⟨ws, as, p, q, came, rc, x, path, e1, e2, h1, h2, h3, h4, h _ _ r⟩
theorem fr_turn_windows {ws : List Win} {as : List Arr} {p q came : PM} {rc : List Int} {x : Int} {path : List (Int × Int)} {R : QD} {Z : XD} (h1 : Chain came q x path) (h2 : (path.map Prod.snd).Nodup) (h3 : p.length + path.length < 1000) (h4 : q.length + path.length < 1000)
    (h : R .non [pC A ws as, mC (puts p path), mC (putsB q path), .lst (rc.map .int), mC came]) :
    framed (sp_Pairing_turn_windows A) [.ptr 0, .int x, .ptr 4] [pC A ws as, mC p, mC q, .lst (rc.map .int), mC came] R Z := by
  have := framed_pre (extra := []) (Z := Z) (R := R) (bd_five (A := A) (ws := ws) (as := as) (p := p) (q := q) (came := came) (rc := rc)) (ds := [.ptr 0, .int x, .ptr 4]) ⟨(by show 0 < 5; decide), trivial, (by show 4 < 5; decide), trivial⟩
    (fun Z' => ⟨ws, as, p, q, came, rc, x, path, rfl, rfl, h1, h2, h3, h4, rfl, bd_five, trivial, by rw [List.append_nil]; exact h⟩) (mono_turn_windows)
  rw [List.append_nil] at this
  exact this
theorem pl_Pairing_place_window : Pl ["self", "index", "reached", "came", "place", "window", "arrival"] (sp_Pairing_place_window A) (rd_Pairing_place_window A) := by
  rintro ds cs R Z hb hdd ⟨ws, as, p, q, i, rfl, rfl, I, M, h0, h1, hi, hg, hs⟩
  have rng : ∀ y x, x ∈ nbW ws as y → (0 ≤ y ∧ y < (ws.length : Int)) ∧ 0 ≤ x ∧ x < (as.length : Int) := fun y x h => nbW_rng h
  obtain ⟨lp, lq⟩ := mt_lens M rng
  have lw := I.lw
  have la := I.la
  refine ⟨(by show 1 ≤ 2 ^ 24; decide), ?_⟩
  refine ⟨fun m δ c => ∃ (reached : List Int) (came : PM) (place : Nat) (o5 o6 : Option D), m = ws.length - place ∧ δ = [some (.ptr 0), some (.int i), some (.ptr 3), some (.ptr 4), some (.int place), o5, o6] ∧
    c = [pC A ws as, mC p, mC q, .lst (reached.map .int), mC came] ∧ Srch (nbW ws as) p q i ws.length reached came ∧ (came.map Prod.fst).Nodup ∧ place ≤ reached.length ∧ ∀ (j : Nat) (y : Int), j < place → reached[j]? = some y → ∀ x ∈ nbW ws as y, valG came x ≠ none,
    ⟨_, [i], [], 0, none, none, rfl, rfl, rfl, .start hi h0 h1, by simp, Nat.zero_le _, fun j y hj => absurd hj (Nat.not_lt_zero _)⟩, ?_⟩
  rintro m δ c ⟨reached, came, place, o5, o6, rfl, rfl, rfl, S, ndc, hple, done⟩ _
  have lr : reached.length ≤ ws.length := nd_len S.nd S.rng (Int.le_refl _)
  refine br (fun e => ?_) (fun e => ?_)
  · have hlt : place < reached.length := by
      have := of_decide_eq_true (show decide ((place : Int) < ((reached.map D.int).length : Nat)) = true from e)
      rw [List.length_map] at this
      omega
    have ey : reached[place]? = some reached[place] := List.getElem?_eq_getElem hlt
    have hmem : reached[place] ∈ reached := List.getElem_mem hlt
    obtain ⟨y0, y1⟩ := S.rng _ hmem
    refine ⟨.int reached[place], DL.atI_nat (by rw [List.getElem?_map, ey]; rfl), rfl, (by decide +kernel : ("arrivals_of" : Str) ∉ L_Pairing), ?_⟩
    refine fr_arrivals_of (extra := [.lst (reached.map .int), mC came]) I y0 y1 ?_
    refine ⟨fun k δ c => ∃ (reached' : List Int) (came' : PM) (o6 : Option D), δ = [some (.ptr 0), some (.int i), some (.ptr 3), some (.ptr 4), some (.int place), some (.int reached[place]), o6] ∧
      c = [pC A ws as, mC p, mC q, .lst (reached'.map .int), mC came'] ∧ Srch (nbW ws as) p q i ws.length reached' came' ∧ (came'.map Prod.fst).Nodup ∧ place < reached'.length ∧ reached'[place]? = some reached[place] ∧
      (∀ (j : Nat) (y : Int), j < place → reached'[j]? = some y → ∀ x ∈ nbW ws as y, valG came' x ≠ none) ∧ ∀ x ∈ (nbW ws as reached[place]).take k, valG came' x ≠ none,
      ⟨reached, came, o6, rfl, rfl, S, ndc, hlt, ey, done, fun x hx => by cases hx⟩, fun _ _ _ _ => trivial, ?_, ?_⟩
    · rintro k d δ c hk ⟨reached', came', o6, rfl, rfl, S', ndc', hlt', ey', done', fin'⟩ _
      obtain ⟨x, hx, rfl⟩ := mem_at hk
      have hxm : x ∈ nbW ws as reached[place] := List.mem_of_getElem? hx
      have hym : reached[place] ∈ reached' := List.mem_of_getElem? ey'
      have lc := came_len S' M rng ndc'
      have lr' : reached'.length ≤ ws.length := nd_len S'.nd S'.rng (Int.le_refl _)
      conv => whnf
      rw [valG_C, isS_map]
      refine br (fun e => ?_) (fun e => ?_)
      · have hc : valG came' x = none := by cases e2 : valG came' x with
          | none => rfl
          | some y => rw [e2] at e; cases e
        refine ⟨by rw [List.length_map]; show _ < 2 ^ 24; omega, ?_⟩
        rw [mC_put]
        refine ⟨rfl, rfl, _, rfl, ?_⟩
        conv => whnf
        rw [valG_C, isS_map]
        refine br (fun e => ?_) (fun e => ?_)
        · have hp : valG p x = none := by cases e2 : valG p x with
            | none => rfl
            | some y => rw [e2] at e; cases e
          obtain ⟨path, ch, nd, inn, G⟩ := S'.found M hi hym hxm hc hp
          have lpath : path.length ≤ ws.length := by
            have := nd_len nd (fun y hy => ?_) (Int.le_refl (ws.length : Int))
            · rw [List.length_map] at this; exact this
            · obtain ⟨e, he, rfl⟩ := List.mem_map.mp hy
              exact S'.rng _ (inn e he)
          refine ⟨rfl, (by decide +kernel : ("turn_windows" : Str) ∉ L_Pairing), ?_⟩
          refine fr_turn_windows ch nd (by omega) (by omega) ?_
          exact ⟨_, _, gh5 trivial, hg _ _ G⟩
        · cases hp : valG p x with
          | none => rw [hp] at e; cases e
          | some y' =>
            have hx' := hx
            refine ⟨rfl, rfl, rfl, _, rfl, .int y', by rw [valG_C, hp]; rfl, ?_⟩
            refine ⟨by rw [List.length_map]; show _ < 2 ^ 24; omega, _, _, .refl, reached' ++ [y'], putG came' x reached[place], _, rfl, ?_, S'.step M (fun y x h => (rng y x h).1) hym hxm hc hp, put_nd ndc', by rw [List.length_append]; omega, ?_, fun j y hj ej z hz => ?_, fun z hz => ?_⟩
            · rw [List.map_append]; rfl
            · rw [List.getElem?_append_left hlt']; exact ey'
            · rw [List.getElem?_append_left (by omega)] at ej
              rw [put_val]
              split
              · exact fun z => nomatch z
              · exact done' j y hj ej z hz
            · rw [take_snoc hx'] at hz
              rw [put_val]
              split
              · exact fun z => nomatch z
              · rename_i hne
                rcases List.mem_append.mp hz with hz | hz
                · exact fin' z hz
                · exact absurd (show x = z by simpa using (List.mem_singleton.mp hz).symm) hne
      · have hc : valG came' x ≠ none := fun z => by rw [z] at e; cases e
        refine ⟨_, _, .refl, reached', came', _, rfl, rfl, S', ndc', hlt', ey', done', fun z hz => ?_⟩
        rw [take_snoc hx] at hz
        rcases List.mem_append.mp hz with hz | hz
        · exact fin' z hz
        · have : z = x := List.mem_singleton.mp hz
          subst this; exact hc
    · rintro δ c ⟨reached', came', o6, rfl, rfl, S', ndc', hlt', ey', done', fin'⟩
      rw [List.length_map, List.take_length] at fin'
      have lr' : reached'.length ≤ ws.length := nd_len S'.nd S'.rng (Int.le_refl _)
      refine ⟨_, _, ws.length - (place + 1), by omega, .refl, reached', came', place + 1, _, _, rfl, rfl, rfl, S', ndc', hlt', fun j y hj ej z hz => ?_⟩
      by_cases h : j < place
      · exact done' j y h ej z hz
      · have : j = place := by omega
        subst this
        rw [ey'] at ej; cases ej
        exact fin' z hz
  · have e' : place = reached.length := not_done (fun z => by rw [show decide ((place : Int) < ((reached.map D.int).length : Nat)) = false from e] at z; cases z) hple
    subst e'
    refine ⟨reached, rfl, fun F hF _ => ⟨_, _, gh5 (bd_ints F), hs F (S.stuck (fun y hy x hx => ?_) hF)⟩⟩
    obtain ⟨j, hj, ej⟩ := List.getElem_of_mem hy
    exact done j y hj (by rw [List.getElem?_eq_getElem hj, ej]) x hx
theorem mono_windows_for {ds : List D} {cs : Cs} {R R' : QD} {Z Z' : XD} (h : ∀ d c, R d c → R' d c) : sp_Pairing_windows_for A ds cs R Z → sp_Pairing_windows_for A ds cs R' Z' :=
  fun ⟨ws, as, p, q, i, e1, e2, h0, h1, h2, r⟩ => ⟨ws, as, p, q, i, e1, e2, h0, h1, h2, h _ _ r⟩
theorem fr_windows_for {ws : List Win} {as : List Arr} {p q : PM} {i : Int} {extra : Cs} {R : QD} {Z : XD} (I : In ws as) (h1 : 0 ≤ i) (h2 : i < (as.length : Int)) (h : R (.lst ((nbA ws as i).map .int)) ([pC A ws as, mC p, mC q] ++ extra)) :
    framed (sp_Pairing_windows_for A) [.ptr 0, .int i] ([pC A ws as, mC p, mC q] ++ extra) R Z :=
  framed_pre bd_all ⟨(by show 0 < 3; decide), trivial, trivial⟩ (fun Z' => ⟨ws, as, p, q, i, rfl, rfl, I, h1, h2, rfl, bd_all, bd_ints _, h⟩) mono_windows_for
theorem mono_turn_arrivals {ds : List D} {cs : Cs} {R R' : QD} {Z Z' : XD} (h : ∀ d c, R d c → R' d c) : sp_Pairing_turn_arrivals A ds cs R Z → sp_Pairing_turn_arrivals A ds cs R' Z' :=
  fun ⟨ws, as, p, q, came, rc, x, path, e1, e2, h1, h2, h3, h4, r⟩ => ⟨ws, as, p, q, came, rc, x, path, e1, e2, h1, h2, h3, h4, h _ _ r⟩
theorem fr_turn_arrivals {ws : List Win} {as : List Arr} {p q came : PM} {rc : List Int} {x : Int} {path : List (Int × Int)} {R : QD} {Z : XD} (h1 : Chain came q x path) (h2 : (path.map Prod.snd).Nodup) (h3 : p.length + path.length < 1000) (h4 : q.length + path.length < 1000)
    (h : R .non [pC A ws as, mC (putsB q path), mC (puts p path), .lst (rc.map .int), mC came]) :
    framed (sp_Pairing_turn_arrivals A) [.ptr 0, .int x, .ptr 4] [pC A ws as, mC q, mC p, .lst (rc.map .int), mC came] R Z := by
  have := framed_pre (extra := []) (Z := Z) (R := R) (bd_five (A := A) (ws := ws) (as := as) (p := q) (q := p) (came := came) (rc := rc)) (ds := [.ptr 0, .int x, .ptr 4]) ⟨(by show 0 < 5; decide), trivial, (by show 4 < 5; decide), trivial⟩
    (fun Z' => ⟨ws, as, p, q, came, rc, x, path, rfl, rfl, h1, h2, h3, h4, rfl, bd_five, trivial, by rw [List.append_nil]; exact h⟩) (mono_turn_arrivals)
  rw [List.append_nil] at this
  exact this
theorem pl_Pairing_place_arrival : Pl ["self", "index", "reached", "came", "place", "arrival", "window"] (sp_Pairing_place_arrival A) (rd_Pairing_place_arrival A) := by
  rintro ds cs R Z hb hdd ⟨ws, as, p, q, i, rfl, rfl, I, M, h0, h1, hi, hg, hs⟩
  have rng : ∀ y x, x ∈ nbA ws as y → (0 ≤ y ∧ y < (as.length : Int)) ∧ 0 ≤ x ∧ x < (ws.length : Int) := fun y x h => nbA_rng h
  obtain ⟨lp, lq⟩ := mt_lens M rng
  have lw := I.lw
  have la := I.la
  refine ⟨(by show 1 ≤ 2 ^ 24; decide), ?_⟩
  refine ⟨fun m δ c => ∃ (reached : List Int) (came : PM) (place : Nat) (o5 o6 : Option D), m = as.length - place ∧ δ = [some (.ptr 0), some (.int i), some (.ptr 3), some (.ptr 4), some (.int place), o5, o6] ∧
    c = [pC A ws as, mC q, mC p, .lst (reached.map .int), mC came] ∧ Srch (nbA ws as) p q i as.length reached came ∧ (came.map Prod.fst).Nodup ∧ place ≤ reached.length ∧ ∀ (j : Nat) (y : Int), j < place → reached[j]? = some y → ∀ x ∈ nbA ws as y, valG came x ≠ none,
    ⟨_, [i], [], 0, none, none, rfl, rfl, rfl, .start hi h0 h1, by simp, Nat.zero_le _, fun j y hj => absurd hj (Nat.not_lt_zero _)⟩, ?_⟩
  rintro m δ c ⟨reached, came, place, o5, o6, rfl, rfl, rfl, S, ndc, hple, done⟩ _
  have lr : reached.length ≤ as.length := nd_len S.nd S.rng (Int.le_refl _)
  refine br (fun e => ?_) (fun e => ?_)
  · have hlt : place < reached.length := by
      have := of_decide_eq_true (show decide ((place : Int) < ((reached.map D.int).length : Nat)) = true from e)
      rw [List.length_map] at this
      omega
    have ey : reached[place]? = some reached[place] := List.getElem?_eq_getElem hlt
    have hmem : reached[place] ∈ reached := List.getElem_mem hlt
    obtain ⟨y0, y1⟩ := S.rng _ hmem
    refine ⟨.int reached[place], DL.atI_nat (by rw [List.getElem?_map, ey]; rfl), rfl, (by decide +kernel : ("windows_for" : Str) ∉ L_Pairing), ?_⟩
    refine fr_windows_for (extra := [.lst (reached.map .int), mC came]) I y0 y1 ?_
    refine ⟨fun k δ c => ∃ (reached' : List Int) (came' : PM) (o6 : Option D), δ = [some (.ptr 0), some (.int i), some (.ptr 3), some (.ptr 4), some (.int place), some (.int reached[place]), o6] ∧
      c = [pC A ws as, mC q, mC p, .lst (reached'.map .int), mC came'] ∧ Srch (nbA ws as) p q i as.length reached' came' ∧ (came'.map Prod.fst).Nodup ∧ place < reached'.length ∧ reached'[place]? = some reached[place] ∧
      (∀ (j : Nat) (y : Int), j < place → reached'[j]? = some y → ∀ x ∈ nbA ws as y, valG came' x ≠ none) ∧ ∀ x ∈ (nbA ws as reached[place]).take k, valG came' x ≠ none,
      ⟨reached, came, o6, rfl, rfl, S, ndc, hlt, ey, done, fun x hx => by cases hx⟩, fun _ _ _ _ => trivial, ?_, ?_⟩
    · rintro k d δ c hk ⟨reached', came', o6, rfl, rfl, S', ndc', hlt', ey', done', fin'⟩ _
      obtain ⟨x, hx, rfl⟩ := mem_at hk
      have hxm : x ∈ nbA ws as reached[place] := List.mem_of_getElem? hx
      have hym : reached[place] ∈ reached' := List.mem_of_getElem? ey'
      have lc := came_len S' M rng ndc'
      have lr' : reached'.length ≤ as.length := nd_len S'.nd S'.rng (Int.le_refl _)
      conv => whnf
      rw [valG_C, isS_map]
      refine br (fun e => ?_) (fun e => ?_)
      · have hc : valG came' x = none := by cases e2 : valG came' x with
          | none => rfl
          | some y => rw [e2] at e; cases e
        refine ⟨by rw [List.length_map]; show _ < 2 ^ 24; omega, ?_⟩
        rw [mC_put]
        refine ⟨rfl, rfl, _, rfl, ?_⟩
        conv => whnf
        rw [valG_C, isS_map]
        refine br (fun e => ?_) (fun e => ?_)
        · have hp : valG p x = none := by cases e2 : valG p x with
            | none => rfl
            | some y => rw [e2] at e; cases e
          obtain ⟨path, ch, nd, inn, G⟩ := S'.found M hi hym hxm hc hp
          have lpath : path.length ≤ as.length := by
            have := nd_len nd (fun y hy => ?_) (Int.le_refl (as.length : Int))
            · rw [List.length_map] at this; exact this
            · obtain ⟨e, he, rfl⟩ := List.mem_map.mp hy
              exact S'.rng _ (inn e he)
          refine ⟨rfl, (by decide +kernel : ("turn_arrivals" : Str) ∉ L_Pairing), ?_⟩
          refine fr_turn_arrivals ch nd (by omega) (by omega) ?_
          exact ⟨_, _, gh5 trivial, hg _ _ G⟩
        · cases hp : valG p x with
          | none => rw [hp] at e; cases e
          | some y' =>
            have hx' := hx
            refine ⟨rfl, rfl, rfl, _, rfl, .int y', by rw [valG_C, hp]; rfl, ?_⟩
            refine ⟨by rw [List.length_map]; show _ < 2 ^ 24; omega, _, _, .refl, reached' ++ [y'], putG came' x reached[place], _, rfl, ?_, S'.step M (fun y x h => (rng y x h).1) hym hxm hc hp, put_nd ndc', by rw [List.length_append]; omega, ?_, fun j y hj ej z hz => ?_, fun z hz => ?_⟩
            · rw [List.map_append]; rfl
            · rw [List.getElem?_append_left hlt']; exact ey'
            · rw [List.getElem?_append_left (by omega)] at ej
              rw [put_val]
              split
              · exact fun z => nomatch z
              · exact done' j y hj ej z hz
            · rw [take_snoc hx'] at hz
              rw [put_val]
              split
              · exact fun z => nomatch z
              · rename_i hne
                rcases List.mem_append.mp hz with hz | hz
                · exact fin' z hz
                · exact absurd (show x = z by simpa using (List.mem_singleton.mp hz).symm) hne
      · have hc : valG came' x ≠ none := fun z => by rw [z] at e; cases e
        refine ⟨_, _, .refl, reached', came', _, rfl, rfl, S', ndc', hlt', ey', done', fun z hz => ?_⟩
        rw [take_snoc hx] at hz
        rcases List.mem_append.mp hz with hz | hz
        · exact fin' z hz
        · have : z = x := List.mem_singleton.mp hz
          subst this; exact hc
    · rintro δ c ⟨reached', came', o6, rfl, rfl, S', ndc', hlt', ey', done', fin'⟩
      rw [List.length_map, List.take_length] at fin'
      have lr' : reached'.length ≤ as.length := nd_len S'.nd S'.rng (Int.le_refl _)
      refine ⟨_, _, as.length - (place + 1), by omega, .refl, reached', came', place + 1, _, _, rfl, rfl, rfl, S', ndc', hlt', fun j y hj ej z hz => ?_⟩
      by_cases h : j < place
      · exact done' j y h ej z hz
      · have : j = place := by omega
        subst this
        rw [ey'] at ej; cases ej
        exact fin' z hz
  · have e' : place = reached.length := not_done (fun z => by rw [show decide ((place : Int) < ((reached.map D.int).length : Nat)) = false from e] at z; cases z) hple
    subst e'
    refine ⟨reached, rfl, fun F hF _ => ⟨_, _, gh5 (bd_ints F), hs F (S.stuck (fun y hy x hx => ?_) hF)⟩⟩
    obtain ⟨j, hj, ej⟩ := List.getElem_of_mem hy
    exact done j y hj (by rw [List.getElem?_eq_getElem hj, ej]) x hx
end AU
/-! PA5: explained. -/
namespace AU
open PySem PySem.Spec PyProof.Rows L2 DL
variable {A : Ad}
theorem framed_all {sp : SpD} {ds : List D} {cs : Cs} {R : QD} {Z : XD} (hb : ∀ c ∈ cs, BdC cs.length c) (hd : Bds cs.length ds)
    (h : ∀ Z', sp ds cs (fun d c2 => c2.length = cs.length ∧ (∀ c ∈ c2, BdC cs.length c) ∧ Bd cs.length d ∧ R d c2) Z') (mono : ∀ {R R' : QD} {Z Z' : XD}, (∀ d c, R d c → R' d c) → sp ds cs R Z → sp ds cs R' Z') : framed sp ds cs R Z := by
  have := framed_pre (extra := []) (Z := Z) (R := R) hb hd (fun Z' => mono (fun d c ⟨h1, h2, h3, h4⟩ => ⟨h1, h2, h3, by rw [List.append_nil]; exact h4⟩) (h noX)) mono
  rw [List.append_nil] at this
  exact this
theorem mono_place_window {ds : List D} {cs : Cs} {R R' : QD} {Z Z' : XD} (h : ∀ d c, R d c → R' d c) : sp_Pairing_place_window A ds cs R Z → sp_Pairing_place_window A ds cs R' Z' :=
  fun ⟨ws, as, p, q, i, e1, e2, h1, h2, h3, h4, h5, r1, r2⟩ => ⟨ws, as, p, q, i, e1, e2, h1, h2, h3, h4, h5, fun p' q' g => h _ _ (r1 p' q' g), fun F s => h _ _ (r2 F s)⟩
theorem mono_place_arrival {ds : List D} {cs : Cs} {R R' : QD} {Z Z' : XD} (h : ∀ d c, R d c → R' d c) : sp_Pairing_place_arrival A ds cs R Z → sp_Pairing_place_arrival A ds cs R' Z' :=
  fun ⟨ws, as, p, q, i, e1, e2, h1, h2, h3, h4, h5, r1, r2⟩ => ⟨ws, as, p, q, i, e1, e2, h1, h2, h3, h4, h5, fun p' q' g => h _ _ (r1 p' q' g), fun F s => h _ _ (r2 F s)⟩
theorem mono_pairs {ds : List D} {cs : Cs} {R R' : QD} {Z Z' : XD} (h : ∀ d c, R d c → R' d c) : sp_Pairing_pairs A ds cs R Z → sp_Pairing_pairs A ds cs R' Z' :=
  fun ⟨ws, as, p, q, e1, e2, r⟩ => ⟨ws, as, p, q, e1, e2, fun ps h1 h2 => h _ _ (r ps h1 h2)⟩
section
variable {ws : List Win} {as : List Arr} {p q : PM} {i : Int} {R : QD} {Z : XD}
theorem fr_place_window {extra : Cs} (I : In ws as) (M : Mt (nbW ws as) p q) (h0 : 0 ≤ i) (h1 : i < (ws.length : Int)) (hi : valG q i = none) (h : ∀ p' q', Grown (nbW ws as) p q i p' q' → R .non ([pC A ws as, mC p', mC q'] ++ extra)) (k : ∀ F : List Int, Stuck (nbW ws as) p q i F → R (.lst (F.map .int)) ([pC A ws as, mC p, mC q] ++ extra)) :
    framed (sp_Pairing_place_window A) [.ptr 0, .int i] ([pC A ws as, mC p, mC q] ++ extra) R Z :=
  framed_pre bd_all ⟨(by show 0 < 3; decide), trivial, trivial⟩ (fun Z' => ⟨ws, as, p, q, i, rfl, rfl, I, M, h0, h1, hi, fun p' q' g => ⟨rfl, bd_all, trivial, h p' q' g⟩, fun F s => ⟨rfl, bd_all, bd_ints F, k F s⟩⟩) mono_place_window
theorem fr_place_arrival {extra : Cs} (I : In ws as) (M : Mt (nbA ws as) p q) (h0 : 0 ≤ i) (h1 : i < (as.length : Int)) (hi : valG q i = none) (h : ∀ p' q', Grown (nbA ws as) p q i p' q' → R .non ([pC A ws as, mC q', mC p'] ++ extra)) (k : ∀ F : List Int, Stuck (nbA ws as) p q i F → R (.lst (F.map .int)) ([pC A ws as, mC q, mC p] ++ extra)) :
    framed (sp_Pairing_place_arrival A) [.ptr 0, .int i] ([pC A ws as, mC q, mC p] ++ extra) R Z :=
  framed_pre bd_all ⟨(by show 0 < 3; decide), trivial, trivial⟩ (fun Z' => ⟨ws, as, p, q, i, rfl, rfl, I, M, h0, h1, hi, fun p' q' g => ⟨rfl, bd_all, trivial, h p' q' g⟩, fun F s => ⟨rfl, bd_all, bd_ints F, k F s⟩⟩) mono_place_arrival
theorem bd_pairsI {n : Nat} (l : List (Int × Int)) : Bds n (l.map pairI) := bds_map (f := pairI) (fun _ => ⟨trivial, trivial, trivial⟩) l
theorem fr_pairs {extra : Cs} (h : ∀ ps : List (Int × Int), ps.Perm p → ps.Pairwise leP → R (.lst (ps.map pairI)) ([pC A ws as, mC p, mC q] ++ extra)) : framed (sp_Pairing_pairs A) [.ptr 0] ([pC A ws as, mC p, mC q] ++ extra) R Z :=
  framed_pre bd_all ⟨(by show 0 < 3; decide), trivial⟩ (fun Z' => ⟨ws, as, p, q, rfl, rfl, fun ps h1 h2 => ⟨rfl, bd_all, bd_pairsI ps, h ps h1 h2⟩⟩) mono_pairs
end
theorem rng_at {n k : Nat} {d : D} (h : ((List.range n).map fun i => D.int (0 + (i : Nat)))[k]? = some d) : k < n ∧ d = .int (k : Nat) := by
  have hk := (List.getElem?_eq_some_iff.mp h).1
  simp at hk
  rw [List.getElem?_map, List.getElem?_range hk] at h
  cases h
  exact ⟨hk, by show D.int (0 + (k : Int)) = .int (k : Int); rw [Int.zero_add]⟩
theorem Mt.sym {ws : List Win} {as : List Arr} {p q : PM} (M : Mt (nbW ws as) p q) : Mt (nbA ws as) q p := ⟨M.kq, M.kp, fun x y => (M.iff y x).symm, fun x y e => nb_sym.mp (M.ed y x ((M.iff y x).mpr e))⟩
theorem Mt.symA {ws : List Win} {as : List Arr} {p q : PM} (M : Mt (nbA ws as) q p) : Mt (nbW ws as) p q := ⟨M.kq, M.kp, fun x y => (M.iff y x).symm, fun x y e => nb_sym.mpr (M.ed y x ((M.iff y x).mpr e))⟩
theorem gh0 {cs : Cs} {d : D} (h : Bd 0 d) : GhV 0 d cs d [] := GhV.mk (Nat.le_refl 0) .nil (.same h)
theorem mt_nil {nb : Int → List Int} : Mt nb [] [] := ⟨by simp, by simp, fun x y => ⟨fun e => (by cases e), fun e => (by cases e)⟩, fun x y e => (by cases e)⟩
theorem pl_explained : Pl ["windows", "arrivals", "pairing", "index", "window", "found"] (sp_explained A) (rd_explained A) := by
  rintro ds cs R Z hb hdd ⟨ws, as, rfl, rfl, I, r1, r2, r3⟩
  refine ⟨0, ws, as, rfl, I, rfl, rfl, _, _, .refl, ?_⟩
  refine ⟨rfl, rfl, _, rfl, fun k δ c => ∃ (p q : PM) (o3 o4 o5 : Option D), δ = [some (.lst (ws.map (dWin A))), some (.lst (as.map dArr)), some (.ptr 0), o3, o4, o5] ∧ c = [pC A ws as, mC p, mC q] ∧ Mt (nbW ws as) p q ∧
    ∀ y, valG q y ≠ none ↔ ∃ (j : Nat) (w : Win), j < k ∧ ws[j]? = some w ∧ w.m = true ∧ y = (j : Int), ⟨[], [], none, none, none, rfl, rfl, mt_nil, fun y => ⟨fun h => absurd rfl h, fun ⟨j, w, h, _⟩ => absurd h (Nat.not_lt_zero _)⟩⟩, fun _ _ _ _ => trivial, ?_, ?_⟩
  · rintro k d δ c hk ⟨p, q, o3, o4, o5, rfl, rfl, M, dom⟩ _
    have hk1 : k < ws.length := by have := (List.getElem?_eq_some_iff.mp hk).1; rw [enumD_len, List.length_map] at this; exact this
    have hk2 : ws[k]? = some ws[k] := List.getElem?_eq_getElem hk1
    have e2 := enumD_get (xs := ws.map (dWin A)) (i := k) (d := dWin A ws[k]) (by rw [List.getElem?_map, hk2]; rfl)
    rw [e2] at hk; cases hk
    refine ⟨rfl, rfl, rfl, ws[k], rfl, br (fun e => ?_) fun e => ?_⟩
    · have fresh : valG q (k : Int) = none := Classical.byContradiction fun n => by
        obtain ⟨j, w, h1, _, _, h2⟩ := (dom _).mp n
        omega
      refine ⟨rfl, (by decide +kernel : ("place_window" : Str) ∉ L_Pairing), ?_⟩
      refine fr_place_window (extra := []) I M (by omega) (by omega) fresh (fun p' q' G => ?_) (fun F S => ?_)
      · refine brF ⟨_, _, .refl, p', q', _, _, _, rfl, rfl, G.mt, fun y => (G.dq y).trans ?_⟩
        rw [dom y]
        constructor
        · rintro (⟨j, w, h1, h2, h3, h4⟩ | h)
          · exact ⟨j, w, by omega, h2, h3, h4⟩
          · exact ⟨k, ws[k], by omega, hk2, e, h⟩
        · rintro ⟨j, w, h1, h2, h3, h4⟩
          by_cases hj : j < k
          · exact .inl ⟨j, w, hj, h2, h3, h4⟩
          · have : j = k := by omega
            subst this
            exact .inr h4
      · refine brT ⟨by show 2 ≤ 2 ^ 24; decide, ?_⟩
        refine ⟨_, _, gh0 ⟨trivial, bd_ints F, trivial⟩, r1 F ⟨fun i hi => ?_, p, q, _, M, fresh, S⟩⟩
        rcases S.mem i hi with rfl | n
        · exact ⟨by omega, ws[k], by rw [Int.toNat_natCast]; exact hk2, e⟩
        · obtain ⟨j, w, h1, h2, h3, rfl⟩ := (dom _).mp n
          exact ⟨by omega, w, by rw [Int.toNat_natCast]; exact h2, h3⟩
    · refine ⟨_, _, .refl, p, q, _, _, _, rfl, rfl, M, fun y => (dom y).trans ?_⟩
      constructor
      · rintro ⟨j, w, h1, h2, h3, h4⟩; exact ⟨j, w, by omega, h2, h3, h4⟩
      · rintro ⟨j, w, h1, h2, h3, h4⟩
        by_cases hj : j < k
        · exact ⟨j, w, hj, h2, h3, h4⟩
        · have : j = k := by omega
          subst this
          rw [hk2] at h2
          cases h2
          have e' : ws[j].m = false := e
          rw [e'] at h3; cases h3
  · rintro δ c ⟨p, q, o3, o4, o5, rfl, rfl, M, dom⟩
    have M0 : Musts ws as p q := ⟨M, fun i w h1 h2 => (dom _).mpr ⟨i, w, by rw [enumD_len, List.length_map]; exact (List.getElem?_eq_some_iff.mp h1).1, h1, h2, rfl⟩⟩
    have la := I.la
    refine ⟨rfl, rfl, _, rfl, ?_⟩
    refine ⟨by rw [List.length_map]; omega, by rw [List.length_map]; omega, fun k δ c => ∃ (p q : PM) (o3 o4 o5 : Option D), δ = [some (.lst (ws.map (dWin A))), some (.lst (as.map dArr)), some (.ptr 0), o3, o4, o5] ∧ c = [pC A ws as, mC p, mC q] ∧ Musts ws as p q ∧
      ∀ j : Nat, j < k → valG p (j : Int) ≠ none, ⟨p, q, o3, o4, o5, rfl, rfl, M0, fun j h => absurd h (Nat.not_lt_zero _)⟩, fun _ _ _ _ => trivial, ?_, ?_⟩
    · rintro k d δ c hk ⟨p, q, o3, o4, o5, rfl, rfl, M, dom⟩ _
      obtain ⟨hk1, rfl⟩ := rng_at hk
      have hk2 : k < as.length := by
        have : k < (as.map dArr).length := by simpa using hk1
        rw [List.length_map] at this; exact this
      refine ⟨rfl, rfl, _, rfl, ?_⟩
      conv => whnf
      rw [valG_C, isS_map]
      refine br (fun e => ?_) (fun e => ?_)
      · have fresh : valG p (k : Int) = none := by
          cases e2 : valG p (k : Int) with
          | none => rfl
          | some y => rw [e2] at e; cases e
        refine ⟨rfl, (by decide +kernel : ("place_arrival" : Str) ∉ L_Pairing), ?_⟩
        refine fr_place_arrival (extra := []) I M.mt.sym (by omega) (by omega) fresh (fun q' p' G => ?_) (fun F S => ?_)
        · refine brF ⟨_, _, .refl, p', q', _, _, _, rfl, rfl, ⟨G.mt.symA, fun i w h1 h2 => G.dp _ (M.all i w h1 h2)⟩, fun j hj => (G.dq _).mpr ?_⟩
          by_cases h : j < k
          · exact .inl (dom j h)
          · have : j = k := by omega
            subst this
            exact .inr rfl
        · refine brT ⟨by show 2 ≤ 2 ^ 24; decide, ?_⟩
          exact ⟨_, _, gh0 ⟨trivial, bd_ints F, trivial⟩, r2 p q k F M fresh (by omega) (by omega) S⟩
      · refine brF ⟨_, _, .refl, p, q, _, _, _, rfl, rfl, M, fun j hj => ?_⟩
        by_cases h : j < k
        · exact dom j h
        · have : j = k := by omega
          subst this
          intro z
          rw [z] at e; cases e
    · rintro δ c ⟨p, q, o3, o4, o5, rfl, rfl, M, dom⟩
      refine ⟨rfl, (by decide +kernel : ("pairs" : Str) ∉ L_Pairing), ?_⟩
      refine fr_pairs (extra := []) fun ps h1 h2 => ⟨by show 2 ≤ 2 ^ 24; decide, ?_⟩
      refine ⟨_, _, gh0 ⟨trivial, bd_pairsI ps, trivial⟩, r3 p q ps M (fun i hi => dom i ?_) h1 h2⟩
      rw [List.length_map, List.length_range, List.length_map, Int.toNat_natCast]
      exact hi
end AU
/-! PA6: as many as can be. -/
namespace AU
open PySem PySem.Spec PyProof.Rows L2 DL
variable {A : Ad}
theorem inD_int (x : Int) (l : List Int) : inD (.int x) (l.map .int) = decide (x ∈ l) := by
  induction l with
  | nil => simp [inD]
  | cons a l ih =>
    unfold inD at ih ⊢
    rw [List.map_cons, List.any_cons, ih]
    by_cases h : a = x
    · subst h; simp [toV, eqV]
    · have h' : ¬ x = a := fun e => h e.symm
      simp [toV, eqV, h, h']
theorem flat_ints (l : List Int) : (l.map D.int).all flatD = true := by
  rw [List.all_map]
  exact List.all_eq_true.mpr fun _ _ => rfl
def upTo (n : Nat) : List Int := (List.range n).map fun i : Nat => (i : Int)
theorem upTo_succ (n : Nat) : upTo (n + 1) = upTo n ++ [(n : Int)] := by
  unfold upTo
  rw [List.range_succ, List.map_append]
  rfl
theorem mem_upTo {n : Nat} {i : Int} : i ∈ upTo n ↔ 0 ≤ i ∧ i < (n : Int) := by
  unfold upTo
  rw [List.mem_map]
  constructor
  · rintro ⟨k, hk, rfl⟩
    rw [List.mem_range] at hk
    omega
  · rintro ⟨h0, h1⟩
    exact ⟨i.toNat, by rw [List.mem_range]; omega, by omega⟩
theorem upTo_nd (n : Nat) : (upTo n).Nodup := by
  unfold upTo
  refine List.pairwise_map.mpr (List.nodup_range.imp fun {a b} h e => h (by exact_mod_cast e))
/-- the arrivals below n that lack -/
def lackF (p : PM) (n : Nat) : List Int := (upTo n).filter fun i => !(valG p i).isSome
theorem lackF_succ (p : PM) (n : Nat) : lackF p (n + 1) = lackF p n ++ if (valG p (n : Int)).isSome = true then [] else [(n : Int)] := by
  unfold lackF
  rw [upTo_succ, List.filter_append]
  congr 1
  cases h : valG p (n : Int) <;> simp [h]
theorem mem_lackF {p : PM} {n : Nat} {i : Int} : i ∈ lackF p n ↔ (0 ≤ i ∧ i < (n : Int)) ∧ valG p i = none := by
  unfold lackF
  rw [List.mem_filter, mem_upTo]
  cases valG p i <;> simp
theorem others_eq (n : Nat) (R : List Int) : others n R = (upTo n).filter fun i => !decide (i ∈ R) := rfl
theorem others_succ (n : Nat) (R : List Int) : others (n + 1) R = others n R ++ if (n : Int) ∈ R then [] else [(n : Int)] := by
  rw [others_eq, others_eq, upTo_succ, List.filter_append]
  congr 1
  by_cases h : (n : Int) ∈ R <;> simp [h]
structure Cross (ws : List Win) (as : List Arr) (p q : PM) (Rc reached crossed : List Int) : Prop where
  nd : reached.Nodup
  ndX : crossed.Nodup
  lack : ∀ i : Nat, i < as.length → valG p (i : Int) = none → (i : Int) ∈ reached
  sub : ∀ y ∈ reached, y ∈ Rc
  back : ∀ x ∈ crossed, ∃ y ∈ reached, valG q x = some y
  why : ∀ y ∈ reached, valG p y = none ∨ ∃ x ∈ crossed, valG p y = some x
theorem Cross.step {ws : List Win} {as : List Arr} {p q : PM} {Rc reached crossed : List Int} {x y : Int} (C : Cross ws as p q Rc reached crossed) (M : Mt (nbA ws as) q p) (cl : Closed (nbA ws as) q Rc) (hy : y ∈ reached) (hx : x ∈ nbA ws as y) (hn : x ∉ crossed) :
    ∃ y', valG q x = some y' ∧ Cross ws as p q Rc (reached ++ [y']) (crossed ++ [x]) := by
  obtain ⟨y', m', e'⟩ := cl y (C.sub y hy) x hx
  have ep := (M.iff x y').mp e'
  have new : y' ∉ reached := fun m => by
    rcases C.why y' m with z | ⟨x', m2, z⟩
    · rw [ep] at z; cases z
    · rw [ep] at z; cases z; exact hn m2
  refine ⟨y', e', ⟨List.nodup_append.mpr ⟨C.nd, by simp, fun a ha b hb e => ?_⟩, List.nodup_append.mpr ⟨C.ndX, by simp, fun a ha b hb e => ?_⟩, fun i h1 h2 => List.mem_append_left _ (C.lack i h1 h2), fun z hz => ?_, fun z hz => ?_, fun z hz => ?_⟩⟩
  · have : b = y' := by simpa using hb
    subst this; subst e; exact new ha
  · have : b = x := by simpa using hb
    subst this; subst e; exact hn ha
  · rcases List.mem_append.mp hz with h | h
    · exact C.sub z h
    · have : z = y' := by simpa using h
      subst this; exact m'
  · rcases List.mem_append.mp hz with h | h
    · obtain ⟨w, m, e⟩ := C.back z h
      exact ⟨w, List.mem_append_left _ m, e⟩
    · have : z = x := by simpa using h
      subst this; exact ⟨y', by simp, e'⟩
  · rcases List.mem_append.mp hz with h | h
    · rcases C.why z h with e | ⟨w, m, e⟩
      · exact .inl e
      · exact .inr ⟨w, List.mem_append_left _ m, e⟩
    · have : z = y' := by simpa using h
      subst this; exact .inr ⟨x, by simp, ep⟩
theorem closed_app {nb : Int → List Int} {p : PM} {R S : List Int} (h : Closed nb p R) (k : Closed nb p S) : Closed nb p (R ++ S) := fun y hy x hx => by
  rcases List.mem_append.mp hy with m | m
  · obtain ⟨y', m', e⟩ := h y m x hx
    exact ⟨y', List.mem_append_left _ m', e⟩
  · obtain ⟨y', m', e⟩ := k y m x hx
    exact ⟨y', List.mem_append_right _ m', e⟩
theorem keys_kD {acc : List (Key × D)} {n : Nat} (h : acc.map Prod.fst = (upTo n).map Sum.inl) : (acc.map fun kv => kD kv.1) = (upTo n).map .int := by
  have : (acc.map fun kv => kD kv.1) = (acc.map Prod.fst).map kD := by rw [List.map_map]; rfl
  rw [this, h, List.map_map]
  rfl
theorem put_new {acc : List (Key × D)} {n : Nat} {d : D} (h : acc.map Prod.fst = (upTo n).map Sum.inl) : (putG acc (.inl (n : Int)) d).map Prod.fst = (upTo (n + 1)).map Sum.inl := by
  unfold putG
  have hn : ¬ (acc.any fun kv => decide (kv.1 = .inl (n : Int))) = true := fun z => by
    rw [List.any_eq_true] at z
    obtain ⟨kv, hm, e⟩ := z
    have e' : kv.1 = .inl (n : Int) := of_decide_eq_true e
    have : (Sum.inl (n : Int) : Key) ∈ (upTo n).map Sum.inl := by rw [← h]; exact List.mem_map.mpr ⟨kv, hm, e'⟩
    obtain ⟨i, hi, ei⟩ := List.mem_map.mp this
    cases ei
    have := mem_upTo.mp hi
    omega
  rw [if_neg hn, List.map_append, h, upTo_succ, List.map_append]
  rfl
theorem upTo_at {n k : Nat} {d : D} (h : ((upTo n).map D.int)[k]? = some d) : k < n ∧ d = .int (k : Nat) := by
  obtain ⟨x, hx, rfl⟩ := mem_at h
  have hk := (List.getElem?_eq_some_iff.mp hx).1
  unfold upTo at hk hx
  simp at hk
  rw [List.getElem?_map, List.getElem?_range hk] at hx
  cases hx
  exact ⟨hk, rfl⟩
theorem upTo_len (n : Nat) : (upTo n).length = n := by simp [upTo]
theorem pl_most_explained : Pl ["windows", "arrivals", "pairing", "left", "reached", "others", "crossed", "place", "window", "index"] (sp_most_explained A) (rd_most_explained A) := by
  rintro ds cs R Z hb hdd ⟨ws, as, rfl, rfl, I, r⟩
  have la := I.la
  have lw := I.lw
  have rngA : ∀ y x, x ∈ nbA ws as y → (0 ≤ y ∧ y < (as.length : Int)) ∧ 0 ≤ x ∧ x < (ws.length : Int) := fun y x h => nbA_rng h
  refine ⟨0, ws, as, rfl, I, rfl, rfl, _, _, .refl, ?_⟩
  refine ⟨rfl, rfl, _, rfl, ?_⟩
  refine ⟨by rw [List.length_map]; omega, by rw [List.length_map]; omega, fun k acc c => ∃ (p q : PM) (Rc : List Int), acc.map Prod.fst = (upTo k).map Sum.inl ∧ c = [pC A ws as, mC p, mC q] ∧ Mt (nbA ws as) q p ∧ Closed (nbA ws as) q Rc ∧
    (∀ j : Nat, j < k → valG p (j : Int) = none → (j : Int) ∈ Rc) ∧ (∀ y, valG p y ≠ none → ∃ j : Nat, j < k ∧ y = (j : Int)) ∧ (∀ y ∈ Rc, 0 ≤ y ∧ y < (as.length : Int)), ?_, fun _ _ _ _ => trivial, ?_, ?_⟩
  · exact ⟨[], [], [], rfl, rfl, mt_nil, fun y hy => (by cases hy), fun j h => absurd h (Nat.not_lt_zero _), fun y h => absurd rfl h, fun y hy => (by cases hy)⟩
  · rintro k d acc c hk ⟨p, q, Rc, hacc, rfl, M, cl, lack, dom, rg⟩ _
    obtain ⟨hk1, rfl⟩ := rng_at hk
    have hk2 : k < as.length := by
      have : k < (as.map dArr).length := by simpa using hk1
      rw [List.length_map] at this; exact this
    have fresh : valG p (k : Int) = none := Classical.byContradiction fun n => by
      obtain ⟨j, h1, h2⟩ := dom _ n
      omega
    have hal : acc.length = k := by
      have := congrArg List.length hacc
      rw [List.length_map, List.length_map, upTo_len] at this
      exact this
    refine brT ⟨rfl, (by decide +kernel : ("place_arrival" : Str) ∉ L_Pairing), ?_⟩
    refine fr_place_arrival (extra := []) I M (by omega) (by omega) fresh (fun q' p' G => ?_) (fun F S => ?_)
    · refine ⟨by show acc.length < 2 ^ 24; omega, .non, _, .refl, trivial, p', q', Rc, put_new hacc, rfl, G.mt, G.cl Rc cl, fun j hj e => ?_, fun y h => ?_, rg⟩
      · by_cases h : j < k
        · refine lack j h (Classical.byContradiction fun n => (G.dq _).mpr (.inl n) e)
        · have : j = k := by omega
          subst this
          exact absurd e ((G.dq _).mpr (.inr rfl))
      · rcases (G.dq y).mp h with z | z
        · obtain ⟨j, h1, h2⟩ := dom y z
          exact ⟨j, by omega, h2⟩
        · exact ⟨k, by omega, z⟩
    · refine ⟨by show acc.length < 2 ^ 24; omega, _, _, .refl, bd_ints F, p, q, Rc ++ F, put_new hacc, rfl, M, closed_app cl S.cl, fun j hj e => ?_, fun y h => ?_, fun y hy => ?_⟩
      · by_cases h : j < k
        · exact List.mem_append_left _ (lack j h e)
        · have : j = k := by omega
          subst this
          exact List.mem_append_right _ S.root
      · obtain ⟨j, h1, h2⟩ := dom y h
        exact ⟨j, by omega, h2⟩
      · rcases List.mem_append.mp hy with m | m
        · exact rg y m
        · rcases S.mem y m with z | z
          · subst z; omega
          · obtain ⟨j, h1, h2⟩ := dom y z
            omega
  · rintro acc c ⟨p, q, Rc, hacc, rfl, M, cl, lack, dom, rg⟩
    have hn : ((List.range (((as.map dArr).length : Nat) : Int).toNat).map fun i : Nat => D.int (0 + (i : Int))).length = as.length := by simp
    rw [hn] at hacc lack dom
    refine ⟨3, acc, rfl, ?_⟩
    show ∃ I : Nat → List D → Cs → Prop, _
    rw [keys_kD hacc]
    refine ⟨fun k l c => l = (lackF p k).map .int ∧ c = [pC A ws as, mC p, mC q, .lk acc], ⟨rfl, rfl⟩, fun k l c h => by rw [h.2]; rfl, ?_, ?_⟩
    · rintro k d l c hk ⟨rfl, rfl⟩ _
      obtain ⟨hk1, rfl⟩ := upTo_at hk
      refine ⟨rfl, rfl, _, rfl, ?_⟩
      conv => whnf
      rw [valG_C, isS_map]
      have hl : (lackF p k).length ≤ k := by
        have := List.length_filter_le (fun i => !(valG p i).isSome) (upTo k)
        rw [upTo_len] at this
        exact this
      refine br (fun e => ⟨by rw [List.length_map]; show _ < 2 ^ 24; omega, _, _, .refl, trivial, ?_, rfl⟩) (fun e => ⟨_, .refl, ?_, rfl⟩)
      · have e' : (valG p (k : Int)).isSome = false := by
          cases h : (valG p (k : Int)).isSome with
          | false => rfl
          | true => rw [h] at e; cases e
        rw [lackF_succ, e', List.map_append]
        rfl
      · have e' : (valG p (k : Int)).isSome = true := by
          cases h : (valG p (k : Int)).isSome with
          | true => rfl
          | false => rw [h] at e; cases e
        rw [lackF_succ, e', if_pos rfl, List.append_nil]
    · rintro l c ⟨rfl, rfl⟩
      rw [List.length_map, upTo_len]
      refine ⟨rfl, ?_⟩
      refine ⟨by show 0 ≤ 2 ^ 24; decide, ?_⟩
      -- the crossing
      refine ⟨fun m δ c => ∃ (reached crossed : List Int) (place : Nat) (o5 o8 : Option D), m = as.length - place ∧
        δ = [some (.lst (ws.map (dWin A))), some (.lst (as.map dArr)), some (.ptr 0), some (.ptr 3), some (.ptr 4), o5, some (.ptr 5), some (.int place), o8, none] ∧
        c = [pC A ws as, mC p, mC q, .dK acc, .lst (reached.map .int), .lst (crossed.map .int)] ∧ Cross ws as p q Rc reached crossed ∧ place ≤ reached.length ∧ ∀ (j : Nat) (y : Int), j < place → reached[j]? = some y → ∀ x ∈ nbA ws as y, x ∈ crossed,
        ⟨_, lackF p as.length, [], 0, none, none, rfl, rfl, rfl, ⟨(upTo_nd _).filter _, by simp, fun i h1 h2 => mem_lackF.mpr ⟨⟨by omega, by omega⟩, h2⟩, fun y hy => ?_, fun x hx => (by cases hx), fun y hy => .inl (mem_lackF.mp hy).2⟩, Nat.zero_le _, fun j y h => absurd h (Nat.not_lt_zero _)⟩, ?_⟩
      · obtain ⟨⟨h0, h1⟩, h2⟩ := mem_lackF.mp hy
        have e : y = (y.toNat : Int) := by omega
        rw [e]
        exact lack _ (by omega) (by rw [← e]; exact h2)
      · rintro m δ c ⟨reached, crossed, place, o5, o8, rfl, rfl, rfl, C, hple, done⟩ _
        have lr : reached.length ≤ as.length := nd_len C.nd (fun y hy => rg y (C.sub y hy)) (Int.le_refl _)
        refine br (fun e => ?_) (fun e => ?_)
        · have hlt : place < reached.length := by
            have := of_decide_eq_true (show decide ((place : Int) < ((reached.map D.int).length : Nat)) = true from e)
            rw [List.length_map] at this
            omega
          have ey : reached[place]? = some reached[place] := List.getElem?_eq_getElem hlt
          have hmem : reached[place] ∈ reached := List.getElem_mem hlt
          obtain ⟨y0, y1⟩ := rg _ (C.sub _ hmem)
          refine ⟨rfl, (by decide +kernel : ("windows_for" : Str) ∉ L_Pairing), .int reached[place], DL.atI_nat (by rw [List.getElem?_map, ey]; rfl), ?_⟩
          refine fr_windows_for (extra := [.dK acc, .lst (reached.map .int), .lst (crossed.map .int)]) I y0 y1 ?_
          refine ⟨fun k δ c => ∃ (reached' crossed' : List Int) (o8 : Option D),
            δ = [some (.lst (ws.map (dWin A))), some (.lst (as.map dArr)), some (.ptr 0), some (.ptr 3), some (.ptr 4), o5, some (.ptr 5), some (.int place), o8, none] ∧
            c = [pC A ws as, mC p, mC q, .dK acc, .lst (reached'.map .int), .lst (crossed'.map .int)] ∧ Cross ws as p q Rc reached' crossed' ∧ place < reached'.length ∧ reached'[place]? = some reached[place] ∧
            (∀ (j : Nat) (y : Int), j < place → reached'[j]? = some y → ∀ x ∈ nbA ws as y, x ∈ crossed') ∧ ∀ x ∈ (nbA ws as reached[place]).take k, x ∈ crossed',
            ⟨reached, crossed, o8, rfl, rfl, C, hlt, ey, done, fun x hx => by cases hx⟩, fun _ _ _ _ => trivial, ?_, ?_⟩
          · rintro k d δ c hk ⟨reached', crossed', o8, rfl, rfl, C', hlt', ey', done', fin'⟩ _
            obtain ⟨x, hx, rfl⟩ := mem_at hk
            have hxm : x ∈ nbA ws as reached[place] := List.mem_of_getElem? hx
            have hym : reached[place] ∈ reached' := List.mem_of_getElem? ey'
            have lr' : reached'.length ≤ as.length := nd_len C'.nd (fun y hy => rg y (C'.sub y hy)) (Int.le_refl _)
            have lx' : crossed'.length ≤ ws.length := nd_len (m := (ws.length : Int)) C'.ndX (fun x hx => by
              obtain ⟨y, _, e⟩ := C'.back x hx
              exact (rngA y x (M.ed x y e)).2) (Int.le_refl _)
            refine ⟨rfl, flat_ints crossed', ?_⟩
            conv => whnf
            rw [inD_int]
            refine br (fun e => ?_) (fun e => ?_)
            · have hn : x ∉ crossed' := fun h => by rw [decide_eq_true h] at e; cases e
              obtain ⟨y', e', C2⟩ := C'.step M cl hym hxm hn
              refine ⟨rfl, ?_⟩
              refine ⟨by rw [List.length_map]; show _ < 2 ^ 24; omega, rfl, rfl, rfl, _, rfl, .int y', by rw [valG_C, e']; rfl, ?_⟩
              refine ⟨by rw [List.length_map]; show _ < 2 ^ 24; omega, _, _, .refl, reached' ++ [y'], crossed' ++ [x], _, rfl, ?_, C2, by rw [List.length_append]; omega, ?_, fun j y hj ej z hz => ?_, fun z hz => ?_⟩
              · rw [List.map_append, List.map_append]; rfl
              · rw [List.getElem?_append_left hlt']; exact ey'
              · rw [List.getElem?_append_left (by omega)] at ej
                exact List.mem_append_left _ (done' j y hj ej z hz)
              · rw [take_snoc hx] at hz
                rcases List.mem_append.mp hz with hz | hz
                · exact List.mem_append_left _ (fin' z hz)
                · exact List.mem_append_right _ hz
            · have hn : x ∈ crossed' := by
                by_cases h : x ∈ crossed'
                · exact h
                · rw [decide_eq_false h] at e; cases e
              refine ⟨_, _, .refl, reached', crossed', _, rfl, rfl, C', hlt', ey', done', fun z hz => ?_⟩
              rw [take_snoc hx] at hz
              rcases List.mem_append.mp hz with hz | hz
              · exact fin' z hz
              · have : z = x := List.mem_singleton.mp hz
                subst this; exact hn
          · rintro δ c ⟨reached', crossed', o8, rfl, rfl, C', hlt', ey', done', fin'⟩
            rw [List.length_map, List.take_length] at fin'
            have lr' : reached'.length ≤ as.length := nd_len C'.nd (fun y hy => rg y (C'.sub y hy)) (Int.le_refl _)
            refine ⟨_, _, as.length - (place + 1), by omega, .refl, reached', crossed', place + 1, _, _, rfl, rfl, rfl, C', hlt', fun j y hj ej z hz => ?_⟩
            by_cases h : j < place
            · exact done' j y h ej z hz
            · have : j = place := by omega
              subst this
              rw [ey'] at ej; cases ej
              exact fin' z hz
        · have e' : place = reached.length := not_done (fun z => by rw [show decide ((place : Int) < ((reached.map D.int).length : Nat)) = false from e] at z; cases z) hple
          subst e'
          refine ⟨rfl, rfl, _, rfl, ?_⟩
          refine ⟨by rw [List.length_map]; omega, by rw [List.length_map]; omega, fun k l c => l = (others k reached).map .int ∧ c = [pC A ws as, mC p, mC q, .dK acc, .lst (reached.map .int), .lst (crossed.map .int)], ⟨rfl, rfl⟩, fun _ _ _ _ => trivial, ?_, ?_⟩
          · rintro k d l c hk ⟨rfl, rfl⟩ _
            obtain ⟨hk1, rfl⟩ := rng_at hk
            have hk2 : k < as.length := by
              have : k < (as.map dArr).length := by simpa using hk1
              rw [List.length_map] at this; exact this
            have hl : (others k reached).length ≤ k := by
              have := List.length_filter_le (fun i => !decide (i ∈ reached)) (upTo k)
              rw [upTo_len] at this
              exact this
            refine ⟨rfl, flat_ints reached, ?_⟩
            conv => whnf
            rw [inD_int]
            refine br (fun e => ⟨by rw [List.length_map]; show _ < 2 ^ 24; omega, _, _, .refl, trivial, ?_, rfl⟩) (fun e => ⟨_, .refl, ?_, rfl⟩)
            · have hn : (k : Int) ∉ reached := fun h => by rw [decide_eq_true h] at e; cases e
              rw [others_succ, if_neg hn, List.map_append]
              rfl
            · have hn : (k : Int) ∈ reached := by
                by_cases h : (k : Int) ∈ reached
                · exact h
                · rw [decide_eq_false h] at e; cases e
              rw [others_succ, if_pos hn, List.append_nil]
          · rintro l c ⟨rfl, rfl⟩
            rw [hn]
            refine ⟨rfl, (by decide +kernel : ("pairs" : Str) ∉ L_Pairing), ?_⟩
            refine fr_pairs (extra := [.dK acc, .lst (reached.map .int), .lst (crossed.map .int)]) fun ps h1 h2 => ?_
            refine ⟨crossed, rfl, fun X hX hs => ⟨by show 3 ≤ 2 ^ 24; decide, ?_⟩⟩
            refine ⟨_, _, gh0 ⟨bd_pairsI ps, bd_ints X, bd_ints _, trivial⟩, r p q ps reached X ?_ h1 h2 hs⟩
            refine ⟨M, C.nd, hX.nodup_iff.mpr C.ndX, C.lack, fun y hy => rg y (C.sub y hy), fun y hy x hx => ?_, fun x hx => C.back x (hX.mem_iff.mp hx), fun y hy => (C.why y hy).imp id fun ⟨x, m, e⟩ => ⟨x, hX.mem_iff.mpr m, e⟩⟩
            obtain ⟨j, hj, ej⟩ := List.getElem_of_mem hy
            exact hX.mem_iff.mpr (done j y hj (by rw [List.getElem?_eq_getElem hj, ej]) x hx)
end AU
/-! M60: ways and pairings: counts. -/
namespace AU
open PySem PySem.Spec PyProof.Rows L2 DL
/-- a way to give each arrival a window of its own, or none -/
structure WayOk (ws : List Win) (as : List Arr) (v : List (Option Int)) : Prop where
  len : v.length = as.length
  adm : ∀ (k : Nat) (i : Int) (a : Arr), v[k]? = some (some i) → as[k]? = some a → 0 ≤ i ∧ ∃ w, ws[i.toNat]? = some w ∧ adm w a = true
  nd : (v.filterMap id).Nodup
/-- window, arrival -/
def prs : Nat → List (Option Int) → List (Int × Int)
  | _, [] => []
  | n, none :: v => prs (n + 1) v
  | n, some w :: v => (w, (n : Int)) :: prs (n + 1) v
theorem prs_fst : ∀ (v : List (Option Int)) (n : Nat), (prs n v).map Prod.fst = v.filterMap id
  | [], n => rfl
  | none :: v, n => by show (prs (n + 1) v).map Prod.fst = _; rw [prs_fst v]; rfl
  | some w :: v, n => by show w :: (prs (n + 1) v).map Prod.fst = _; rw [prs_fst v]; rfl
theorem prs_mem : ∀ {v : List (Option Int)} {n : Nat} {w a : Int}, (w, a) ∈ prs n v → ∃ k : Nat, v[k]? = some (some w) ∧ a = ((n + k : Nat) : Int)
  | [], n, w, a, h => by cases h
  | none :: v, n, w, a, h => by
    obtain ⟨k, h1, h2⟩ := prs_mem (v := v) (n := n + 1) h
    exact ⟨k + 1, by simpa using h1, by rw [h2]; congr 1; omega⟩
  | some x :: v, n, w, a, h => by
    rcases List.mem_cons.mp (show (w, a) ∈ (x, (n : Int)) :: prs (n + 1) v from h) with e | h
    · cases e
      exact ⟨0, by simp, by simp⟩
    · obtain ⟨k, h1, h2⟩ := prs_mem (v := v) (n := n + 1) h
      exact ⟨k + 1, by simpa using h1, by rw [h2]; congr 1; omega⟩
theorem mem_prs : ∀ {v : List (Option Int)} {n k : Nat} {w : Int}, v[k]? = some (some w) → (w, ((n + k : Nat) : Int)) ∈ prs n v
  | [], n, k, w, h => by simp at h
  | none :: v, n, 0, w, h => by simp at h
  | none :: v, n, k + 1, w, h => by
    have := mem_prs (v := v) (n := n + 1) (k := k) (w := w) (by simpa using h)
    rw [show n + 1 + k = n + (k + 1) by omega] at this
    exact this
  | some x :: v, n, 0, w, h => by
    simp at h
    subst h
    exact List.mem_cons_self
  | some x :: v, n, k + 1, w, h => by
    have := mem_prs (v := v) (n := n + 1) (k := k) (w := w) (by simpa using h)
    rw [show n + 1 + k = n + (k + 1) by omega] at this
    exact List.mem_cons_of_mem _ this
theorem prs_snd : ∀ (v : List (Option Int)) (n : Nat), ((prs n v).map Prod.snd).Nodup
  | [], n => by simp [prs]
  | none :: v, n => prs_snd v (n + 1)
  | some w :: v, n => by
    refine List.nodup_cons.mpr ⟨fun h => ?_, prs_snd v (n + 1)⟩
    obtain ⟨⟨w', a⟩, hm, e⟩ := List.mem_map.mp h
    obtain ⟨k, _, e2⟩ := prs_mem hm
    have e' : a = (n : Int) := e
    omega
/-- the pairs of a way differ in both -/
theorem prs_pair {v : List (Option Int)} (nd : (v.filterMap id).Nodup) : (prs 0 v).Pairwise fun x y => x.1 ≠ y.1 ∧ x.2 ≠ y.2 := by
  have h1 : (prs 0 v).Pairwise fun x y => x.1 ≠ y.1 := by
    have := prs_fst v 0
    rw [← this] at nd
    exact List.pairwise_map.mp nd
  have h2 : (prs 0 v).Pairwise fun x y => x.2 ≠ y.2 := List.pairwise_map.mp (prs_snd v 0)
  exact h1.and h2
theorem way_prs {ws : List Win} {as : List Arr} {v : List (Option Int)} (W : WayOk ws as v) {w a : Int} (h : (w, a) ∈ prs 0 v) : w ∈ nbA ws as a ∧ a < (as.length : Int) := by
  obtain ⟨k, h1, h2⟩ := prs_mem h
  have hk := (List.getElem?_eq_some_iff.mp h1).1
  rw [W.len] at hk
  have ha : as[k]? = some as[k] := List.getElem?_eq_getElem hk
  obtain ⟨h0, w', e1, e2⟩ := W.adm k w _ h1 ha
  refine ⟨nbA_mem.mpr ⟨by omega, h0, w', as[k], e1, ?_, e2⟩, by omega⟩
  have : a.toNat = k := by omega
  rw [this]; exact ha
/-- no way is larger than a pairing that is closed where it lacks -/
theorem way_le {ws : List Win} {as : List Arr} {p q : PM} {Rs X : List Int} {v : List (Option Int)} (M : Most ws as p q Rs X) (W : WayOk ws as v) : (v.filterMap id).length ≤ p.length := by
  classical
  let g : Int × Int → Int := fun e => if e.2 ∈ Rs then (valG q e.1).getD 0 else e.2
  have gR : ∀ e ∈ prs 0 v, e.2 ∈ Rs → ∃ y ∈ Rs, valG q e.1 = some y ∧ g e = y := fun e he hr => by
    obtain ⟨y, hy, e1⟩ := M.back e.1 (M.nb e.2 hr e.1 (way_prs W (w := e.1) (a := e.2) he).1)
    exact ⟨y, hy, e1, by show (if e.2 ∈ Rs then (valG q e.1).getD 0 else e.2) = y; rw [if_pos hr, e1]; rfl⟩
  have gN : ∀ e, e.2 ∉ Rs → g e = e.2 := fun e hr => if_neg hr
  have nd : ((prs 0 v).map g).Nodup := by
    refine List.pairwise_map.mpr ((prs_pair W.nd).imp_of_mem fun {x y} hx hy ⟨h1, h2⟩ e => ?_)
    by_cases hxr : x.2 ∈ Rs
    · obtain ⟨a, ha, e1, e2⟩ := gR x hx hxr
      by_cases hyr : y.2 ∈ Rs
      · obtain ⟨b, hb, e3, e4⟩ := gR y hy hyr
        rw [e2, e4] at e
        subst e
        have z1 := (M.mt.iff x.1 a).mp e1
        have z2 := (M.mt.iff y.1 a).mp e3
        rw [z1] at z2
        exact h1 (Option.some.inj z2)
      · rw [e2, gN y hyr] at e
        exact hyr (e ▸ ha)
    · by_cases hyr : y.2 ∈ Rs
      · obtain ⟨b, hb, e3, e4⟩ := gR y hy hyr
        rw [e4, gN x hxr] at e
        exact hxr (e ▸ hb)
      · rw [gN x hxr, gN y hyr] at e
        exact h2 e
  have sub : (prs 0 v).map g ⊆ p.map Prod.fst := fun z hz => by
    obtain ⟨e, he, rfl⟩ := List.mem_map.mp hz
    refine Classical.byContradiction fun n => ?_
    have hn := val_none.mpr n
    by_cases hr : e.2 ∈ Rs
    · obtain ⟨y, hy, e1, e2⟩ := gR e he hr
      rw [e2] at hn
      rw [(M.mt.iff e.1 y).mp e1] at hn
      cases hn
    · rw [gN e hr] at hn
      obtain ⟨k, _, e2⟩ := prs_mem (w := e.1) (a := e.2) he
      have hlt := (way_prs W (w := e.1) (a := e.2) he).2
      have e2' : e.2 = (k : Int) := by rw [e2]; simp
      exact hr (e2' ▸ M.lack k (by omega) (by rw [← e2']; exact hn))
  have := nd_sub nd sub
  rw [List.length_map, List.length_map] at this
  rw [← prs_fst v 0, List.length_map]
  exact this
/-- the way that a pairing makes -/
def wayOf (n : Nat) (p : PM) : List (Option Int) := (upTo n).map fun i => valG p i
theorem wayOf_at {n k : Nat} {p : PM} (h : k < n) : (wayOf n p)[k]? = some (valG p (k : Int)) := by
  unfold wayOf upTo
  rw [List.map_map, List.getElem?_map, List.getElem?_range h]
  rfl
theorem wayOf_ok {ws : List Win} {as : List Arr} {p q : PM} (M : Mt (nbW ws as) p q) : WayOk ws as (wayOf as.length p) := by
  refine ⟨by simp [wayOf, upTo], fun k i a h1 h2 => ?_, ?_⟩
  · have hk := (List.getElem?_eq_some_iff.mp h2).1
    rw [wayOf_at hk] at h1
    obtain ⟨h0, _, w, a', e1, e2, e3⟩ := nbW_mem.mp (M.ed _ _ (Option.some.inj h1))
    rw [Int.toNat_natCast, h2] at e2
    cases e2
    exact ⟨h0, w, e1, e3⟩
  · unfold wayOf
    rw [List.filterMap_map]
    refine List.pairwise_filterMap.mpr ((upTo_nd as.length).imp fun {x y} hne a ha b hb e => ?_)
    have ha' : valG p x = some a := ha
    have hb' : valG p y = some b := hb
    subst e
    have z1 := (M.iff x a).mp ha'
    have z2 := (M.iff y a).mp hb'
    rw [z1] at z2
    exact hne (Option.some.inj z2)
theorem wayOf_len {ws : List Win} {as : List Arr} {p q : PM} (M : Mt (nbW ws as) p q) : p.length ≤ ((wayOf as.length p).filterMap id).length := by
  have e : (wayOf as.length p).filterMap id = (upTo as.length).filterMap fun i => valG p i := by
    unfold wayOf
    rw [List.filterMap_map]
    rfl
  have l : ∀ l : List Int, (l.filterMap fun i => valG p i).length = (l.filter fun i => (valG p i).isSome).length := by
    intro l
    induction l with
    | nil => rfl
    | cons a l ih =>
      cases h : valG p a with
      | none => simp [h, ih]
      | some y => simp [h, ih]
  rw [e, l]
  have := nd_sub (l := p.map Prod.fst) (l' := (upTo as.length).filter fun i => (valG p i).isSome) M.kp fun x hx => by
    cases h : valG p x with
    | none => exact absurd hx (val_none.mp h)
    | some y =>
      have := (nbW_rng (M.ed x y h)).2
      exact List.mem_filter.mpr ⟨mem_upTo.mpr this, by rw [h]; rfl⟩
  rw [List.length_map] at this
  exact this
theorem wayOf_mem {ws : List Win} {as : List Arr} {p q : PM} (M : Mt (nbW ws as) p q) {i : Int} (h : valG q i ≠ none) : some i ∈ wayOf as.length p := by
  cases e : valG q i with
  | none => exact absurd e h
  | some a =>
    have ep := (M.iff a i).mpr e
    have := (nbW_rng (M.ed a i ep)).2
    exact List.mem_map.mpr ⟨a, mem_upTo.mpr this, ep⟩
/-- too few arrivals: no way has all of them -/
theorem noWay {ws : List Win} {as : List Arr} {F : List Int} {v : List (Option Int)} (N : NoWay ws as F) (W : WayOk ws as v) (h : ∀ i ∈ F, some i ∈ v) : False := by
  classical
  obtain ⟨p, q, r, M, hr, S⟩ := N.st
  let E := (prs 0 v).filter fun e => decide (e.1 ∈ F)
  have inE : ∀ e ∈ E, e ∈ prs 0 v ∧ e.1 ∈ F := fun e he => ⟨(List.mem_filter.mp he).1, of_decide_eq_true (List.mem_filter.mp he).2⟩
  have g : ∀ e ∈ E, ∃ y ∈ F, valG p e.2 = some y := fun e he => by
    obtain ⟨h1, h2⟩ := inE e he
    exact S.cl e.1 h2 e.2 (nb_sym.mpr (way_prs W (w := e.1) (a := e.2) h1).1)
  have l1 : F.length ≤ E.length := by
    have := nd_sub (l := F) (l' := E.map Prod.fst) S.nd fun i hi => by
      obtain ⟨k, hk, e⟩ := List.getElem_of_mem (h i hi)
      have hv : v[k]? = some (some i) := by rw [List.getElem?_eq_getElem hk, e]
      exact List.mem_map.mpr ⟨_, List.mem_filter.mpr ⟨mem_prs (n := 0) hv, decide_eq_true hi⟩, rfl⟩
    rw [List.length_map] at this
    exact this
  have l2 : E.length ≤ (F.erase r).length := by
    have := nd_sub (l := E.map fun e => (valG p e.2).getD 0) (l' := F.erase r) (List.pairwise_map.mpr (((prs_pair W.nd).filter _).imp_of_mem fun {x y} hx hy ⟨h1, h2⟩ e => ?_)) fun z hz => by
      obtain ⟨e, he, rfl⟩ := List.mem_map.mp hz
      obtain ⟨y, hy, e1⟩ := g e he
      show (valG p e.2).getD 0 ∈ F.erase r
      rw [e1]
      show y ∈ F.erase r
      refine (List.mem_erase_of_ne fun z => ?_).mpr hy
      subst z
      rw [(M.iff e.2 y).mp e1] at hr
      cases hr
    · obtain ⟨a, _, e1⟩ := g x hx
      obtain ⟨b, _, e2⟩ := g y hy
      have e' : (valG p x.2).getD 0 = (valG p y.2).getD 0 := e
      rw [e1, e2] at e'
      have e' : a = b := e'
      subst e'
      have z1 := (M.iff x.2 a).mp e1
      have z2 := (M.iff y.2 a).mp e2
      rw [z1] at z2
      exact h2 (Option.some.inj z2)
    · rw [List.length_map] at this
      exact this
  have := List.length_erase_of_mem S.root
  have := List.length_pos_of_mem S.root
  omega
/-- too few windows: no way gives each of them one -/
theorem noWhole {ws : List Win} {as : List Arr} {p q : PM} {r : Int} {F : List Int} {v : List (Option Int)} (M : Mt (nbW ws as) p q) (hr : valG p r = none) (S : Stuck (nbA ws as) q p r F) (hF : ∀ y ∈ F, 0 ≤ y ∧ y < (as.length : Int)) (W : WayOk ws as v) (h : none ∉ v) : False := by
  classical
  let E := (prs 0 v).filter fun e => decide (e.2 ∈ F)
  have inE : ∀ e ∈ E, e ∈ prs 0 v ∧ e.2 ∈ F := fun e he => ⟨(List.mem_filter.mp he).1, of_decide_eq_true (List.mem_filter.mp he).2⟩
  have g : ∀ e ∈ E, ∃ y ∈ F, valG q e.1 = some y := fun e he => by
    obtain ⟨h1, h2⟩ := inE e he
    exact S.cl e.2 h2 e.1 (way_prs W (w := e.1) (a := e.2) h1).1
  have l1 : F.length ≤ E.length := by
    have := nd_sub (l := F) (l' := E.map Prod.snd) S.nd fun y hy => by
      have hb := hF y hy
      have hk : y.toNat < v.length := by rw [W.len]; omega
      have hv : v[y.toNat]? = some v[y.toNat] := List.getElem?_eq_getElem hk
      cases e : v[y.toNat] with
      | none => exact absurd (e ▸ List.getElem_mem hk) h
      | some w =>
        rw [e] at hv
        have := mem_prs (n := 0) hv
        have ey : ((0 + y.toNat : Nat) : Int) = y := by omega
        rw [ey] at this
        exact List.mem_map.mpr ⟨_, List.mem_filter.mpr ⟨this, decide_eq_true hy⟩, rfl⟩
    rw [List.length_map] at this
    exact this
  have l2 : E.length ≤ (F.erase r).length := by
    have := nd_sub (l := E.map fun e => (valG q e.1).getD 0) (l' := F.erase r) (List.pairwise_map.mpr (((prs_pair W.nd).filter _).imp_of_mem fun {x y} hx hy ⟨h1, h2⟩ e => ?_)) fun z hz => by
      obtain ⟨e, he, rfl⟩ := List.mem_map.mp hz
      obtain ⟨y, hy, e1⟩ := g e he
      show (valG q e.1).getD 0 ∈ F.erase r
      rw [e1]
      show y ∈ F.erase r
      refine (List.mem_erase_of_ne fun z => ?_).mpr hy
      subst z
      rw [(M.iff y e.1).mpr e1] at hr
      cases hr
    · obtain ⟨a, _, e1⟩ := g x hx
      obtain ⟨b, _, e2⟩ := g y hy
      have e' : (valG q x.1).getD 0 = (valG q y.1).getD 0 := e
      rw [e1, e2] at e'
      have e' : a = b := e'
      subst e'
      have z1 := (M.iff a x.1).mpr e1
      have z2 := (M.iff a y.1).mpr e2
      rw [z1] at z2
      exact h1 (Option.some.inj z2)
    · rw [List.length_map] at this
      exact this
  have := List.length_erase_of_mem S.root
  have := List.length_pos_of_mem S.root
  omega
end AU
/-! SL: the promises of the defs that the audits' laws share. -/
namespace AU
open PySem PySem.Spec PyProof.Rows L2 DL
def dWT (w : Win) : D := .tup (fW w)
def boxC (x y z : Int) : Cel := .lst [.int x, .int y, .int z]
structure BoxOk (x y z n : Int) : Prop where
  x0 : 0 ≤ x
  y0 : 0 ≤ y
  y1 : y < 2147483629
  z0 : 0 ≤ z
  zn : z ≤ n
def sp__law_cell (A : Ad) : SpD := fun ds cs R _ => ∃ (ns : List Int) (k : Int), ds = [.scr ns, .int k] ∧ 0 ≤ k ∧ ∀ c : Int, R (.int c) cs
def sp__law_box (A : Ad) : SpD := fun ds cs R _ => ∃ c : Int, ds = [.int c] ∧ ∀ x y, BoxOk x y 0 0 → R (.ptr cs.length) (cs ++ [boxC x y 0])
def sp__law_take (A : Ad) : SpD := fun ds cs R _ => ∃ (x y z n many : Int), ds = [.ptr 0, .int many] ∧ cs = [boxC x y z] ∧ BoxOk x y z n ∧ n < 1000000 ∧ 1 ≤ many ∧ many < 1000000 ∧
  ∀ x' z' d, BoxOk x' y z' (n + 1) → 0 ≤ d → d < many → R (.int d) [boxC x' y z']
def sp__law_admits (A : Ad) : SpD := fun ds cs R _ => ∃ (w : Win) (a : Arr), ds = [dWT w, dArr a] ∧ R (.bl (adm w a)) cs
def sp__law_made (A : Ad) : SpD := fun ds cs R _ => ∃ ws : List Win, ds = [.lst (ws.map dWT)] ∧ cs = [] ∧ ws.length ≤ 60 ∧ (∀ w ∈ ws, w.ok) ∧ R (.lst (ws.map (dWin A))) cs
/-- pairs that a checker takes -/
structure GoodP (ws : List Win) (as : List Arr) (ps : List (Int × Int)) : Prop where
  nd1 : (ps.map Prod.fst).Nodup
  nd2 : (ps.map Prod.snd).Nodup
  ed : ∀ e ∈ ps, e.2 ∈ nbA ws as e.1
def sp__law_are_pairs (A : Ad) : SpD := fun ds cs R _ => ∃ (ws : List Win) (as : List Arr) (ps : List (Int × Int)), ds = [.lst (ws.map dWT), .lst (as.map dArr), .lst (ps.map pairI)] ∧ cs = [] ∧ In ws as ∧ GoodP ws as ps ∧ R (.bl true) cs
def sp__law_is_explanation (A : Ad) : SpD := fun ds cs R _ => ∃ (ws : List Win) (as : List Arr) (ps : List (Int × Int)), ds = [.lst (ws.map dWT), .lst (as.map dArr), .lst (ps.map pairI)] ∧ cs = [] ∧ In ws as ∧ GoodP ws as ps ∧ ps.length = as.length ∧
  (∀ (i : Nat) (w : Win), ws[i]? = some w → w.m = true → (i : Int) ∈ ps.map Prod.snd) ∧ R (.bl true) cs
def sp__law_are_indexes (A : Ad) : SpD := fun ds cs R _ => ∃ (l : List Int) (n : Int), ds = [.lst (l.map .int), .int n] ∧ cs = [] ∧ l.Nodup ∧ (∀ i ∈ l, 0 ≤ i ∧ i < n) ∧ n ≤ 60 ∧ R (.bl true) cs
def sp__law_shows_missing (A : Ad) : SpD := fun ds cs R _ => ∃ (ws : List Win) (as : List Arr) (F : List Int), ds = [.lst (ws.map dWT), .lst (as.map dArr), .lst (F.map .int)] ∧ cs = [] ∧ In ws as ∧ NoWay ws as F ∧ R (.bl true) cs
/-- arrivals that have too few windows -/
structure TooMany (ws : List Win) (as : List Arr) (F : List Int) : Prop where
  rng : ∀ y ∈ F, 0 ≤ y ∧ y < (as.length : Int)
  st : ∃ p q r, Mt (nbA ws as) q p ∧ valG p r = none ∧ Stuck (nbA ws as) q p r F
def sp__law_shows_too_many (A : Ad) : SpD := fun ds cs R _ => ∃ (ws : List Win) (as : List Arr) (F : List Int), ds = [.lst (ws.map dWT), .lst (as.map dArr), .lst (F.map .int)] ∧ cs = [] ∧ In ws as ∧ TooMany ws as F ∧ R (.bl true) cs
end AU
/-! SX: the promises of k59's own defs. -/
namespace AU
open PySem PySem.Spec PyProof.Rows L2 DL
/-- a way that has all windows that must arrive, and gives c arrivals a window -/
structure Pn (ws : List Win) (as : List Arr) (c : Nat) (v : List (Option Int)) : Prop where
  ok : WayOk ws as v
  must : ∀ (i : Nat) (w : Win), ws[i]? = some w → w.m = true → some (i : Int) ∈ v
  cnt : (v.filterMap id).length = c
structure Planted (ws : List Win) (as : List Arr) : Prop where
  lw : ws.length ≤ 20
  la : as.length ≤ 20
  okw : ∀ w ∈ ws, w.ok ∧ w.b.cps.size = 1
  oka : ∀ a ∈ as, a.ok ∧ a.b.cps.size = 1
  plan : ∃ v, Pn ws as as.length v
def sp__law_mixed (A : Ad) : SpD := fun ds cs R _ => ∃ (x y z n : Int) (xs : List D), ds = [.ptr 0, .lst xs] ∧ cs = [boxC x y z] ∧ BoxOk x y z n ∧ n < 100000 ∧ xs.length ≤ 60 ∧ Bds 0 xs ∧
  ∀ x' z' ys, BoxOk x' y z' (n + 60) → ys.Perm xs → R (.lst ys) [boxC x' y z']
def sp__law_planted (A : Ad) : SpD := fun ds cs R _ => ∃ (x y z n : Int), ds = [.ptr 0] ∧ cs = [boxC x y z] ∧ BoxOk x y z n ∧ n < 50000 ∧
  ∀ x' z' ws as, BoxOk x' y z' (n + 400) → Planted ws as → R (.tup [.lst (ws.map dWT), .lst (as.map dArr)]) [boxC x' y z']
def sp__law_alone_right (A : Ad) : SpD := fun ds cs R _ => ∃ (x y z n : Int) (ws : List Win) (as : List Arr), ds = [.ptr 0, .lst (ws.map dWT), .lst (as.map dArr)] ∧ cs = [boxC x y z] ∧ BoxOk x y z n ∧ n < 50000 ∧ Planted ws as ∧
  ∀ x' z', BoxOk x' y z' (n + 10) → R (.bl true) [boxC x' y z']
def sp_law (A : Ad) : SpD := fun ds cs R _ => ∃ ns : List Int, ds = [.scr ns] ∧ cs = [] ∧ ns.length ≤ 63 ∧ R (.bl true) cs
end AU
/-! RL: readings (printed by gen.py). -/
namespace AU
open PySem PySem.Spec PyProof.Rows L2 DL
def rd__law_cell (A : Ad) : TSD :=
 (dSeq (dIf (dB (dOp (rOrdD pLt qLt) (dVar 1) (dCB (one lenD) (dCons (dVar 0) dNil))))
 (dRet (dOp ixD (dVar 0) (dVar 1)))
 dPass)
 (dRet (dOp rAddD (dOp rMulD (dC (.int 2851)) (dVar 1)) (dC (.int 113)))))
def rd__law_box (A : Ad) : TSD :=
 (dRet (dLstP (dCons (dCB maxD (dCons (dC (.int 0)) (dCons (dOp (dI0 fun i j => .int (i - j)) (dVar 0) (dOp (dI2 CPow fun i j => .int (i ^ j.toNat)) (dC (.int 10)) (dC (.int 18)))) dNil))) (dCons (dOp (dI2 (fun _ j => 0 < j) fun i j => .int (i % j)) (dVar 0) (dC (.int 2147483629))) (dCons (dC (.int 0)) dNil)))))
def rd__law_take (A : Ad) : TSD :=
 (dSeq (dIf (dB (dOp (rOrdD pGt qGt) (dOp ixD (dVar 0) (dC (.int 0))) (dC (.int 0))))
 (dSeq (dSet 3 (dOp (dI2 (fun _ j => 0 < j) fun i j => .int (i % j)) (dOp ixD (dVar 0) (dC (.int 0))) (dVar 1)))
 (dSeq (dAsg (dOp (dI2 CDiv fun i j => .int (i / j)) (dOp ixD (dVar 0) (dC (.int 0))) (dVar 1)) (gdSub (dVar 0) (dC (.int 0))))
 (dRet (dVar 3))))
 dPass)
 (dSeq (dAsg (dOp rAddD (dOp ixD (dVar 0) (dC (.int 2))) (dC (.int 1))) (gdSub (dVar 0) (dC (.int 2))))
 (dSeq (dSet 2 (dOp (dI2 (fun _ j => 0 < j) fun i j => .int (i % j)) (dOp (dI2 CPow fun i j => .int (i ^ j.toNat)) (dOp rAddD (dOp rAddD (dOp ixD (dVar 0) (dC (.int 1))) (dOp rMulD (dC (.int 9001)) (dOp ixD (dVar 0) (dC (.int 2))))) (dC (.int 17))) (dC (.int 5))) (dC (.int 2147483647))))
 (dSeq (dSet 2 (dOp (dI2 (fun _ j => 0 < j) fun i j => .int (i % j)) (dOp (dI2 CPow fun i j => .int (i ^ j.toNat)) (dOp rAddD (dVar 2) (dOp rMulD (dC (.int 7919)) (dOp ixD (dVar 0) (dC (.int 2))))) (dC (.int 3))) (dC (.int 2147483629))))
 (dRet (dOp (dI2 (fun _ j => 0 < j) fun i j => .int (i % j)) (dOp (dI2 CDiv fun i j => .int (i / j)) (dVar 2) (dC (.int 16))) (dVar 1)))))))
def rd__law_admits (A : Ad) : TSD :=
 (dRet (dAndV (dOp rEqDD (dOp ixD (dVar 0) (dC (.int 3))) (dOp ixD (dVar 1) (dC (.int 1)))) (dChain (rOrdD pLe qLe) (rOrdD pLe qLe) (dOp ixD (dVar 0) (dC (.int 0))) (dOp ixD (dVar 1) (dC (.int 0))) (dOp ixD (dVar 0) (dC (.int 1))))))
def rd__law_made (A : Ad) : TSD :=
 (dRet (dLc (iListD (dVar 0)) (gdName 1) dYes (dMakeK A.Window L_Window 2 2 (sp_Window___init__ A) gD_Window (dCons (dOp ixD (dVar 1) (dC (.int 0))) (dCons (dOp ixD (dVar 1) (dC (.int 1))) dNil)) (dCons (dOp ixD (dVar 1) (dC (.int 2))) (dCons (dOp ixD (dVar 1) (dC (.int 3))) dNil))) [1]))
def rd__law_are_pairs (A : Ad) : TSD :=
 (dSeq (dIf (dAnd (dNot (dB (dCB (isiD (tabX A)) (dCons (dVar 2) (dCons (dC (.ty "list")) dNil))))) (dNot (dB (dCB (isiD (tabX A)) (dCons (dVar 2) (dCons (dC (.ty "tuple")) dNil))))))
 (dRet (dC (.bl false)))
 dPass)
 (dSeq (dPar 4 5 (dCons (dLstP dNil) (dCons (dLstP dNil) dNil)))
 (dSeq (dFor (iListD (dVar 2)) (gdName 3)
 (dSeq (dIf (dOr (dNot (dB (dCB (isiD (tabX A)) (dCons (dVar 3) (dCons (dC (.ty "tuple")) dNil))))) (dB (dOp rNeDD (dCB (one lenD) (dCons (dVar 3) dNil)) (dC (.int 2)))))
 (dRet (dC (.bl false)))
 dPass)
 (dSeq (dFor (iZipXD (dVar 3) (dLst (dCons (dCB (one lenD) (dCons (dVar 1) dNil)) (dCons (dCB (one lenD) (dCons (dVar 0) dNil)) dNil)))) (gdTup 2 (gdCons (gdName 6) (gdCons (gdName 7) gdNil)))
 (dIf (dOr (dNot (dB (dCB (isiD (tabX A)) (dCons (dVar 6) (dCons (dC (.ty "int")) dNil))))) (dOr (dB (dCB (isiD (tabX A)) (dCons (dVar 6) (dCons (dC (.ty "bool")) dNil)))) (dNot (dB (dChain (rOrdD pLe qLe) (rOrdD pLt qLt) (dC (.int 0)) (dVar 6) (dVar 7))))))
 (dRet (dC (.bl false)))
 dPass))
 (dSeq (dIf (dOr (dB (dOp (rInD id) (dOp ixD (dVar 3) (dC (.int 0))) (dVar 4))) (dOr (dB (dOp (rInD id) (dOp ixD (dVar 3) (dC (.int 1))) (dVar 5))) (dNot (dB (dCall (sp__law_admits A) [] (dCons (dOp ixD (dVar 0) (dOp ixD (dVar 3) (dC (.int 1)))) (dCons (dOp ixD (dVar 1) (dOp ixD (dVar 3) (dC (.int 0)))) dNil)))))))
 (dRet (dC (.bl false)))
 dPass)
 (dSeq (dDrop (dBM "list" appD (dVar 4) (dCons (dOp ixD (dVar 3) (dC (.int 0))) dNil)))
 (dDrop (dBM "list" appD (dVar 5) (dCons (dOp ixD (dVar 3) (dC (.int 1))) dNil))))))))
 (dRet (dC (.bl true))))))
def rd__law_is_explanation (A : Ad) : TSD :=
 (dSeq (dIf (dOr (dNot (dB (dCall (framed (sp__law_are_pairs A)) [] (dCons (dVar 0) (dCons (dVar 1) (dCons (dVar 2) dNil)))))) (dB (dOp rNeDD (dCB (one lenD) (dCons (dVar 2) dNil)) (dCB (one lenD) (dCons (dVar 1) dNil)))))
 (dRet (dC (.bl false)))
 dPass)
 (dSeq (dSet 3 (dLc (iListD (dVar 2)) (gdName 4) dYes (dOp ixD (dVar 4) (dC (.int 1))) [4]))
 (dRet (dOp rEqDD (dLc (iRng1D (dCB (one lenD) (dCons (dVar 0) dNil))) (gdName 5) (dAnd (dB (dOp ixD (dOp ixD (dVar 0) (dVar 5)) (dC (.int 2)))) (dB (dOp (rInD not) (dVar 5) (dVar 3)))) (dVar 5) [5]) (dLst dNil)))))
def rd__law_are_indexes (A : Ad) : TSD :=
 (dSeq (dIf (dAnd (dNot (dB (dCB (isiD (tabX A)) (dCons (dVar 0) (dCons (dC (.ty "list")) dNil))))) (dNot (dB (dCB (isiD (tabX A)) (dCons (dVar 0) (dCons (dC (.ty "tuple")) dNil))))))
 (dRet (dC (.bl false)))
 dPass)
 (dSeq (dSet 2 (dLstP dNil))
 (dSeq (dFor (iListD (dVar 0)) (gdName 3)
 (dSeq (dIf (dOr (dNot (dB (dCB (isiD (tabX A)) (dCons (dVar 3) (dCons (dC (.ty "int")) dNil))))) (dOr (dB (dCB (isiD (tabX A)) (dCons (dVar 3) (dCons (dC (.ty "bool")) dNil)))) (dOr (dNot (dB (dChain (rOrdD pLe qLe) (rOrdD pLt qLt) (dC (.int 0)) (dVar 3) (dVar 1)))) (dB (dOp (rInD id) (dVar 3) (dVar 2))))))
 (dRet (dC (.bl false)))
 dPass)
 (dDrop (dBM "list" appD (dVar 2) (dCons (dVar 3) dNil)))))
 (dRet (dC (.bl true))))))
def rd__law_shows_missing (A : Ad) : TSD :=
 (dSeq (dIf (dOr (dNot (dB (dCall (framed (sp__law_are_indexes A)) [] (dCons (dVar 2) (dCons (dCB (one lenD) (dCons (dVar 0) dNil)) dNil))))) (dB (dOp rNeDD (dLc (iListD (dVar 2)) (gdName 6) (dNot (dB (dOp ixD (dOp ixD (dVar 0) (dVar 6)) (dC (.int 2))))) (dVar 6) [6]) (dLst dNil))))
 (dRet (dC (.bl false)))
 dPass)
 (dSeq (dSet 3 (dLstP dNil))
 (dSeq (dFor (iEnumD (dVar 1)) (gdTup 2 (gdCons (gdName 4) (gdCons (gdName 5) gdNil)))
 (dIf (dB (dOp rNeDD (dLc (iListD (dVar 2)) (gdName 6) (dB (dCall (sp__law_admits A) [] (dCons (dOp ixD (dVar 0) (dVar 6)) (dCons (dVar 5) dNil)))) (dVar 6) [6]) (dLst dNil)))
 (dDrop (dBM "list" appD (dVar 3) (dCons (dVar 4) dNil)))
 dPass))
 (dRet (dOp (rOrdD pLt qLt) (dCB (one lenD) (dCons (dVar 3) dNil)) (dCB (one lenD) (dCons (dVar 2) dNil)))))))
def rd__law_shows_too_many (A : Ad) : TSD :=
 (dSeq (dIf (dNot (dB (dCall (framed (sp__law_are_indexes A)) [] (dCons (dVar 2) (dCons (dCB (one lenD) (dCons (dVar 1) dNil)) dNil)))))
 (dRet (dC (.bl false)))
 dPass)
 (dSeq (dSet 3 (dLstP dNil))
 (dSeq (dFor (iEnumD (dVar 0)) (gdTup 2 (gdCons (gdName 4) (gdCons (gdName 5) gdNil)))
 (dIf (dB (dOp rNeDD (dLc (iListD (dVar 2)) (gdName 6) (dB (dCall (sp__law_admits A) [] (dCons (dVar 5) (dCons (dOp ixD (dVar 1) (dVar 6)) dNil)))) (dVar 6) [6]) (dLst dNil)))
 (dDrop (dBM "list" appD (dVar 3) (dCons (dVar 4) dNil)))
 dPass))
 (dRet (dOp (rOrdD pLt qLt) (dCB (one lenD) (dCons (dVar 3) dNil)) (dCB (one lenD) (dCons (dVar 2) dNil)))))))
def rd__law_mixed (A : Ad) : TSD :=
 (dSeq (dSet 2 (dCB listDP (dCons (dVar 1) dNil)))
 (dRet (dLc (iRng1D (dCB (one lenD) (dCons (dVar 1) dNil))) (gdName 3) dYes (dBM "list" popD (dVar 2) (dCons (dCall (framed (sp__law_take A)) [] (dCons (dVar 0) (dCons (dCB (one lenD) (dCons (dVar 2) dNil)) dNil))) dNil)) [3])))
def rd__law_planted (A : Ad) : TSD :=
 (dSeq (dPar3 2 3 4 (dCons (dLstP dNil) (dCons (dLstP dNil) (dCons (dOp rAddD (dC (.int 1)) (dCall (framed (sp__law_take A)) [] (dCons (dVar 0) (dCons (dC (.int 3)) dNil)))) dNil))))
 (dSeq (dFor (iRng1D (dCall (framed (sp__law_take A)) [] (dCons (dVar 0) (dCons (dC (.int 21)) dNil)))) (gdName 1)
 (dSeq (dSet 5 (dOp ixD (dC (.str "abc")) (dCall (framed (sp__law_take A)) [] (dCons (dVar 0) (dCons (dVar 4) dNil)))))
 (dSeq (dSet 6 (dCall (framed (sp__law_take A)) [] (dCons (dVar 0) (dCons (dC (.int 30)) dNil))))
 (dSeq (dPar 7 8 (dCons (dCB maxD (dCons (dC (.int 0)) (dCons (dOp (dI0 fun i j => .int (i - j)) (dVar 6) (dCall (framed (sp__law_take A)) [] (dCons (dVar 0) (dCons (dC (.int 6)) dNil)))) dNil))) (dCons (dOp rAddD (dVar 6) (dCall (framed (sp__law_take A)) [] (dCons (dVar 0) (dCons (dC (.int 6)) dNil)))) dNil)))
 (dIf (dB (dOp rEqDD (dCall (framed (sp__law_take A)) [] (dCons (dVar 0) (dCons (dC (.int 3)) dNil))) (dC (.int 0))))
 (dDrop (dBM "list" appD (dVar 2) (dCons (dTup (dCons (dVar 7) (dCons (dVar 8) (dCons (dC (.bl false)) (dCons (dVar 5) dNil))))) dNil)))
 (dSeq (dDrop (dBM "list" appD (dVar 2) (dCons (dTup (dCons (dVar 7) (dCons (dVar 8) (dCons (dOp rEqDD (dCall (framed (sp__law_take A)) [] (dCons (dVar 0) (dCons (dC (.int 2)) dNil))) (dC (.int 0))) (dCons (dVar 5) dNil))))) dNil)))
 (dDrop (dBM "list" appD (dVar 3) (dCons (dTup (dCons (dVar 6) (dCons (dVar 5) dNil))) dNil)))))))))
 (dGh (dRet (dTup (dCons (dCall (framed (sp__law_mixed A)) [] (dCons (dVar 0) (dCons (dVar 2) dNil))) (dCons (dCall (framed (sp__law_mixed A)) [] (dCons (dVar 0) (dCons (dVar 3) dNil))) dNil)))))))
def rd__law_alone_right (A : Ad) : TSD :=
 (dSeq (dSet 3 (dCall (framed (sp__law_take A)) [] (dCons (dVar 0) (dCons (dC (.int 30)) dNil))))
 (dSeq (dPar 5 6 (dCons (dTup (dCons (dVar 3) (dCons (dOp rAddD (dVar 3) (dCall (framed (sp__law_take A)) [] (dCons (dVar 0) (dCons (dC (.int 4)) dNil)))) (dCons (dC (.bl true)) (dCons (dC (.str "alone")) dNil))))) (dCons (dCall (framed (sp__law_take A)) [] (dCons (dVar 0) (dCons (dOp rAddD (dCB (one lenD) (dCons (dVar 1) dNil)) (dC (.int 1))) dNil))) dNil)))
 (dSeq (dPar3 7 8 9 (dCons (dOp rAddD (dOp rAddD (dSl slD (dVar 1) dNoPart (dPart (dVar 6))) (dLst (dCons (dVar 5) dNil))) (dSl slD (dVar 1) (dPart (dVar 6)) dNoPart)) (dCons (dTup (dCons (dVar 3) (dCons (dC (.str "alone")) dNil))) (dCons (dTup (dCons (dOp rAddD (dOp ixD (dVar 5) (dC (.int 1))) (dC (.int 1))) (dCons (dC (.str "alone")) dNil))) dNil))))
 (dSeq (dFor (iListD (dLst (dCons (dVar 2) (dCons (dOp rAddD (dLst (dCons (dVar 9) dNil)) (dVar 2)) dNil)))) (gdName 4)
 (dSeq (dSet 10 (dCall (framed (sp_explained A)) [] (dCons (dCall (framed (sp__law_made A)) [] (dCons (dVar 7) dNil)) (dCons (dVar 4) dNil))))
 (dIf (dOr (dB (dOp rNeDD (dOp ixD (dVar 10) (dC (.int 0))) (dC (.str "missing")))) (dNot (dB (dCall (framed (sp__law_shows_missing A)) [] (dCons (dVar 7) (dCons (dVar 4) (dCons (dOp ixD (dVar 10) (dC (.int 1))) dNil)))))))
 (dRet (dC (.bl false)))
 dPass)))
 (dSeq (dIf (dB (dOp rNeDD (dOp ixD (dCall (framed (sp_explained A)) [] (dCons (dCall (framed (sp__law_made A)) [] (dCons (dVar 7) dNil)) (dCons (dOp rAddD (dVar 2) (dLst (dCons (dVar 8) dNil))) dNil))) (dC (.int 0))) (dC (.str "explained"))))
 (dRet (dC (.bl false)))
 dPass)
 (dSeq (dFor (iListD (dLst (dCons (dOp rAddD (dVar 2) (dLst (dCons (dVar 8) (dCons (dVar 8) dNil)))) (dCons (dOp rAddD (dOp rAddD (dLst (dCons (dVar 9) dNil)) (dVar 2)) (dLst (dCons (dVar 8) dNil))) dNil)))) (gdName 4)
 (dSeq (dSet 10 (dCall (framed (sp_explained A)) [] (dCons (dCall (framed (sp__law_made A)) [] (dCons (dVar 7) dNil)) (dCons (dVar 4) dNil))))
 (dIf (dOr (dB (dOp rNeDD (dOp ixD (dVar 10) (dC (.int 0))) (dC (.str "too_many")))) (dNot (dB (dCall (framed (sp__law_shows_too_many A)) [] (dCons (dVar 7) (dCons (dVar 4) (dCons (dOp ixD (dVar 10) (dC (.int 1))) dNil)))))))
 (dRet (dC (.bl false)))
 dPass)))
 (dRet (dOp rEqDD (dCB (one lenD) (dCons (dOp ixD (dCall (framed (sp_most_explained A)) [] (dCons (dCall (framed (sp__law_made A)) [] (dCons (dVar 7) dNil)) (dCons (dOp rAddD (dLst (dCons (dVar 9) (dCons (dVar 8) dNil))) (dVar 2)) dNil))) (dC (.int 0))) dNil)) (dOp rAddD (dCB (one lenD) (dCons (dVar 2) dNil)) (dC (.int 1)))))))))))
def rd_law (A : Ad) : TSD :=
 (dSeq (dFor (iRng1D (dCB maxD (dCons (dC (.int 3)) (dCons (dCB minD (dCons (dCB (one lenD) (dCons (dVar 0) dNil)) (dCons (dC (.int 10)) dNil))) dNil)))) (gdName 1)
 (dSeq (dSet 2 (dCall (sp__law_box A) [] (dCons (dCall (sp__law_cell A) [] (dCons (dVar 0) (dCons (dVar 1) dNil))) dNil)))
 (dSeq (dAsg (dCall (framed (sp__law_planted A)) [] (dCons (dVar 2) dNil)) (gdTup 2 (gdCons (gdName 4) (gdCons (gdName 5) gdNil))))
 (dSeq (dSet 3 (dCall (framed (sp_explained A)) [] (dCons (dCall (framed (sp__law_made A)) [] (dCons (dVar 4) dNil)) (dCons (dVar 5) dNil))))
 (dSeq (dIf (dOr (dB (dOp rNeDD (dOp ixD (dVar 3) (dC (.int 0))) (dC (.str "explained")))) (dNot (dB (dCall (framed (sp__law_is_explanation A)) [] (dCons (dVar 4) (dCons (dVar 5) (dCons (dOp ixD (dVar 3) (dC (.int 1))) dNil)))))))
 (dRet (dC (.bl false)))
 dPass)
 (dSeq (dIf (dB (dOp rNeDD (dCB (one lenD) (dCons (dOp ixD (dCall (framed (sp_most_explained A)) [] (dCons (dCall (framed (sp__law_made A)) [] (dCons (dVar 4) dNil)) (dCons (dVar 5) dNil))) (dC (.int 0))) dNil)) (dCB (one lenD) (dCons (dVar 5) dNil))))
 (dRet (dC (.bl false)))
 dPass)
 (dIf (dNot (dB (dCall (framed (sp__law_alone_right A)) [] (dCons (dVar 2) (dCons (dVar 4) (dCons (dVar 5) dNil))))))
 (dRet (dC (.bl false)))
 dPass)))))))
 (dRet (dC (.bl true))))
end AU
/-! PLa: cell, box, take, admits, made. -/
namespace AU
open PySem PySem.Spec PyProof.Rows L2 DL
variable {A : Ad}
theorem pl__law_cell : Pl ["_law_script", "_law_k"] (sp__law_cell A) (rd__law_cell A) := by
  rintro ds cs R Z hb hd ⟨ns, k, rfl, h0, h⟩
  refine br (fun e => ?_) (fun e => ?_)
  · have hlt := of_decide_eq_true (show decide (k < ((ns.map D.int).length : Nat)) = true from e)
    rw [List.length_map] at hlt
    exact ⟨_, atI_pos h0 (List.getElem?_eq_getElem (by omega)), _, _, .refl, h _⟩
  · exact ⟨.inl (.inl ⟨by decide, by decide⟩), _, _, .refl, h _⟩
theorem pl__law_box : Pl ["_law_cell_here"] (sp__law_box A) (rd__law_box A) := by
  rintro ds cs R Z hb hd ⟨c, rfl, h⟩
  refine ⟨⟨by decide, by decide, by decide⟩, (by show (0 : Int) < 2147483629; decide), by show 3 ≤ 2 ^ 24; decide, ?_⟩
  refine ⟨_, _, .refl, h _ _ ⟨?_, Int.emod_nonneg _ (by decide), Int.emod_lt_of_pos _ (by decide), Int.le_refl _, Int.le_refl _⟩⟩
  show (0 : Int) ≤ (if c - 10 ^ (18 : Int).toNat > 0 then c - 10 ^ (18 : Int).toNat else 0)
  split <;> omega
theorem natAbs_lt {i : Int} {n : Nat} (h0 : 0 ≤ i) (h : i < (n : Int)) : i.natAbs < n := by omega
theorem pl__law_take : Pl ["_law_box_here", "_law_many", "_law_number", "_law_digit"] (sp__law_take A) (rd__law_take A) := by
  rintro ds cs R Z hb hd ⟨x, y, z, n, many, rfl, rfl, B, hn, h1, h2, h⟩
  have x0 := B.x0
  have y0 := B.y0
  have y1 := B.y1
  have z0 := B.z0
  have zn := B.zn
  refine ⟨.int x, rfl, br (fun e => ?_) (fun e => ?_)⟩
  · have hx := of_decide_eq_true (show decide ((0 : Int) < x) = true from e)
    refine ⟨.int x, rfl, (by show 0 < many; omega), .int x, rfl, ⟨by omega, by omega⟩, 0, rfl, ?_⟩
    exact ⟨_, _, .refl, h _ _ _ ⟨Int.ediv_nonneg x0 (by omega), y0, y1, z0, by omega⟩ (Int.emod_nonneg _ (by omega)) (Int.emod_lt_of_pos _ (by omega))⟩
  · refine ⟨.int z, rfl, 2, rfl, .int y, rfl, .int (z + 1), rfl, .inl (.inl ⟨by decide, by decide⟩), ⟨by decide, by decide, natAbs_lt (by omega) (by omega)⟩, (by show (0 : Int) < 2147483647; decide), .int (z + 1), rfl, .inl (.inl ⟨by decide, by decide⟩), ⟨by decide, by decide, ?_⟩, (by show (0 : Int) < 2147483629; decide), ⟨by decide, by decide⟩, (by show 0 < many; omega), ?_⟩
    · have g1 : 0 ≤ (y + 9001 * (z + 1) + 17) ^ 5 % 2147483647 := Int.emod_nonneg _ (by decide)
      have g2 : (y + 9001 * (z + 1) + 17) ^ 5 % 2147483647 < 2147483647 := Int.emod_lt_of_pos _ (by decide)
      show ((y + 9001 * (z + 1) + 17) ^ 5 % 2147483647 + 7919 * (z + 1)).natAbs < 2 ^ 64
      generalize (y + 9001 * (z + 1) + 17) ^ 5 % 2147483647 = t at g1 g2
      exact natAbs_lt (by omega) (by omega)
    · exact ⟨_, _, .refl, h _ _ _ ⟨x0, y0, y1, by omega, by omega⟩ (Int.emod_nonneg _ (by omega)) (Int.emod_lt_of_pos _ (by omega))⟩
theorem bd_box {x y z : Int} {n : Nat} : BdC n (boxC x y z) := ⟨trivial, trivial, trivial, trivial⟩
theorem bd_box1 {x y z : Int} : ∀ c ∈ [boxC x y z], BdC 1 c := by
  intro c hc
  have : c = boxC x y z := by simpa using hc
  subst this; exact bd_box
theorem mono_take {ds : List D} {cs : Cs} {R R' : QD} {Z Z' : XD} (h : ∀ d c, R d c → R' d c) : sp__law_take A ds cs R Z → sp__law_take A ds cs R' Z' :=
  fun ⟨x, y, z, n, many, e1, e2, h1, h2, h3, h4, r⟩ => ⟨x, y, z, n, many, e1, e2, h1, h2, h3, h4, fun x' z' d b0 b1 b2 => h _ _ (r x' z' d b0 b1 b2)⟩
theorem fr_take {x y z n many : Int} {extra : Cs} {R : QD} {Z : XD} (B : BoxOk x y z n) (hn : n < 1000000) (h1 : 1 ≤ many) (h2 : many < 1000000) (h : ∀ x' z' d, BoxOk x' y z' (n + 1) → 0 ≤ d → d < many → R (.int d) ([boxC x' y z'] ++ extra)) :
    framed (sp__law_take A) [.ptr 0, .int many] ([boxC x y z] ++ extra) R Z :=
  framed_pre bd_box1 ⟨(by show 0 < 1; decide), trivial, trivial⟩ (fun Z' => ⟨x, y, z, n, many, rfl, rfl, B, hn, h1, h2, fun x' z' d b0 b1 b2 => ⟨rfl, bd_box1, trivial, h x' z' d b0 b1 b2⟩⟩) mono_take
theorem pl__law_admits : Pl ["_law_window", "_law_arrival"] (sp__law_admits A) (rd__law_admits A) := by
  rintro ds cs R Z hb hd ⟨w, a, rfl, h⟩
  have ec : decide (w.b = a.b) = decide (a.b = w.b) := by
    by_cases e : a.b = w.b
    · rw [decide_eq_true e, decide_eq_true e.symm]
    · rw [decide_eq_false e, decide_eq_false fun z => e z.symm]
  unfold adm at h
  rw [← ec] at h
  refine ⟨_, rfl, _, rfl, br (fun e => ⟨_, rfl, _, rfl, br (fun e2 => ⟨_, rfl, _, _, .refl, ?_⟩) fun e2 => ⟨_, _, .refl, ?_⟩⟩) (fun e => ⟨_, _, .refl, ?_⟩)⟩
  · have e' : decide (w.b = a.b) = true := e
    have e2' : decide (w.f ≤ a.t) = true := e2
    rw [e', e2'] at h
    exact h
  · have e' : decide (w.b = a.b) = true := e
    have e2' : decide (w.f ≤ a.t) = false := e2
    rw [e', e2'] at h
    exact h
  · have e' : decide (w.b = a.b) = false := e
    rw [e'] at h
    exact h
theorem pl__law_made : Pl ["_law_windows", "_law_one"] (sp__law_made A) (rd__law_made A) := by
  rintro ds cs R Z hb hd ⟨ws, rfl, rfl, hl, hok, h⟩
  refine ⟨fun k acc c => acc = (ws.take k).map (dWin A) ∧ c = [], ⟨rfl, rfl⟩, fun _ _ _ _ => trivial, ?_, ?_⟩
  · rintro k d acc c hk ⟨rfl, rfl⟩ _
    obtain ⟨w, hw, rfl⟩ := mem_at hk
    have hk1 := (List.getElem?_eq_some_iff.mp hw).1
    refine brT ⟨_, rfl, _, rfl, _, rfl, _, rfl, rfl, rfl, ?_⟩
    refine ⟨0, w, rfl, rfl, hok w (List.mem_of_getElem? hw), rfl, dWin A w, [], ?_, ?_⟩
    · exact GhV.mk (Nat.le_refl 0) .nil (.fO (k := 0) rfl (.inl rfl) (.same ⟨trivial, trivial, trivial, trivial, trivial⟩))
    · refine ⟨by rw [List.length_map, List.length_take]; show _ < 2 ^ 24; omega, _, _, .refl, ⟨trivial, trivial, trivial, trivial, trivial⟩, ?_, rfl⟩
      rw [take_snoc hw, List.map_append]
      rfl
  · rintro acc c ⟨rfl, rfl⟩
    refine ⟨_, _, .refl, ?_⟩
    rw [List.length_map, List.take_length]
    exact h
end AU
/-! PLb: what the laws' checkers say of good answers. -/
namespace AU
open PySem PySem.Spec PyProof.Rows L2 DL
variable {A : Ad}
theorem bd_arrs {n : Nat} (l : List Arr) : Bds n (l.map dArr) := bds_map (f := dArr) (fun a => ⟨trivial, trivial, trivial⟩) l
theorem bd_wts {n : Nat} (l : List Win) : Bds n (l.map dWT) := bds_map (f := dWT) (fun w => ⟨trivial, trivial, trivial, trivial, trivial⟩) l
theorem bd_wins {n : Nat} (l : List Win) : Bds n (l.map (dWin A)) := bds_map (f := dWin A) (fun w => ⟨trivial, trivial, trivial, trivial, trivial⟩) l
theorem no_cells {n : Nat} : ∀ c ∈ ([] : Cs), BdC n c := fun c hc => by cases hc
theorem sh_ints (l : List Int) : Sh 1 (.list (l.map .int)) := Sh.list fun x hx => by
  obtain ⟨v, _, rfl⟩ := List.mem_map.mp hx
  exact Sh.int _
theorem pds_ints (l : List Int) : pds (l.map D.int) = some (l.map .int) := pds_map fun _ _ => rfl
theorem isE_map {α β : Type} {f : α → β} {l : List α} : (l.map f).isEmpty = l.isEmpty := by cases l <;> rfl
theorem nbA_get {ws : List Win} {as : List Arr} {a w : Int} (h : w ∈ nbA ws as a) : (0 ≤ a ∧ a < (as.length : Int)) ∧ (0 ≤ w ∧ w < (ws.length : Int)) ∧ ∃ w' a', ws[w.toNat]? = some w' ∧ as[a.toNat]? = some a' ∧ adm w' a' = true := by
  obtain ⟨h0, h1, w', a', e⟩ := nbA_mem.mp h
  exact ⟨(nbA_rng h).1, (nbA_rng h).2, w', a', e⟩
theorem GoodP.len {ws : List Win} {as : List Arr} {ps : List (Int × Int)} (G : GoodP ws as ps) : ps.length ≤ as.length := by
  have := nd_len (m := (as.length : Int)) G.nd1 (fun y hy => by
    obtain ⟨e, he, rfl⟩ := List.mem_map.mp hy
    exact (nbA_rng (G.ed e he)).1) (Int.le_refl _)
  rw [List.length_map] at this
  exact this
theorem nd_not {α : Type} {f : (Int × Int) → α} {ps : List (Int × Int)} {k : Nat} {e : Int × Int} (nd : (ps.map f).Nodup) (h : ps[k]? = some e) : f e ∉ (ps.take k).map f := fun m => by
  obtain ⟨e', hm, ee⟩ := List.mem_map.mp m
  obtain ⟨j, hj, ej⟩ := List.getElem_of_mem hm
  rw [List.length_take] at hj
  have h1 : ps[j]? = some e' := by
    rw [← List.getElem?_take_of_lt (show j < k by omega), List.getElem?_eq_getElem (by rw [List.length_take]; exact hj), ej]
  have hk := (List.getElem?_eq_some_iff.mp h).1
  have h2 : (ps.map f)[j]? = some (f e') := by rw [List.getElem?_map, h1]; rfl
  have h3 : (ps.map f)[k]? = some (f e) := by rw [List.getElem?_map, h]; rfl
  have := nd_ix nd h2 (by rw [ee]; exact h3)
  omega
theorem pl__law_are_pairs : Pl ["_law_windows", "_law_arrivals", "_law_pairs", "_law_pair", "_law_used", "_law_taken", "_law_index", "_law_size"] (sp__law_are_pairs A) (rd__law_are_pairs A) := by
  rintro ds cs R Z hb hd ⟨ws, as, ps, rfl, rfl, I, G, h⟩
  have pl := G.len
  have la := I.la
  refine ⟨.b "list", .b "list", true, rfl, rfl, rfl, brF ?_⟩
  refine brF ⟨by show 0 ≤ 2 ^ 24; decide, by show 0 ≤ 2 ^ 24; decide, ?_⟩
  refine ⟨fun k δ c => ∃ (o3 o6 o7 : Option D), δ = [some (.lst (ws.map dWT)), some (.lst (as.map dArr)), some (.lst (ps.map pairI)), o3, some (.ptr 0), some (.ptr 1), o6, o7] ∧
    c = [.lst (((ps.take k).map Prod.fst).map .int), .lst (((ps.take k).map Prod.snd).map .int)], ⟨none, none, none, rfl, rfl⟩, fun _ _ _ _ => trivial, ?_, ?_⟩
  · rintro k d δ c hk ⟨o3, o6, o7, rfl, rfl⟩ _
    obtain ⟨e, he, rfl⟩ := mem_at hk
    have hk1 := (List.getElem?_eq_some_iff.mp he).1
    obtain ⟨⟨a0, a1⟩, ⟨w0, w1⟩, w', a', ew, ea, ad⟩ := nbA_get (G.ed e (List.mem_of_getElem? he))
    refine ⟨.b "tuple", .b "tuple", true, rfl, rfl, rfl, brF (brF ?_)⟩
    refine ⟨by show 2 ≤ 2 ^ 24; decide, ?_⟩
    refine ⟨fun j δ c => ∃ (o6 o7 : Option D), δ = [some (.lst (ws.map dWT)), some (.lst (as.map dArr)), some (.lst (ps.map pairI)), some (pairI e), some (.ptr 0), some (.ptr 1), o6, o7] ∧
      c = [.lst (((ps.take k).map Prod.fst).map .int), .lst (((ps.take k).map Prod.snd).map .int)], ⟨o6, o7, rfl, rfl⟩, fun _ _ _ _ => trivial, ?_, ?_⟩
    · have turn : ∀ (i n : Int), 0 ≤ i → i < n → ∀ (P : Prop), P → brn (decide ((0 : Int) ≤ i)) (brn (!decide (i < n)) False P) (brn (!false) False P) := fun i n h0 h1 P p => by
        rw [decide_eq_true h0, decide_eq_true h1]
        exact brT (brF p)
      rintro j d δ c hj ⟨o6, o7, rfl, rfl⟩ _
      have hj' : j = 0 ∨ j = 1 := by
        have := (List.getElem?_eq_some_iff.mp hj).1
        have h2 : j < 2 := this
        omega
      rcases hj' with rfl | rfl
      · cases hj
        refine ⟨rfl, rfl, .b "int", .b "int", true, rfl, rfl, rfl, brF ⟨.b "int", .b "bool", false, rfl, rfl, rfl, brF ?_⟩⟩
        show brn (decide ((0 : Int) ≤ e.1)) _ _
        rw [decide_eq_true a0]
        refine brT ?_
        show brn (!decide (e.1 < (((as.map dArr).length : Nat) : Int))) _ _
        rw [List.length_map, decide_eq_true a1]
        exact brF ⟨_, _, .refl, _, _, rfl, rfl⟩
      · cases hj
        refine ⟨rfl, rfl, .b "int", .b "int", true, rfl, rfl, rfl, brF ⟨.b "int", .b "bool", false, rfl, rfl, rfl, brF ?_⟩⟩
        show brn (decide ((0 : Int) ≤ e.2)) _ _
        rw [decide_eq_true w0]
        refine brT ?_
        show brn (!decide (e.2 < (((ws.map dWT).length : Nat) : Int))) _ _
        rw [List.length_map, decide_eq_true w1]
        exact brF ⟨_, _, .refl, _, _, rfl, rfl⟩
    · rintro δ c ⟨o6, o7, rfl, rfl⟩
      have n1 : e.1 ∉ (ps.take k).map Prod.fst := nd_not G.nd1 he
      have n2 : e.2 ∉ (ps.take k).map Prod.snd := nd_not G.nd2 he
      refine ⟨_, rfl, rfl, flat_ints _, ?_⟩
      show brn (inD (.int e.1) (((ps.take k).map Prod.fst).map .int)) _ _
      rw [inD_int, decide_eq_false n1]
      refine brF ⟨_, rfl, rfl, flat_ints _, ?_⟩
      show brn (inD (.int e.2) (((ps.take k).map Prod.snd).map .int)) _ _
      rw [inD_int, decide_eq_false n2]
      refine brF ⟨_, rfl, dWT w', atI_pos w0 (by rw [List.getElem?_map, ew]; rfl), _, rfl, dArr a', atI_pos a0 (by rw [List.getElem?_map, ea]; rfl), w', a', rfl, ?_⟩
      show brn (!adm w' a') _ _
      rw [ad]
      refine brF ⟨rfl, _, rfl, by rw [List.length_map, List.length_map, List.length_take]; show _ < 2 ^ 24; omega, ?_⟩
      refine ⟨rfl, _, rfl, by rw [List.length_map, List.length_map, List.length_take]; show _ < 2 ^ 24; omega, ?_⟩
      refine ⟨_, _, .refl, _, _, _, rfl, ?_⟩
      rw [take_snoc he, List.map_append, List.map_append, List.map_append, List.map_append]
      rfl
  · rintro δ c ⟨o3, o6, o7, rfl, rfl⟩
    exact ⟨_, _, gh0 trivial, h⟩
theorem mono_are_pairs {ds : List D} {cs : Cs} {R R' : QD} {Z Z' : XD} (h : ∀ d c, R d c → R' d c) : sp__law_are_pairs A ds cs R Z → sp__law_are_pairs A ds cs R' Z' :=
  fun ⟨ws, as, ps, e1, e2, I, G, r⟩ => ⟨ws, as, ps, e1, e2, I, G, h _ _ r⟩
theorem fr_are_pairs {ws : List Win} {as : List Arr} {ps : List (Int × Int)} {extra : Cs} {R : QD} {Z : XD} (I : In ws as) (G : GoodP ws as ps) (h : R (.bl true) extra) : framed (sp__law_are_pairs A) [.lst (ws.map dWT), .lst (as.map dArr), .lst (ps.map pairI)] extra R Z :=
  framed_pre (cs := []) (extra := extra) no_cells ⟨bd_wts ws, bd_arrs as, bd_pairsI ps, trivial⟩ (fun Z' => ⟨ws, as, ps, rfl, rfl, I, G, rfl, no_cells, trivial, h⟩) mono_are_pairs
theorem pl__law_is_explanation : Pl ["_law_windows", "_law_arrivals", "_law_pairs", "_law_taken", "_law_pair", "_law_index"] (sp__law_is_explanation A) (rd__law_is_explanation A) := by
  rintro ds cs R Z hb hd ⟨ws, as, ps, rfl, rfl, I, G, hl, hm, h⟩
  have la := I.la
  have lw := I.lw
  have pl := G.len
  refine fr_are_pairs (extra := []) I G (brF ?_)
  show brn (!decide ((((ps.map pairI).length : Nat) : Int) = (((as.map dArr).length : Nat) : Int))) _ _
  rw [List.length_map, List.length_map, decide_eq_true (by rw [hl])]
  refine brF ⟨fun k acc c => acc = ((ps.take k).map Prod.snd).map .int ∧ c = [], ⟨rfl, rfl⟩, fun _ _ _ _ => trivial, ?_, ?_⟩
  · rintro k d acc c hk ⟨rfl, rfl⟩ _
    obtain ⟨e, he, rfl⟩ := mem_at hk
    refine brT ⟨_, rfl, by rw [List.length_map, List.length_map, List.length_take]; show _ < 2 ^ 24; omega, _, _, .refl, trivial, ?_, rfl⟩
    rw [take_snoc he, List.map_append, List.map_append]
    rfl
  · rintro acc c ⟨rfl, rfl⟩
    rw [List.length_map, List.take_length]
    refine ⟨by rw [List.length_map]; omega, by rw [List.length_map]; omega, fun k acc c => acc = [] ∧ c = [], ⟨rfl, rfl⟩, fun _ _ _ _ => trivial, ?_, ?_⟩
    · rintro k d acc c hk ⟨rfl, rfl⟩ _
      obtain ⟨hk1, rfl⟩ := rng_at hk
      have hk2 : k < ws.length := by
        have : k < (ws.map dWT).length := by simpa using hk1
        rw [List.length_map] at this; exact this
      have ek : ws[k]? = some ws[k] := List.getElem?_eq_getElem hk2
      refine ⟨dWT ws[k], DL.atI_nat (by rw [List.getElem?_map, ek]; rfl), _, rfl, br (fun e => ?_) (fun e => brF ⟨_, .refl, rfl, rfl⟩)⟩
      refine ⟨rfl, flat_ints _, ?_⟩
      show brn (!inD (.int (k : Int)) ((ps.map Prod.snd).map .int)) _ _
      rw [inD_int, decide_eq_true (hm k ws[k] ek e)]
      exact brF ⟨_, .refl, rfl, rfl⟩
    · rintro acc c ⟨rfl, rfl⟩
      refine ⟨by show 0 ≤ 2 ^ 24; decide, ?_⟩
      exact eq_nil (f := id) (l := []) (n := 1) rfl (sh_ints []) (by decide) ⟨_, _, .refl, h⟩
theorem pl__law_are_indexes : Pl ["_law_value", "_law_size", "_law_seen", "_law_index"] (sp__law_are_indexes A) (rd__law_are_indexes A) := by
  rintro ds cs R Z hb hd ⟨l, n, rfl, rfl, nd, rg, hn, h⟩
  have ll : l.length ≤ 60 := nd_len nd rg (by omega)
  refine ⟨.b "list", .b "list", true, rfl, rfl, rfl, brF ?_⟩
  refine brF ⟨by show 0 ≤ 2 ^ 24; decide, ?_⟩
  refine ⟨fun k δ c => ∃ (o3 : Option D), δ = [some (.lst (l.map .int)), some (.int n), some (.ptr 0), o3] ∧ c = [.lst ((l.take k).map .int)], ⟨none, rfl, rfl⟩, fun _ _ _ _ => trivial, ?_, ?_⟩
  · rintro k d δ c hk ⟨o3, rfl, rfl⟩ _
    obtain ⟨i, hi, rfl⟩ := mem_at hk
    obtain ⟨i0, i1⟩ := rg i (List.mem_of_getElem? hi)
    have ni : i ∉ l.take k := fun m => by
      obtain ⟨j, hj, ej⟩ := List.getElem_of_mem m
      rw [List.length_take] at hj
      have h1 : l[j]? = some i := by
        rw [← List.getElem?_take_of_lt (show j < k by omega), List.getElem?_eq_getElem (by rw [List.length_take]; exact hj), ej]
      have := nd_ix nd h1 hi
      omega
    refine ⟨.b "int", .b "int", true, rfl, rfl, rfl, brF ⟨.b "int", .b "bool", false, rfl, rfl, rfl, brF ?_⟩⟩
    show brn (decide ((0 : Int) ≤ i)) _ _
    rw [decide_eq_true i0]
    refine brT ?_
    show brn (!decide (i < n)) _ _
    rw [decide_eq_true i1]
    refine brF ⟨rfl, flat_ints _, ?_⟩
    show brn (inD (.int i) ((l.take k).map .int)) _ _
    rw [inD_int, decide_eq_false ni]
    refine brF ⟨rfl, by rw [List.length_map, List.length_take]; show _ < 2 ^ 24; omega, _, _, .refl, _, rfl, ?_⟩
    rw [take_snoc hi, List.map_append]
    rfl
  · rintro δ c ⟨o3, rfl, rfl⟩
    exact ⟨_, _, gh0 trivial, h⟩
theorem mono_are_indexes {ds : List D} {cs : Cs} {R R' : QD} {Z Z' : XD} (h : ∀ d c, R d c → R' d c) : sp__law_are_indexes A ds cs R Z → sp__law_are_indexes A ds cs R' Z' :=
  fun ⟨l, n, e1, e2, a, b, c, r⟩ => ⟨l, n, e1, e2, a, b, c, h _ _ r⟩
theorem fr_are_indexes {l : List Int} {n : Int} {extra : Cs} {R : QD} {Z : XD} (nd : l.Nodup) (rg : ∀ i ∈ l, 0 ≤ i ∧ i < n) (hn : n ≤ 60) (h : R (.bl true) extra) : framed (sp__law_are_indexes A) [.lst (l.map .int), .int n] extra R Z :=
  framed_pre (cs := []) (extra := extra) no_cells ⟨bd_ints l, trivial, trivial⟩ (fun Z' => ⟨l, n, rfl, rfl, nd, rg, hn, rfl, no_cells, trivial, h⟩) mono_are_indexes
/-! ### counts of neighbours -/
/-- those below n for which f is not empty -/
def hit (f : Int → List Int) (n : Nat) : List Int := (upTo n).filter fun i => !(f i).isEmpty
theorem hit_succ {f : Int → List Int} {n : Nat} : hit f (n + 1) = hit f n ++ if (!(f (n : Int)).isEmpty) = true then [(n : Int)] else [] := by
  unfold hit
  rw [upTo_succ, List.filter_append, List.filter_cons, List.filter_nil]
/-- what is next to R is paired within R, not with its root: fewer than R -/
theorem hit_lt {nb : Int → List Int} {p q : PM} {r : Int} {R : List Int} {n : Nat} {f : Int → List Int} (M : Mt nb p q) (hr : valG q r = none) (S : Stuck nb p q r R) (hf : ∀ x i, i ∈ f x → i ∈ R ∧ x ∈ nb i) : (hit f n).length < R.length := by
  classical
  have g : ∀ x ∈ hit f n, ∃ y ∈ R, valG p x = some y := fun x hx => by
    obtain ⟨_, h2⟩ := List.mem_filter.mp hx
    cases e : f x with
    | nil => rw [e] at h2; cases h2
    | cons i l =>
      obtain ⟨h3, h4⟩ := hf x i (by rw [e]; exact List.mem_cons_self)
      exact S.cl i h3 x h4
  have nd : ((hit f n).map fun x => (valG p x).getD 0).Nodup := by
    refine List.pairwise_map.mpr (((upTo_nd n).filter _).imp_of_mem fun {x y} hx hy hne e => hne ?_)
    obtain ⟨a, _, e1⟩ := g x hx
    obtain ⟨b, _, e2⟩ := g y hy
    rw [e1, e2] at e
    have e : a = b := e
    subst e
    have z1 := (M.iff x a).mp e1
    have z2 := (M.iff y a).mp e2
    rw [z1] at z2
    exact Option.some.inj z2
  have sub : ((hit f n).map fun x => (valG p x).getD 0) ⊆ R.erase r := fun z hz => by
    obtain ⟨x, hx, rfl⟩ := List.mem_map.mp hz
    obtain ⟨y, hy, e1⟩ := g x hx
    rw [e1]
    show y ∈ R.erase r
    refine (List.mem_erase_of_ne fun z => ?_).mpr hy
    subst z
    rw [(M.iff x y).mp e1] at hr
    cases hr
  have l1 := nd_sub nd sub
  rw [List.length_map] at l1
  have l2 := List.length_erase_of_mem S.root
  have l3 := List.length_pos_of_mem S.root
  omega
theorem NoWay.rng {ws : List Win} {as : List Arr} {F : List Int} (N : NoWay ws as F) : ∀ i ∈ F, 0 ≤ i ∧ i < (ws.length : Int) := fun i hi => by
  obtain ⟨h0, w, e, _⟩ := N.must i hi
  have := (List.getElem?_eq_some_iff.mp e).1
  omega
/-- windows of F that admit an arrival -/
def fitW (ws : List Win) (a : Arr) (F : List Int) : List Int := F.filter fun i => match ws[i.toNat]? with | some w => adm w a | none => false
def fitA (as : List Arr) (w : Win) (F : List Int) : List Int := F.filter fun i => match as[i.toNat]? with | some a => adm w a | none => false
theorem filter_snoc {α : Type} {p : α → Bool} {l : List α} {k : Nat} {x : α} (h : l[k]? = some x) : (l.take (k + 1)).filter p = (l.take k).filter p ++ if p x = true then [x] else [] := by
  rw [take_snoc h, List.filter_append, List.filter_cons, List.filter_nil]
theorem pl__law_shows_missing : Pl ["_law_windows", "_law_arrivals", "_law_indexes", "_law_found", "_law_at", "_law_arrival", "_law_index"] (sp__law_shows_missing A) (rd__law_shows_missing A) := by
  rintro ds cs R Z hb hd ⟨ws, as, F, rfl, rfl, I, N, h⟩
  have la := I.la
  have lw := I.lw
  obtain ⟨p, q, r, M, hr, S⟩ := N.st
  have ll : F.length ≤ 60 := nd_len S.nd N.rng (by omega)
  refine fr_are_indexes (extra := []) S.nd (by rw [List.length_map]; exact N.rng) (by rw [List.length_map]; omega) (brF ?_)
  refine ⟨fun k acc c => acc = [] ∧ c = [], ⟨rfl, rfl⟩, fun _ _ _ _ => trivial, ?_, ?_⟩
  · rintro k d acc c hk ⟨rfl, rfl⟩ _
    obtain ⟨i, hi, rfl⟩ := mem_at hk
    obtain ⟨i0, w, ew, hm⟩ := N.must i (List.mem_of_getElem? hi)
    refine ⟨dWT w, atI_pos i0 (by rw [List.getElem?_map, ew]; rfl), _, rfl, ?_⟩
    show brn (!w.m) _ _
    rw [hm]
    exact brF ⟨_, .refl, rfl, rfl⟩
  · rintro acc c ⟨rfl, rfl⟩
    refine ⟨by show 0 ≤ 2 ^ 24; decide, ?_⟩
    refine eq_nil (l := []) (n := 1) rfl (sh_ints []) (by decide) (brF ?_)
    refine ⟨by show 0 ≤ 2 ^ 24; decide, ?_⟩
    let f : Int → List Int := fun x => match as[x.toNat]? with | some a => if 0 ≤ x then fitW ws a F else [] | none => []
    have hf : ∀ x i, i ∈ f x → i ∈ F ∧ x ∈ nbW ws as i := fun x i hi => by
      cases e : as[x.toNat]? with
      | none => simp only [f, e] at hi; cases hi
      | some a =>
        by_cases h0 : 0 ≤ x
        · have hi' : i ∈ fitW ws a F := by simpa [f, e, h0] using hi
          obtain ⟨h1, h2⟩ := List.mem_filter.mp hi'
          cases ew : ws[i.toNat]? with
          | none => rw [ew] at h2; cases h2
          | some w =>
            rw [ew] at h2
            exact ⟨h1, nbW_mem.mpr ⟨(N.rng i h1).1, h0, w, a, ew, e, h2⟩⟩
        · simp [f, e, h0] at hi
    have hlt := hit_lt (n := as.length) M hr S hf
    refine ⟨fun k δ c => ∃ (o4 o5 : Option D), δ = [some (.lst (ws.map dWT)), some (.lst (as.map dArr)), some (.lst (F.map .int)), some (.ptr 0), o4, o5, none] ∧ c = [.lst ((hit f k).map .int)], ⟨none, none, rfl, rfl⟩, fun _ _ _ _ => trivial, ?_, ?_⟩
    · rintro k d δ c hk ⟨o4, o5, rfl, rfl⟩ _
      have hk1 : k < as.length := by have := (List.getElem?_eq_some_iff.mp hk).1; rw [enumD_len, List.length_map] at this; exact this
      have hk2 : as[k]? = some as[k] := List.getElem?_eq_getElem hk1
      have e2 := enumD_get (xs := as.map dArr) (i := k) (d := dArr as[k]) (by rw [List.getElem?_map, hk2]; rfl)
      rw [e2] at hk; cases hk
      have fk : f (k : Int) = fitW ws as[k] F := by
        simp only [f, Int.toNat_natCast, hk2]
        exact if_pos (by omega)
      refine ⟨rfl, rfl, fun j acc c => acc = (fitW ws as[k] (F.take j)).map .int ∧ c = [.lst ((hit f k).map .int)], ⟨rfl, rfl⟩, fun _ _ _ _ => trivial, ?_, ?_⟩
      · rintro j d acc c hj ⟨rfl, rfl⟩ _
        obtain ⟨i, hi, rfl⟩ := mem_at hj
        obtain ⟨i0, w, ew, hm⟩ := N.must i (List.mem_of_getElem? hi)
        have fl : (fitW ws as[k] (F.take j)).length ≤ 60 := by
          have h1 := List.length_filter_le (fun i => match ws[i.toNat]? with | some w => adm w as[k] | none => false) (F.take j)
          have h2 : (F.take j).length ≤ F.length := by rw [List.length_take]; omega
          unfold fitW
          omega
        have fs := filter_snoc (p := fun i => match ws[i.toNat]? with | some w => adm w as[k] | none => false) hi
        refine ⟨dWT w, atI_pos i0 (by rw [List.getElem?_map, ew]; rfl), w, as[k], rfl, br (fun e => ⟨by rw [List.length_map]; show _ < 2 ^ 24; omega, _, _, .refl, trivial, ?_, rfl⟩) (fun e => ⟨_, .refl, ?_, rfl⟩)⟩
        · unfold fitW
          rw [fs, ew, if_pos e, List.map_append]
          rfl
        · unfold fitW
          rw [fs, ew, if_neg (show ¬ adm w as[k] = true by rw [e]; exact fun z => by cases z), List.append_nil]
      · rintro acc c ⟨rfl, rfl⟩
        rw [List.length_map, List.take_length]
        refine ⟨by show 0 ≤ 2 ^ 24; decide, ?_⟩
        refine eq_nil (pds_ints _) (sh_ints _) (by decide) ?_
        rw [isE_map]
        have hl : (hit f k).length ≤ 60 := by
          have := List.length_filter_le (fun i => !(f i).isEmpty) (upTo k)
          rw [upTo_len] at this
          unfold hit
          omega
        refine br (fun e => ⟨rfl, by rw [List.length_map]; show _ < 2 ^ 24; omega, _, _, .refl, _, _, rfl, ?_⟩) (fun e => ⟨_, _, .refl, _, _, rfl, ?_⟩)
        · rw [hit_succ, fk, if_pos e, List.map_append]
          rfl
        · rw [hit_succ, fk, if_neg (by rw [e]; exact fun z => by cases z), List.append_nil]
    · rintro δ c ⟨o4, o5, rfl, rfl⟩
      rw [enumD_len, List.length_map]
      show ∃ d' c', GhV _ (.bl (decide (((((hit f as.length).map D.int).length : Nat) : Int) < (((F.map D.int).length : Nat) : Int)))) _ d' c' ∧ R d' c'
      rw [List.length_map, List.length_map, decide_eq_true (by omega)]
      exact ⟨_, _, gh0 trivial, h⟩
theorem pl__law_shows_too_many : Pl ["_law_windows", "_law_arrivals", "_law_indexes", "_law_found", "_law_at", "_law_window", "_law_index"] (sp__law_shows_too_many A) (rd__law_shows_too_many A) := by
  rintro ds cs R Z hb hd ⟨ws, as, F, rfl, rfl, I, N, h⟩
  have la := I.la
  have lw := I.lw
  obtain ⟨p, q, r, M, hr, S⟩ := N.st
  have ll : F.length ≤ 60 := nd_len S.nd N.rng (by omega)
  refine fr_are_indexes (extra := []) S.nd (by rw [List.length_map]; exact N.rng) (by rw [List.length_map]; omega) (brF ?_)
  refine ⟨by show 0 ≤ 2 ^ 24; decide, ?_⟩
  let f : Int → List Int := fun x => match ws[x.toNat]? with | some w => if 0 ≤ x then fitA as w F else [] | none => []
  have hf : ∀ x i, i ∈ f x → i ∈ F ∧ x ∈ nbA ws as i := fun x i hi => by
    cases e : ws[x.toNat]? with
    | none => simp only [f, e] at hi; cases hi
    | some w =>
      by_cases h0 : 0 ≤ x
      · have hi' : i ∈ fitA as w F := by simpa [f, e, h0] using hi
        obtain ⟨h1, h2⟩ := List.mem_filter.mp hi'
        cases ew : as[i.toNat]? with
        | none => rw [ew] at h2; cases h2
        | some a =>
          rw [ew] at h2
          exact ⟨h1, nbA_mem.mpr ⟨(N.rng i h1).1, h0, w, a, e, ew, h2⟩⟩
      · simp [f, e, h0] at hi
  have hlt := hit_lt (n := ws.length) M hr S hf
  refine ⟨fun k δ c => ∃ (o4 o5 : Option D), δ = [some (.lst (ws.map dWT)), some (.lst (as.map dArr)), some (.lst (F.map .int)), some (.ptr 0), o4, o5, none] ∧ c = [.lst ((hit f k).map .int)], ⟨none, none, rfl, rfl⟩, fun _ _ _ _ => trivial, ?_, ?_⟩
  · rintro k d δ c hk ⟨o4, o5, rfl, rfl⟩ _
    have hk1 : k < ws.length := by have := (List.getElem?_eq_some_iff.mp hk).1; rw [enumD_len, List.length_map] at this; exact this
    have hk2 : ws[k]? = some ws[k] := List.getElem?_eq_getElem hk1
    have e2 := enumD_get (xs := ws.map dWT) (i := k) (d := dWT ws[k]) (by rw [List.getElem?_map, hk2]; rfl)
    rw [e2] at hk; cases hk
    have fk : f (k : Int) = fitA as ws[k] F := by
      simp only [f, Int.toNat_natCast, hk2]
      exact if_pos (by omega)
    refine ⟨rfl, rfl, fun j acc c => acc = (fitA as ws[k] (F.take j)).map .int ∧ c = [.lst ((hit f k).map .int)], ⟨rfl, rfl⟩, fun _ _ _ _ => trivial, ?_, ?_⟩
    · rintro j d acc c hj ⟨rfl, rfl⟩ _
      obtain ⟨i, hi, rfl⟩ := mem_at hj
      obtain ⟨i0, i1⟩ := N.rng i (List.mem_of_getElem? hi)
      have ea : as[i.toNat]? = some as[i.toNat] := List.getElem?_eq_getElem (by omega)
      have fl : (fitA as ws[k] (F.take j)).length ≤ 60 := by
        have h1 := List.length_filter_le (fun i => match as[i.toNat]? with | some a => adm ws[k] a | none => false) (F.take j)
        have h2 : (F.take j).length ≤ F.length := by rw [List.length_take]; omega
        unfold fitA
        omega
      have fs := filter_snoc (p := fun i => match as[i.toNat]? with | some a => adm ws[k] a | none => false) hi
      refine ⟨dArr as[i.toNat], atI_pos i0 (by rw [List.getElem?_map, ea]; rfl), ws[k], as[i.toNat], rfl, br (fun e => ⟨by rw [List.length_map]; show _ < 2 ^ 24; omega, _, _, .refl, trivial, ?_, rfl⟩) (fun e => ⟨_, .refl, ?_, rfl⟩)⟩
      · unfold fitA
        rw [fs, ea, if_pos e, List.map_append]
        rfl
      · unfold fitA
        rw [fs, ea, if_neg (show ¬ adm ws[k] as[i.toNat] = true by rw [e]; exact fun z => by cases z), List.append_nil]
    · rintro acc c ⟨rfl, rfl⟩
      rw [List.length_map, List.take_length]
      refine ⟨by show 0 ≤ 2 ^ 24; decide, ?_⟩
      refine eq_nil (pds_ints _) (sh_ints _) (by decide) ?_
      rw [isE_map]
      have hl : (hit f k).length ≤ 60 := by
        have := List.length_filter_le (fun i => !(f i).isEmpty) (upTo k)
        rw [upTo_len] at this
        unfold hit
        omega
      refine br (fun e => ⟨rfl, by rw [List.length_map]; show _ < 2 ^ 24; omega, _, _, .refl, _, _, rfl, ?_⟩) (fun e => ⟨_, _, .refl, _, _, rfl, ?_⟩)
      · rw [hit_succ, fk, if_pos e, List.map_append]
        rfl
      · rw [hit_succ, fk, if_neg (by rw [e]; exact fun z => by cases z), List.append_nil]
  · rintro δ c ⟨o4, o5, rfl, rfl⟩
    rw [enumD_len, List.length_map]
    show ∃ d' c', GhV _ (.bl (decide (((((hit f ws.length).map D.int).length : Nat) : Int) < (((F.map D.int).length : Nat) : Int)))) _ d' c' ∧ R d' c'
    rw [List.length_map, List.length_map, decide_eq_true (by omega)]
    exact ⟨_, _, gh0 trivial, h⟩
end AU
/-! PX1: ways under rearrangement. -/
namespace AU
open PySem PySem.Spec PyProof.Rows L2 DL
theorem perm_lift {α β : Type} {f : α → β} : ∀ {ys : List β} {xs : List α}, ys.Perm (xs.map f) → ∃ xs' : List α, xs'.Perm xs ∧ xs'.map f = ys := by
  intro ys xs h
  generalize hz : xs.map f = zs at h
  induction h generalizing xs with
  | nil =>
    cases xs with
    | nil => exact ⟨[], List.Perm.nil, rfl⟩
    | cons a l => cases hz
  | cons x h ih =>
    cases xs with
    | nil => cases hz
    | cons a l =>
      rw [List.map_cons] at hz
      cases hz
      obtain ⟨l', h1, h2⟩ := ih rfl
      exact ⟨a :: l', h1.cons a, by rw [List.map_cons, h2]⟩
  | swap x y l =>
    match xs, hz with
    | a :: b :: r, hz =>
      simp only [List.map_cons, List.cons.injEq] at hz
      obtain ⟨rfl, rfl, rfl⟩ := hz
      exact ⟨b :: a :: r, List.Perm.swap a b r, by simp⟩
  | trans h1 h2 ih1 ih2 =>
    obtain ⟨l1, p1, e1⟩ := ih2 hz
    obtain ⟨l2, p2, e2⟩ := ih1 e1
    exact ⟨l2, p2.trans p1, e2⟩
theorem Pn.permA {ws : List Win} {as as' : List Arr} {c : Nat} {v : List (Option Int)} (P : Pn ws as c v) (h : as'.Perm as) : ∃ v', Pn ws as' c v' := by
  have el : as = (as.zip v).map Prod.fst := by rw [List.map_fst_zip (by rw [P.ok.len]; exact Nat.le_refl _)]
  have er : v = (as.zip v).map Prod.snd := by rw [List.map_snd_zip (by rw [P.ok.len]; exact Nat.le_refl _)]
  rw [el] at h
  obtain ⟨z, hz, ez⟩ := perm_lift h
  have hv : (z.map Prod.snd).Perm v := by
    have := hz.map Prod.snd
    rw [← er] at this
    exact this
  refine ⟨z.map Prod.snd, ⟨?_, fun k i a h1 h2 => ?_, ?_⟩, fun i w h1 h2 => hv.mem_iff.mpr (P.must i w h1 h2), ?_⟩
  · rw [List.length_map, ← ez, List.length_map]
  · rw [← ez, List.getElem?_map] at h2
    rw [List.getElem?_map] at h1
    cases e : z[k]? with
    | none => rw [e] at h1; cases h1
    | some p =>
      rw [e] at h1 h2
      have m := hz.mem_iff.mp (List.mem_of_getElem? e)
      obtain ⟨j, hj, ej⟩ := List.getElem_of_mem m
      have e3 : (as.zip v)[j]? = some p := by rw [List.getElem?_eq_getElem hj, ej]
      obtain ⟨q1, q2⟩ := List.getElem?_zip_eq_some.mp e3
      have h1' : p.2 = some i := Option.some.inj h1
      have h2' : p.1 = a := Option.some.inj h2
      exact P.ok.adm j i a (by rw [q2, h1']) (by rw [q1, h2'])
  · exact (hv.filterMap id).nodup_iff.mpr P.ok.nd
  · rw [(hv.filterMap id).length_eq]; exact P.cnt
theorem Pn.permW {ws ws' : List Win} {as : List Arr} {c : Nat} {v : List (Option Int)} (P : Pn ws as c v) (h : ws'.Perm ws) : ∃ v', Pn ws' as c v' := by
  have e0 : ws.map some = (upTo ws.length).map fun i => ws[i.toNat]? := by
    refine List.ext_getElem? fun k => ?_
    by_cases hk : k < ws.length
    · unfold upTo
      rw [List.map_map, List.getElem?_map, List.getElem?_map, List.getElem?_range hk, List.getElem?_eq_getElem hk]
      simp [hk]
    · rw [List.getElem?_eq_none (by simpa using hk), List.getElem?_eq_none (by rw [List.length_map, upTo_len]; omega)]
  have h2 := h.map some
  rw [e0] at h2
  obtain ⟨E, hE, eE⟩ := perm_lift h2
  have ndE : E.Nodup := hE.nodup_iff.mpr (upTo_nd _)
  have at_ : ∀ (j : Nat) (i : Int), E[j]? = some i → ws'[j]? = ws[i.toNat]? := fun j i e => by
    have : (E.map fun i => ws[i.toNat]?)[j]? = (ws'.map some)[j]? := by rw [eE]
    rw [List.getElem?_map, e, List.getElem?_map] at this
    cases e2 : ws'[j]? with
    | none => rw [e2] at this; cases this
    | some w => rw [e2] at this; exact (Option.some.inj this).symm
  let σ : Int → Int := fun i => ((E.idxOf i : Nat) : Int)
  have σat : ∀ i, i ∈ E → E[(σ i).toNat]? = some i := fun i hi => by
    show E[((E.idxOf i : Nat) : Int).toNat]? = some i
    rw [Int.toNat_natCast, List.getElem?_eq_getElem (List.idxOf_lt_length_of_mem hi), List.getElem_idxOf]
  have inE : ∀ (k : Nat) (i : Int), v[k]? = some (some i) → i ∈ E := fun k i e => by
    have hk := (List.getElem?_eq_some_iff.mp e).1
    rw [P.ok.len] at hk
    obtain ⟨h0, w, ew, _⟩ := P.ok.adm k i _ e (List.getElem?_eq_getElem hk)
    have := (List.getElem?_eq_some_iff.mp ew).1
    exact hE.mem_iff.mpr (mem_upTo.mpr ⟨h0, by omega⟩)
  have memE : ∀ i, some i ∈ v → i ∈ E := fun i hi => by
    obtain ⟨k, hk, e⟩ := List.getElem_of_mem hi
    exact inE k i (by rw [List.getElem?_eq_getElem hk, e])
  have fm : (v.map (Option.map σ)).filterMap id = (v.filterMap id).map σ := by
    rw [List.filterMap_map, List.map_filterMap]
    rfl
  refine ⟨v.map (Option.map σ), ⟨by rw [List.length_map]; exact P.ok.len, fun k i a h1 h2 => ?_, ?_⟩, fun j w h1 h2 => ?_, ?_⟩
  · rw [List.getElem?_map] at h1
    cases e : v[k]? with
    | none => rw [e] at h1; cases h1
    | some o =>
      rw [e] at h1
      cases o with
      | none => cases h1
      | some i' =>
        have h1' : σ i' = i := by
          have : some (some (σ i')) = some (some i) := h1
          exact Option.some.inj (Option.some.inj this)
        subst h1'
        obtain ⟨h0, w, ew, ad⟩ := P.ok.adm k i' a e h2
        have := at_ (σ i').toNat i' (σat i' (inE k i' e))
        exact ⟨Int.natCast_nonneg _, w, by rw [this]; exact ew, ad⟩
  · rw [fm]
    refine List.pairwise_map.mpr (P.ok.nd.imp_of_mem fun {x y} hx hy hne e => hne ?_)
    obtain ⟨o1, m1, q1⟩ := List.mem_filterMap.mp hx
    obtain ⟨o2, m2, q2⟩ := List.mem_filterMap.mp hy
    have q1' : o1 = some x := q1
    have q2' : o2 = some y := q2
    subst q1' q2'
    have z1 := σat x (memE x m1)
    have z2 := σat y (memE y m2)
    rw [e] at z1
    rw [z1] at z2
    exact Option.some.inj z2
  · have hj := (List.getElem?_eq_some_iff.mp h1).1
    have hjE : j < E.length := by
      have := congrArg List.length eE
      rw [List.length_map, List.length_map] at this
      omega
    have ej : E[j]? = some E[j] := List.getElem?_eq_getElem hjE
    have q := at_ j _ ej
    rw [h1] at q
    have hm : E[j] ∈ E := List.getElem_mem hjE
    have r0 := mem_upTo.mp (hE.mem_iff.mp hm)
    have := P.must E[j].toNat w q.symm h2
    have ec : ((E[j].toNat : Nat) : Int) = E[j] := by omega
    rw [ec] at this
    refine List.mem_map.mpr ⟨_, this, ?_⟩
    show some (σ E[j]) = some (j : Int)
    have : (σ E[j]).toNat = j := nd_ix ndE (σat _ hm) ej
    have h0 : 0 ≤ σ E[j] := Int.natCast_nonneg _
    congr 1
    omega
  · rw [fm, List.length_map]; exact P.cnt
theorem way_ext {ws : List Win} {as : List Arr} {v : List (Option Int)} (w : Win) (W : WayOk ws as v) : WayOk (ws ++ [w]) as v :=
  ⟨W.len, fun k i a h1 h2 => by
    obtain ⟨h0, u, e, ad⟩ := W.adm k i a h1 h2
    exact ⟨h0, u, by rw [List.getElem?_append_left (List.getElem?_eq_some_iff.mp e).1]; exact e, ad⟩, W.nd⟩
theorem way_none {ws : List Win} {as : List Arr} {v : List (Option Int)} (a : Arr) (W : WayOk ws as v) : WayOk ws (as ++ [a]) (v ++ [none]) :=
  ⟨by simp [W.len], fun k i a' h1 h2 => by
    by_cases hk : k < as.length
    · rw [List.getElem?_append_left (by rw [W.len]; exact hk)] at h1
      rw [List.getElem?_append_left hk] at h2
      exact W.adm k i a' h1 h2
    · rw [List.getElem?_append_right (by rw [W.len]; omega)] at h1
      cases e : k - v.length with
      | zero => rw [e] at h1; simp at h1
      | succ m => rw [e] at h1; simp at h1, by rw [List.filterMap_append]; simpa using W.nd⟩
theorem Pn.addNone {ws : List Win} {as : List Arr} {c : Nat} {v : List (Option Int)} (P : Pn ws as c v) (a : Arr) : Pn ws (as ++ [a]) c (v ++ [none]) :=
  ⟨way_none a P.ok, fun i w h1 h2 => List.mem_append_left _ (P.must i w h1 h2), by rw [List.filterMap_append, List.length_append]; simpa using P.cnt⟩
theorem Pn.addW {ws : List Win} {as : List Arr} {c : Nat} {v : List (Option Int)} (P : Pn ws as c v) {w : Win} (h : w.m = false) : Pn (ws ++ [w]) as c v :=
  ⟨way_ext w P.ok, fun i u h1 h2 => by
    by_cases hk : i < ws.length
    · rw [List.getElem?_append_left hk] at h1
      exact P.must i u h1 h2
    · rw [List.getElem?_append_right (by omega)] at h1
      cases e : i - ws.length with
      | zero => rw [e] at h1; simp at h1; subst h1; rw [h] at h2; cases h2
      | succ m => rw [e] at h1; simp at h1, P.cnt⟩
theorem Pn.addB {ws : List Win} {as : List Arr} {c : Nat} {v : List (Option Int)} (P : Pn ws as c v) {w : Win} {a : Arr} (h : adm w a = true) : Pn (ws ++ [w]) (as ++ [a]) (c + 1) (v ++ [some (ws.length : Int)]) := by
  have nin : (ws.length : Int) ∉ v.filterMap id := fun m => by
    obtain ⟨o, ho, e⟩ := List.mem_filterMap.mp m
    have e' : o = some (ws.length : Int) := e
    subst e'
    obtain ⟨k, hk, ek⟩ := List.getElem_of_mem ho
    have hk2 := hk
    rw [P.ok.len] at hk2
    obtain ⟨_, w', ew, _⟩ := P.ok.adm k _ _ (by rw [List.getElem?_eq_getElem hk, ek]) (List.getElem?_eq_getElem hk2)
    have := (List.getElem?_eq_some_iff.mp ew).1
    rw [Int.toNat_natCast] at this
    omega
  refine ⟨⟨by simp [P.ok.len], fun k i a' h1 h2 => ?_, ?_⟩, fun i u h1 h2 => ?_, ?_⟩
  · by_cases hk : k < as.length
    · rw [List.getElem?_append_left (by rw [P.ok.len]; exact hk)] at h1
      rw [List.getElem?_append_left hk] at h2
      exact (way_ext w P.ok).adm k i a' h1 h2
    · rw [List.getElem?_append_right (by rw [P.ok.len]; omega)] at h1
      rw [List.getElem?_append_right (by omega)] at h2
      rw [P.ok.len] at h1
      cases e : k - as.length with
      | zero =>
        rw [e] at h1 h2
        simp at h1 h2
        subst h1; subst h2
        exact ⟨by omega, w, by rw [Int.toNat_natCast, List.getElem?_append_right (Nat.le_refl _)]; simp, h⟩
      | succ m => rw [e] at h1; simp at h1
  · rw [List.filterMap_append]
    refine List.nodup_append.mpr ⟨P.ok.nd, by simp, fun x hx y hy e => nin ?_⟩
    have : y = (ws.length : Int) := by simpa using hy
    subst this; subst e; exact hx
  · by_cases hk : i < ws.length
    · rw [List.getElem?_append_left hk] at h1
      exact List.mem_append_left _ (P.must i u h1 h2)
    · rw [List.getElem?_append_right (by omega)] at h1
      cases e : i - ws.length with
      | zero =>
        have : i = ws.length := by omega
        subst this
        simp
      | succ m => rw [e] at h1; simp at h1
  · rw [List.filterMap_append, List.length_append, P.cnt]
    rfl
theorem Pn.noNone {ws : List Win} {as : List Arr} {v : List (Option Int)} (P : Pn ws as as.length v) : none ∉ v := fun m => by
  have key : ∀ v : List (Option Int), none ∈ v → (v.filterMap id).length < v.length := by
    intro v
    induction v with
    | nil => intro h; cases h
    | cons o v ih =>
      intro h
      cases o with
      | none =>
        have := List.length_filterMap_le id v
        show (v.filterMap id).length < v.length + 1
        omega
      | some i =>
        have := ih ((List.mem_cons.mp h).resolve_left (fun z => nomatch z))
        show (v.filterMap id).length + 1 < v.length + 1
        omega
  have := key v m
  rw [P.cnt, P.ok.len] at this
  omega
end AU
/-! PX2: what is planted. -/
namespace AU
open PySem PySem.Spec PyProof.Rows L2 DL
variable {A : Ad}
mutual
theorem bd_mono {n m : Nat} (h : n ≤ m) : ∀ d : D, Bd n d → Bd m d
  | .non, _ => trivial
  | .bl _, _ => trivial
  | .int _, _ => trivial
  | .str _, _ => trivial
  | .ty _, _ => trivial
  | .adr _, _ => trivial
  | .ptr k, b => Nat.lt_of_lt_of_le b h
  | .lst ds, b => bds_mono h ds b
  | .tup ds, b => bds_mono h ds b
  | .obj _ _ ds, b => bds_mono h ds b
  | .scr _, _ => trivial
theorem bds_mono {n m : Nat} (h : n ≤ m) : ∀ ds : List D, Bds n ds → Bds m ds
  | [], _ => trivial
  | d :: ds, b => ⟨bd_mono h d b.1, bds_mono h ds b.2⟩
end
theorem bds_iff {n : Nat} : ∀ {ds : List D}, Bds n ds ↔ ∀ d ∈ ds, Bd n d
  | [] => ⟨fun _ d h => (by cases h), fun _ => trivial⟩
  | d :: ds => by
    have ih := bds_iff (n := n) (ds := ds)
    constructor
    · rintro ⟨h1, h2⟩ x hx
      rcases List.mem_cons.mp hx with rfl | hx
      · exact h1
      · exact ih.mp h2 x hx
    · intro h
      exact ⟨h d List.mem_cons_self, ih.mpr fun x hx => h x (List.mem_cons_of_mem _ hx)⟩
theorem BoxOk.mono {x y z n m : Int} (B : BoxOk x y z n) (h : n ≤ m) : BoxOk x y z m := ⟨B.x0, B.y0, B.y1, B.z0, Int.le_trans B.zn h⟩
theorem seqIx {d : Int} {n : Nat} (h0 : 0 ≤ d) (h1 : d < (n : Int)) : seqIndex? d n = some d.toNat := by
  unfold seqIndex?
  have : ¬ d < 0 := by omega
  simp only [this, if_false, decide_eq_true h0, Bool.true_and, decide_eq_true h1, if_true]
theorem erase_perm {α : Type} : ∀ {l : List α} {i : Nat} {x : α}, l[i]? = some x → (x :: l.eraseIdx i).Perm l
  | [], i, x, h => by simp at h
  | a :: l, 0, x, h => by simp at h; subst h; exact List.Perm.refl _
  | a :: l, i + 1, x, h => by
    have ih := erase_perm (l := l) (i := i) (x := x) (by simpa using h)
    exact (List.Perm.swap a x _).trans (ih.cons a)
theorem pl__law_mixed : Pl ["_law_box_here", "_law_some", "_law_left", "_law_turn"] (sp__law_mixed A) (rd__law_mixed A) := by
  rintro ds cs R Z hb hd ⟨x, y, z, n, xs, rfl, rfl, B, hn, hl, hbd, h⟩
  have n0 : 0 ≤ n := Int.le_trans B.z0 B.zn
  refine ⟨by omega, by omega, fun k acc c => ∃ (x z : Int) (left : List D), c = [boxC x y z, .lst left] ∧ BoxOk x y z (n + k) ∧ (acc ++ left).Perm xs ∧ acc.length = k, ⟨x, z, xs, rfl, B.mono (by omega), List.Perm.refl _, rfl⟩, fun _ _ _ _ => trivial, ?_, ?_⟩
  · rintro k d acc c hk ⟨x, z, left, rfl, B, hp, hal⟩ _
    obtain ⟨hk1, rfl⟩ := rng_at hk
    have hk2 : k < xs.length := by simpa using hk1
    have ll : left.length = xs.length - k := by
      have := hp.length_eq
      rw [List.length_append, hal] at this
      omega
    refine brT ⟨rfl, ?_⟩
    refine fr_take (extra := [.lst left]) B (by omega) (by omega) (by omega) fun x z d B d0 d1 => ?_
    have d1 : d < (left.length : Int) := d1
    have ed : left[d.toNat]? = some left[d.toNat] := List.getElem?_eq_getElem (by omega)
    refine ⟨by omega, by omega, d.toNat, left[d.toNat], seqIx d0 d1, ed, ?_⟩
    have hm : left[d.toNat] ∈ xs := hp.mem_iff.mp (List.mem_append_right _ (List.getElem_mem _))
    have pe : (left[d.toNat] :: left.eraseIdx d.toNat).Perm left := erase_perm ed
    refine ⟨by rw [hal]; show _ < 2 ^ 24; omega, _, _, .refl, bd_mono (Nat.zero_le _) _ (bds_iff.mp hbd _ hm), x, z, left.eraseIdx d.toNat, rfl, B.mono (by omega), ?_, by rw [List.length_append, hal]; rfl⟩
    rw [List.append_assoc]
    exact (pe.append_left acc).trans hp
  · rintro acc c ⟨x, z, left, rfl, B, hp, hal⟩
    have hal' : acc.length = xs.length := by rw [hal]; simp
    have : left = [] := by
      have := hp.length_eq
      rw [List.length_append, hal'] at this
      exact List.length_eq_zero_iff.mp (by omega)
    subst this
    rw [List.append_nil] at hp
    have ba : Bds 1 acc := bds_iff.mpr fun d hd => bd_mono (Nat.zero_le _) d (bds_iff.mp hbd d (hp.mem_iff.mp hd))
    exact ⟨_, [boxC x y z], GhV.mk (Nat.le_refl 1) (.cons (.same bd_box) .nil) (.same ba), h x z acc (B.mono (by rw [← hal, hal']; omega)) hp⟩
theorem mono_mixed {ds : List D} {cs : Cs} {R R' : QD} {Z Z' : XD} (h : ∀ d c, R d c → R' d c) : sp__law_mixed A ds cs R Z → sp__law_mixed A ds cs R' Z' :=
  fun ⟨x, y, z, n, xs, e1, e2, h1, h2, h3, h4, r⟩ => ⟨x, y, z, n, xs, e1, e2, h1, h2, h3, h4, fun x' z' ys b p => h _ _ (r x' z' ys b p)⟩
theorem fr_mixed {x y z n : Int} {xs : List D} {R : QD} {Z : XD} (B : BoxOk x y z n) (hn : n < 100000) (hl : xs.length ≤ 60) (hbd : Bds 0 xs) (h : ∀ x' z' ys, BoxOk x' y z' (n + 60) → ys.Perm xs → R (.lst ys) [boxC x' y z']) : framed (sp__law_mixed A) [.ptr 0, .lst xs] [boxC x y z] R Z :=
  framed_all bd_box1 ⟨(by show 0 < 1; decide), bds_mono (Nat.zero_le _) xs hbd, trivial⟩ (fun Z' => ⟨x, y, z, n, xs, rfl, rfl, B, hn, hl, hbd, fun x' z' ys b p => ⟨rfl, bd_box1, bds_iff.mpr fun d hd => bd_mono (Nat.zero_le _) d (bds_iff.mp hbd d (p.mem_iff.mp hd)), h x' z' ys b p⟩⟩) mono_mixed
theorem Planted.perm {ws ws' : List Win} {as as' : List Arr} (P : Planted ws as) (h1 : ws'.Perm ws) (h2 : as'.Perm as) : Planted ws' as' := by
  obtain ⟨v, p⟩ := P.plan
  obtain ⟨v1, p1⟩ := p.permA h2
  obtain ⟨v2, p2⟩ := p1.permW h1
  exact ⟨by rw [h1.length_eq]; exact P.lw, by rw [h2.length_eq]; exact P.la, fun w hw => P.okw w (h1.mem_iff.mp hw), fun a ha => P.oka a (h2.mem_iff.mp ha), v2, by rw [h2.length_eq]; exact p2⟩
theorem adm_in {f l t : Int} {m : Bool} {b : Str} (h1 : f ≤ t) (h2 : t ≤ l) : adm ⟨f, l, m, b⟩ ⟨t, b⟩ = true := by
  unfold adm
  simp [h1, h2]
theorem pl__law_planted : Pl ["_law_box_here", "_law_turn", "_law_windows", "_law_arrivals", "_law_few", "_law_kind", "_law_at", "_law_first", "_law_last"] (sp__law_planted A) (rd__law_planted A) := by
  rintro ds cs R Z hb hd ⟨x, y, z, n, rfl, rfl, B, hn, h⟩
  have n0 : 0 ≤ n := Int.le_trans B.z0 B.zn
  refine ⟨by show 0 ≤ 2 ^ 24; decide, by show 0 ≤ 2 ^ 24; decide, ?_⟩
  refine fr_take (extra := [.lst [], .lst []]) B (by omega) (by decide) (by decide) fun x z few B f0 f1 => ?_
  refine fr_take (extra := [.lst [], .lst []]) B (by omega) (by decide) (by decide) fun x z t B t0 t1 => ?_
  have t1 : t < 21 := t1
  have f1 : few < 3 := f1
  refine ⟨by omega, by omega, fun k δ c => ∃ (x z : Int) (ws : List Win) (as : List Arr) (o1 o5 o6 o7 o8 : Option D), δ = [some (.ptr 0), o1, some (.ptr 1), some (.ptr 2), some (.int (1 + few)), o5, o6, o7, o8] ∧
    c = [boxC x y z, .lst (ws.map dWT), .lst (as.map dArr)] ∧ BoxOk x y z (n + 2 + 10 * k) ∧ ws.length = k ∧ as.length ≤ k ∧ (∀ w ∈ ws, w.ok ∧ w.b.cps.size = 1) ∧ (∀ a ∈ as, a.ok ∧ a.b.cps.size = 1) ∧ ∃ v, Pn ws as as.length v,
    ⟨x, z, [], [], none, none, none, none, none, rfl, rfl, B.mono (by omega), rfl, Nat.le_refl _, (fun w hw => by cases hw), (fun w hw => by cases hw), [], ⟨⟨rfl, fun k i a h => by simp at h, by simp⟩, fun i w h => by simp at h, rfl⟩⟩, fun _ _ _ _ => trivial, ?_, ?_⟩
  · rintro k d δ c hk ⟨x, z, ws, as, o1, o5, o6, o7, o8, rfl, rfl, B, hlw, hla, okw, oka, v, P⟩ _
    obtain ⟨hk1, rfl⟩ := rng_at hk
    have hk5 : k < 21 := by omega
    refine fr_take (extra := [.lst (ws.map dWT), .lst (as.map dArr)]) B (by omega) (by omega) (by omega) fun x z ki B k0 k1 => ?_
    have k1 : ki < 1 + few := k1
    have ec : ∃ c, atI ("abc" : Str).cps.toList ki = some c := by
      have : ki = 0 ∨ ki = 1 ∨ ki = 2 := by omega
      rcases this with rfl | rfl | rfl
      · exact ⟨_, rfl⟩
      · exact ⟨_, rfl⟩
      · exact ⟨_, rfl⟩
    obtain ⟨ch, ec⟩ := ec
    refine ⟨by decide, ch, ec, ?_⟩
    refine fr_take (extra := [.lst (ws.map dWT), .lst (as.map dArr)]) B (by omega) (by decide) (by decide) fun x z at_ B a0 a1 => ?_
    have a1 : at_ < 30 := a1
    refine fr_take (extra := [.lst (ws.map dWT), .lst (as.map dArr)]) B (by omega) (by decide) (by decide) fun x z e1 B e10 e11 => ?_
    have e11 : e1 < 6 := e11
    refine fr_take (extra := [.lst (ws.map dWT), .lst (as.map dArr)]) B (by omega) (by decide) (by decide) fun x z e2 B e20 e21 => ?_
    have e21 : e2 < 6 := e21
    generalize hf : (if at_ - e1 > 0 then at_ - e1 else (0 : Int)) = f
    have f0' : 0 ≤ f ∧ f ≤ at_ := by
      rw [← hf]; split <;> omega
    refine fr_take (extra := [.lst (ws.map dWT), .lst (as.map dArr)]) B (by omega) (by decide) (by decide) fun x z g B g0 g1 => ?_
    have okw' : ∀ m : Bool, ∀ w ∈ ws ++ [(⟨f, at_ + e2, m, ⟨#[ch]⟩⟩ : Win)], w.ok ∧ w.b.cps.size = 1 := fun m w hw => by
      rcases List.mem_append.mp hw with hw | hw
      · exact okw w hw
      · have : w = (⟨f, at_ + e2, m, ⟨#[ch]⟩⟩ : Win) := by simpa using hw
        subst this
        exact ⟨⟨f0'.1, by show f ≤ at_ + e2; omega, by show at_ + e2 ≤ 1000000; omega⟩, rfl⟩
    refine br (fun e => ?_) (fun e => ?_)
    · refine ⟨rfl, by show 4 ≤ 2 ^ 24; decide, by rw [List.length_map]; show _ < 2 ^ 24; omega, ?_⟩
      refine ⟨_, _, .refl, x, z, ws ++ [⟨f, at_ + e2, false, ⟨#[ch]⟩⟩], as, _, _, _, _, _, rfl, by rw [List.map_append]; rfl, B.mono (by omega), by rw [List.length_append, hlw]; rfl, by omega, okw' false, oka, v, P.addW rfl⟩
    · refine ⟨rfl, ?_⟩
      refine fr_take (extra := [.lst (ws.map dWT), .lst (as.map dArr)]) B (by omega) (by decide) (by decide) fun x z mu B _ _ => ?_
      refine ⟨by show 4 ≤ 2 ^ 24; decide, by rw [List.length_map]; show _ < 2 ^ 24; omega, rfl, by show 2 ≤ 2 ^ 24; decide, by rw [List.length_map]; show _ < 2 ^ 24; omega, ?_⟩
      have P' := P.addB (w := ⟨f, at_ + e2, decide (mu = 0), ⟨#[ch]⟩⟩) (a := ⟨at_, ⟨#[ch]⟩⟩) (adm_in f0'.2 (by omega))
      refine ⟨_, _, .refl, x, z, ws ++ [⟨f, at_ + e2, decide (mu = 0), ⟨#[ch]⟩⟩], as ++ [⟨at_, ⟨#[ch]⟩⟩], _, _, _, _, _, rfl, by rw [List.map_append, List.map_append]; rfl, B.mono (by omega), by rw [List.length_append, hlw]; rfl, by rw [List.length_append]; simp; omega, okw' _, fun a ha => ?_, _, by rw [List.length_append]; exact P'⟩
      rcases List.mem_append.mp ha with ha | ha
      · exact oka a ha
      · have : a = (⟨at_, ⟨#[ch]⟩⟩ : Arr) := by simpa using ha
        subst this
        exact ⟨a0, rfl⟩
  · rintro δ c ⟨x, z, ws, as, o1, o5, o6, o7, o8, rfl, rfl, B, hlw, hla, okw, oka, P⟩
    have hkk : ((List.range t.toNat).map fun i : Nat => D.int (0 + (i : Int))).length ≤ 20 := by rw [List.length_map, List.length_range]; omega
    refine ⟨[some (.ptr 0), none, some (.lst (ws.map dWT)), some (.lst (as.map dArr)), none, none, none, none, none], [boxC x y z],
      Gh.mk (Nat.le_refl 1) (.cons (.same bd_box) .nil) (.cons (.same (show 0 < 1 by decide)) (.forget (.cons (.fL rfl (.inl rfl) (.same (bd_wts ws))) (.cons (.fL rfl (.inl rfl) (.same (bd_arrs as))) (.forget (.forget (.forget (.forget (.forget .nil))))))))), ?_⟩
    have P0 : Planted ws as := ⟨by omega, by omega, okw, oka, P⟩
    refine fr_mixed B (by omega) (by rw [List.length_map]; omega) (bd_wts ws) fun x z ys B hp => ?_
    refine fr_mixed B (by omega) (by rw [List.length_map]; omega) (bd_arrs as) fun x z zs B hq => ?_
    obtain ⟨ws', hw', rfl⟩ := perm_lift hp
    obtain ⟨as', ha', rfl⟩ := perm_lift hq
    exact ⟨by show 2 ≤ 2 ^ 24; decide, _, _, .refl, h x z ws' as' (B.mono (by omega)) (P0.perm hw' ha')⟩
end AU
/-! PX3: one alone. -/
namespace AU
open PySem PySem.Spec PyProof.Rows L2 DL
variable {A : Ad}
theorem stuck_rng {ws : List Win} {as : List Arr} {p q : PM} {r : Int} {F : List Int} (M : Mt (nbW ws as) p q) (h0 : 0 ≤ r) (h1 : r < (as.length : Int)) (S : Stuck (nbA ws as) q p r F) : ∀ y ∈ F, 0 ≤ y ∧ y < (as.length : Int) := fun y hy => by
  rcases S.mem y hy with rfl | n
  · exact ⟨h0, h1⟩
  · cases e : valG p y with
    | none => exact absurd e n
    | some w => exact (nbW_rng (M.ed y w e)).2
theorem Pn.notMissing {ws : List Win} {as : List Arr} {c : Nat} {v : List (Option Int)} {F : List Int} (P : Pn ws as c v) (N : NoWay ws as F) : False :=
  noWay N P.ok fun i hi => by
    obtain ⟨h0, w, e, hm⟩ := N.must i hi
    have := P.must i.toNat w e hm
    have ei : ((i.toNat : Nat) : Int) = i := by omega
    rw [ei] at this
    exact this
theorem mono_explained {ds : List D} {cs : Cs} {R R' : QD} {Z Z' : XD} (h : ∀ d c, R d c → R' d c) : sp_explained A ds cs R Z → sp_explained A ds cs R' Z' :=
  fun ⟨ws, as, e1, e2, I, r1, r2, r3⟩ => ⟨ws, as, e1, e2, I, fun F a => h _ _ (r1 F a), fun p q r F a b c d e => h _ _ (r2 p q r F a b c d e), fun p q ps a b c d => h _ _ (r3 p q ps a b c d)⟩
theorem mono_most {ds : List D} {cs : Cs} {R R' : QD} {Z Z' : XD} (h : ∀ d c, R d c → R' d c) : sp_most_explained A ds cs R Z → sp_most_explained A ds cs R' Z' :=
  fun ⟨ws, as, e1, e2, I, r⟩ => ⟨ws, as, e1, e2, I, fun p q ps Rs X a b c d => h _ _ (r p q ps Rs X a b c d)⟩
theorem mono_made {ds : List D} {cs : Cs} {R R' : QD} {Z Z' : XD} (h : ∀ d c, R d c → R' d c) : sp__law_made A ds cs R Z → sp__law_made A ds cs R' Z' :=
  fun ⟨ws, e1, e2, I, J, r⟩ => ⟨ws, e1, e2, I, J, h _ _ r⟩
theorem mono_expl {ds : List D} {cs : Cs} {R R' : QD} {Z Z' : XD} (h : ∀ d c, R d c → R' d c) : sp__law_is_explanation A ds cs R Z → sp__law_is_explanation A ds cs R' Z' :=
  fun ⟨ws, as, ps, e1, e2, I, G, a, b, r⟩ => ⟨ws, as, ps, e1, e2, I, G, a, b, h _ _ r⟩
theorem mono_miss {ds : List D} {cs : Cs} {R R' : QD} {Z Z' : XD} (h : ∀ d c, R d c → R' d c) : sp__law_shows_missing A ds cs R Z → sp__law_shows_missing A ds cs R' Z' :=
  fun ⟨ws, as, F, e1, e2, I, N, r⟩ => ⟨ws, as, F, e1, e2, I, N, h _ _ r⟩
theorem mono_many {ds : List D} {cs : Cs} {R R' : QD} {Z Z' : XD} (h : ∀ d c, R d c → R' d c) : sp__law_shows_too_many A ds cs R Z → sp__law_shows_too_many A ds cs R' Z' :=
  fun ⟨ws, as, F, e1, e2, I, N, r⟩ => ⟨ws, as, F, e1, e2, I, N, h _ _ r⟩
section
variable {ws : List Win} {as : List Arr} {F : List Int} {ps : List (Int × Int)} {dw da : D} {extra : Cs} {R : QD} {Z : XD}
theorem fr_made (e : dw = .lst (ws.map dWT)) (h1 : ws.length ≤ 60) (h2 : ∀ w ∈ ws, w.ok) (h : R (.lst (ws.map (dWin A))) extra) : framed (sp__law_made A) [dw] extra R Z := by
  subst e
  exact framed_pre (cs := []) (extra := extra) no_cells ⟨bd_wts ws, trivial⟩ (fun Z' => ⟨ws, rfl, rfl, h1, h2, rfl, no_cells, bd_wins ws, h⟩) mono_made
theorem fr_explained (e : da = .lst (as.map dArr)) (I : In ws as) (r1 : ∀ F, NoWay ws as F → R (.tup [.str "missing", .lst (F.map .int)]) extra) (r2 : ∀ (p q : PM) (r : Int) (F : List Int), Musts ws as p q → valG p r = none → 0 ≤ r → r < (as.length : Int) → Stuck (nbA ws as) q p r F → R (.tup [.str "too_many", .lst (F.map .int)]) extra)
    (r3 : ∀ (p q ps : PM), Musts ws as p q → (∀ i : Nat, i < as.length → valG p (i : Int) ≠ none) → ps.Perm p → ps.Pairwise leP → R (.tup [.str "explained", .lst (ps.map pairI)]) extra) : framed (sp_explained A) [.lst (ws.map (dWin A)), da] extra R Z := by
  subst e
  exact framed_pre (cs := []) (extra := extra) no_cells ⟨bd_wins ws, bd_arrs as, trivial⟩ (fun Z' => ⟨ws, as, rfl, rfl, I, fun F a => ⟨rfl, no_cells, ⟨trivial, bd_ints F, trivial⟩, r1 F a⟩, fun p q r F a b c d e => ⟨rfl, no_cells, ⟨trivial, bd_ints F, trivial⟩, r2 p q r F a b c d e⟩, fun p q ps a b c d => ⟨rfl, no_cells, ⟨trivial, bd_pairsI ps, trivial⟩, r3 p q ps a b c d⟩⟩) mono_explained
theorem fr_most (e : da = .lst (as.map dArr)) (I : In ws as) (r : ∀ (p q ps : PM) (Rs X : List Int), Most ws as p q Rs X → ps.Perm p → ps.Pairwise leP → X.Pairwise (· ≤ ·) → R (.tup [.lst (ps.map pairI), .lst (X.map .int), .lst ((others as.length Rs).map .int)]) extra) : framed (sp_most_explained A) [.lst (ws.map (dWin A)), da] extra R Z := by
  subst e
  exact framed_pre (cs := []) (extra := extra) no_cells ⟨bd_wins ws, bd_arrs as, trivial⟩ (fun Z' => ⟨ws, as, rfl, rfl, I, fun p q ps Rs X a b c d => ⟨rfl, no_cells, ⟨bd_pairsI ps, bd_ints X, bd_ints _, trivial⟩, r p q ps Rs X a b c d⟩⟩) mono_most
theorem fr_expl (I : In ws as) (G : GoodP ws as ps) (h1 : ps.length = as.length) (h2 : ∀ (i : Nat) (w : Win), ws[i]? = some w → w.m = true → (i : Int) ∈ ps.map Prod.snd) (h : R (.bl true) extra) : framed (sp__law_is_explanation A) [.lst (ws.map dWT), .lst (as.map dArr), .lst (ps.map pairI)] extra R Z :=
  framed_pre (cs := []) (extra := extra) no_cells ⟨bd_wts ws, bd_arrs as, bd_pairsI ps, trivial⟩ (fun Z' => ⟨ws, as, ps, rfl, rfl, I, G, h1, h2, rfl, no_cells, trivial, h⟩) mono_expl
theorem fr_miss (e1 : dw = .lst (ws.map dWT)) (e : da = .lst (as.map dArr)) (I : In ws as) (N : NoWay ws as F) (h : R (.bl true) extra) : framed (sp__law_shows_missing A) [dw, da, .lst (F.map .int)] extra R Z := by
  subst e1 e
  exact framed_pre (cs := []) (extra := extra) no_cells ⟨bd_wts ws, bd_arrs as, bd_ints F, trivial⟩ (fun Z' => ⟨ws, as, F, rfl, rfl, I, N, rfl, no_cells, trivial, h⟩) mono_miss
theorem fr_many (e1 : dw = .lst (ws.map dWT)) (e : da = .lst (as.map dArr)) (I : In ws as) (N : TooMany ws as F) (h : R (.bl true) extra) : framed (sp__law_shows_too_many A) [dw, da, .lst (F.map .int)] extra R Z := by
  subst e1 e
  exact framed_pre (cs := []) (extra := extra) no_cells ⟨bd_wts ws, bd_arrs as, bd_ints F, trivial⟩ (fun Z' => ⟨ws, as, F, rfl, rfl, I, N, rfl, no_cells, trivial, h⟩) mono_many
end
theorem goodP {ws : List Win} {as : List Arr} {p q ps : PM} (M : Mt (nbW ws as) p q) (h : ps.Perm p) : GoodP ws as ps := by
  have hm : ∀ e ∈ ps, valG p e.1 = some e.2 := fun e he => (val_some M.kp).mpr (h.mem_iff.mp he)
  have n1 : (ps.map Prod.fst).Nodup := (h.map Prod.fst).nodup_iff.mpr M.kp
  refine ⟨n1, List.pairwise_map.mpr ((List.pairwise_map.mp n1).imp_of_mem fun {x y} hx hy hne e => hne ?_), fun e he => nb_sym.mp (M.ed _ _ (hm e he))⟩
  have z1 := (M.iff _ _).mp (hm x hx)
  have z2 := (M.iff _ _).mp (hm y hy)
  rw [e, z2] at z1
  exact (Option.some.inj z1).symm
theorem full_len {ws : List Win} {as : List Arr} {p q : PM} (M : Mt (nbW ws as) p q) (all : ∀ i : Nat, i < as.length → valG p (i : Int) ≠ none) : p.length = as.length := by
  have h1 := (mt_lens M fun y x h => nbW_rng h).1
  have h2 := nd_sub (l := upTo as.length) (l' := p.map Prod.fst) (upTo_nd _) fun i hi => by
    have hi := mem_upTo.mp hi
    have ei : ((i.toNat : Nat) : Int) = i := by omega
    refine Classical.byContradiction fun n => all i.toNat (by omega) ?_
    rw [ei]
    exact val_none.mpr n
  rw [List.length_map, upTo_len] at h2
  omega
theorem musts_snd {ws : List Win} {as : List Arr} {p q ps : PM} (M : Musts ws as p q) (h : ps.Perm p) : ∀ (i : Nat) (w : Win), ws[i]? = some w → w.m = true → (i : Int) ∈ ps.map Prod.snd := fun i w h1 h2 => by
  cases e : valG q (i : Int) with
  | none => exact absurd e (M.all i w h1 h2)
  | some a => exact List.mem_map.mpr ⟨_, h.mem_iff.mpr ((val_some M.mt.kp).mp ((M.mt.iff a i).mpr e)), rfl⟩
theorem tooMany {ws : List Win} {as : List Arr} {p q : PM} {r : Int} {F : List Int} (M : Mt (nbW ws as) p q) (hr : valG p r = none) (h0 : 0 ≤ r) (h1 : r < (as.length : Int)) (S : Stuck (nbA ws as) q p r F) : TooMany ws as F := ⟨stuck_rng M h0 h1 S, p, q, r, M.sym, hr, S⟩
/-- a window that must and that no arrival suits -/
theorem no_musts {ws : List Win} {as : List Arr} {p q : PM} {w : Win} (M : Musts ws as p q) (hw : w ∈ ws) (hm : w.m = true) (h : ∀ a ∈ as, adm w a = false) : False := by
  obtain ⟨j, hj, e⟩ := List.getElem_of_mem hw
  have ej : ws[j]? = some w := by rw [List.getElem?_eq_getElem hj, e]
  cases eq : valG q (j : Int) with
  | none => exact M.all j w ej hm eq
  | some a =>
    obtain ⟨_, _, w', a', e1, e2, e3⟩ := nbW_mem.mp (M.mt.ed a j ((M.mt.iff a j).mpr eq))
    rw [Int.toNat_natCast, ej] at e1
    cases e1
    rw [h a' (List.mem_of_getElem? e2)] at e3
    cases e3
/-- an arrival that no window suits -/
theorem no_all {ws : List Win} {as : List Arr} {p q : PM} {a : Arr} {i : Nat} (M : Mt (nbW ws as) p q) (all : valG p (i : Int) ≠ none) (ha : as[i]? = some a) (h : ∀ w ∈ ws, adm w a = false) : False := by
  cases e : valG p (i : Int) with
  | none => exact all e
  | some j =>
    obtain ⟨_, _, w', a', e1, e2, e3⟩ := nbW_mem.mp (M.ed _ j e)
    rw [Int.toNat_natCast, ha] at e2
    cases e2
    rw [h w' (List.mem_of_getElem? e1)] at e3
    cases e3
theorem two_at {α : Type} {f : α → Bool} : ∀ {l : List α} {i j : Nat} {x y : α}, i < j → l[i]? = some x → f x = true → l[j]? = some y → f y = true → 2 ≤ (l.filter f).length
  | [], i, j, x, y, _, h, _, _, _ => by simp at h
  | a :: l, 0, 0, x, y, h, _, _, _, _ => absurd h (Nat.lt_irrefl _)
  | a :: l, 0, j + 1, x, y, _, h1, h2, h3, h4 => by
    simp at h1
    subst h1
    have m : y ∈ l.filter f := List.mem_filter.mpr ⟨List.mem_of_getElem? (show l[j]? = some y by simpa using h3), h4⟩
    have := List.length_pos_of_mem m
    rw [List.filter_cons_of_pos h2, List.length_cons]
    omega
  | a :: l, i + 1, 0, x, y, h, _, _, _, _ => absurd h (Nat.not_lt_zero _)
  | a :: l, i + 1, j + 1, x, y, h, h1, h2, h3, h4 => by
    have ih := two_at (l := l) (i := i) (j := j) (Nat.lt_of_succ_lt_succ h) (by simpa using h1) h2 (by simpa using h3) h4
    rw [List.filter_cons]
    split
    · rw [List.length_cons]; omega
    · exact ih
theorem cut_perm {α : Type} (xs : List α) (x : α) {s : Int} (h : 0 ≤ s) : (cutG xs none (some s) ++ [x] ++ cutG xs (some s) none).Perm (x :: xs) := by
  have e : ∀ d : Nat, HT.sIx xs.length d (some s) = min s.toNat xs.length := fun d => by
    show (if s < 0 then (s + (xs.length : Int)).toNat else min s.toNat xs.length) = _
    rw [if_neg (by omega)]
  have e1 : cutG xs none (some s) = xs.take (min s.toNat xs.length) := by
    unfold cutG
    rw [e]
    show (xs.drop 0).take (min s.toNat xs.length - 0) = _
    rw [List.drop_zero, Nat.sub_zero]
  have e2 : cutG xs (some s) none = xs.drop (min s.toNat xs.length) := by
    unfold cutG
    rw [e]
    show (xs.drop (min s.toNat xs.length)).take (xs.length - min s.toNat xs.length) = _
    rw [List.take_of_length_le (by rw [List.length_drop]; exact Nat.le_refl _)]
  rw [e1, e2, List.append_assoc]
  show (xs.take _ ++ x :: xs.drop _).Perm (x :: xs)
  refine List.perm_middle.trans ?_
  rw [List.take_append_drop]
theorem cut_map {α β : Type} (f : α → β) (xs : List α) (lo hi : Option Int) : cutG (xs.map f) lo hi = (cutG xs lo hi).map f := by
  unfold cutG
  rw [List.length_map, List.map_take, List.map_drop]
/-! ### one alone -/
def lone (t d : Int) : Win := ⟨t, t + d, true, "alone"⟩
structure Al (t d : Int) (ws more : List Win) (as : List Arr) : Prop where
  P : Planted ws as
  t0 : 0 ≤ t
  t1 : t < 30
  d0 : 0 ≤ d
  d1 : d < 4
  pm : more.Perm (lone t d :: ws)
section
variable {t d : Int} {ws more : List Win} {as : List Arr}
theorem size_alone : ("alone" : Str).cps.size = 5 := by decide +kernel
theorem ne_alone {b : Str} (h : b.cps.size = 1) : b ≠ "alone" := fun e => by rw [e, size_alone] at h; cases h
theorem Al.inn (H : Al t d ws more as) {as' : List Arr} (h : as'.length ≤ 22) (ha : ∀ a ∈ as', a.ok) : In more as' := ⟨by rw [H.pm.length_eq]; have := H.P.lw; simp; omega, by omega, ha⟩
theorem Al.okw (H : Al t d ws more as) : ∀ w ∈ more, w.ok := fun w hw => by
  rcases List.mem_cons.mp (H.pm.mem_iff.mp hw) with rfl | h
  · have := H.t0; have := H.t1; have := H.d0; have := H.d1
    exact ⟨by show 0 ≤ t; omega, by show t ≤ t + d; omega, by show t + d ≤ 1000000; omega⟩
  · exact (H.P.okw w h).1
theorem Al.len (H : Al t d ws more as) : more.length ≤ 60 := by rw [H.pm.length_eq]; have := H.P.lw; simp; omega
/-- who is suited by an arrival labelled so -/
theorem Al.only (H : Al t d ws more as) {w : Win} {x : Int} (hw : w ∈ more) (h : adm w ⟨x, "alone"⟩ = true) : w = lone t d := by
  rcases List.mem_cons.mp (H.pm.mem_iff.mp hw) with h' | h'
  · exact h'
  · unfold adm at h
    rw [Bool.and_eq_true] at h
    exact absurd (of_decide_eq_true h.1).symm (ne_alone (H.P.okw w h').2)
theorem Al.late (H : Al t d ws more as) : ∀ w ∈ more, adm w ⟨t + d + 1, "alone"⟩ = false := fun w hw => by
  cases e : adm w ⟨t + d + 1, "alone"⟩ with
  | false => rfl
  | true =>
    have := H.only hw e
    subst this
    unfold adm at e
    simp only [Bool.and_eq_true] at e
    have h3 : t + d + 1 ≤ t + d := of_decide_eq_true e.2.2
    omega
theorem Al.mine (H : Al t d ws more as) : ∀ a ∈ as, adm (lone t d) a = false := fun a ha => by
  cases e : adm (lone t d) a with
  | false => rfl
  | true =>
    unfold adm at e
    rw [Bool.and_eq_true] at e
    exact absurd (of_decide_eq_true e.1) (ne_alone (H.P.oka a ha).2)
theorem Al.mem (H : Al t d ws more as) : lone t d ∈ more := H.pm.mem_iff.mpr List.mem_cons_self
theorem Al.plan (H : Al t d ws more as) : ∃ v, Pn more (as ++ [⟨t, "alone"⟩]) (as.length + 1) v := by
  obtain ⟨v, P⟩ := H.P.plan
  have h := H.d0
  have P1 := P.addB (w := lone t d) (a := ⟨t, "alone"⟩) (adm_in (Int.le_refl t) (by omega))
  exact P1.permW (H.pm.trans (List.perm_append_comm (l₁ := [lone t d]) (l₂ := ws)))
theorem Al.plan2 (H : Al t d ws more as) (a : Arr) {as' : List Arr} (h : as'.Perm (as ++ [⟨t, "alone"⟩] ++ [a])) : ∃ v, Pn more as' (as.length + 1) v := by
  obtain ⟨v, P⟩ := H.plan
  exact (P.addNone a).permA h
theorem Al.twice (H : Al t d ws more as) {as' : List Arr} {p q : PM} {i j : Nat} (M : Mt (nbW more as') p q) (hij : i ≠ j) (hi : as'[i]? = some ⟨t, "alone"⟩) (hj : as'[j]? = some ⟨t, "alone"⟩) (h1 : valG p (i : Int) ≠ none) (h2 : valG p (j : Int) ≠ none) : False := by
  have g : ∀ k : Nat, as'[k]? = some ⟨t, "alone"⟩ → valG p (k : Int) ≠ none → ∃ u : Nat, valG p (k : Int) = some (u : Int) ∧ more[u]? = some (lone t d) := fun k hk n => by
    cases e : valG p (k : Int) with
    | none => exact absurd e n
    | some u =>
      obtain ⟨u0, _, w', a', e1, e2, e3⟩ := nbW_mem.mp (M.ed _ u e)
      rw [Int.toNat_natCast, hk] at e2
      cases e2
      have := H.only (List.mem_of_getElem? e1) e3
      subst this
      have eu : ((u.toNat : Nat) : Int) = u := by omega
      exact ⟨u.toNat, by rw [eu], e1⟩
  obtain ⟨u, e1, m1⟩ := g i hi h1
  obtain ⟨u', e2, m2⟩ := g j hj h2
  have ne : u ≠ u' := fun e => by
    subst e
    have z1 := (M.iff _ _).mp e1
    have z2 := (M.iff _ _).mp e2
    rw [z1] at z2
    have := Option.some.inj z2
    omega
  let f : Win → Bool := fun w => decide (w.b = ("alone" : Str))
  have ft : f (lone t d) = true := decide_eq_true rfl
  have fn : ∀ w ∈ ws, ¬ f w = true := fun w hw h => ne_alone (H.P.okw w hw).2 (of_decide_eq_true h)
  have fl : (more.filter f).length = 1 := by
    rw [(H.pm.filter f).length_eq, List.filter_cons_of_pos ft, List.filter_eq_nil_iff.mpr fn]
    rfl
  rcases Nat.lt_or_gt_of_ne ne with h | h
  · have := two_at (f := f) h m1 ft m2 ft
    omega
  · have := two_at (f := f) h m2 ft m1 ft
    omega
end
end AU
/-! PX4: the law. -/
namespace AU
open PySem PySem.Spec PyProof.Rows L2 DL
variable {A : Ad}
theorem str_ne {a b : Str} {P Q : Prop} (h : a = b) (q : Q) : brn (!decide (a = b)) P Q := by
  rw [decide_eq_true h]
  exact brF q
theorem pl__law_alone_right : Pl ["_law_box_here", "_law_windows", "_law_arrivals", "_law_at", "_law_some", "_law_lone", "_law_spot", "_law_more", "_law_one", "_law_late", "_law_found"] (sp__law_alone_right A) (rd__law_alone_right A) := by
  rintro ds cs R Z hb hd ⟨x, y, z, n, ws, as, rfl, rfl, B, hn, P, h⟩
  have n0 : 0 ≤ n := Int.le_trans B.z0 B.zn
  have plw := P.lw
  have pla := P.la
  refine fr_take (extra := []) B (by omega) (by decide) (by decide) fun x z t B t0 t1 => ?_
  refine fr_take (extra := []) B (by omega) (by decide) (by decide) fun x z d B d0 d1 => ?_
  have t1 : t < 30 := t1
  have d1 : d < 4 := d1
  refine ⟨by show 4 ≤ 2 ^ 24; decide, ?_⟩
  refine fr_take (extra := []) B (by omega) (by rw [List.length_map]; omega) (by rw [List.length_map]; omega) fun x z s B s0 s1 => ?_
  generalize hmore : cutG ws none (some s) ++ [lone t d] ++ cutG ws (some s) none = more
  have H : Al t d ws more as := ⟨P, t0, t1, d0, d1, by rw [← hmore]; exact cut_perm ws _ s0⟩
  have em : cutG (ws.map dWT) none (some s) ++ [D.tup [.int t, .int (t + d), .bl true, .str "alone"]] ++ cutG (ws.map dWT) (some s) none = more.map dWT := by
    rw [← hmore, cut_map, cut_map, List.map_append, List.map_append]
    rfl
  have hlen : more.length ≤ 60 := H.len
  have c1 : (cutG (ws.map dWT) none (some s)).length + 1 ≤ 2 ^ 24 := by
    have := congrArg List.length em
    rw [List.length_append, List.length_append, List.length_map] at this
    simp only [List.length_cons, List.length_nil] at this
    omega
  have c2 : (cutG (ws.map dWT) none (some s) ++ [D.tup [.int t, .int (t + d), .bl true, .str "alone"]]).length + (cutG (ws.map dWT) (some s) none).length ≤ 2 ^ 24 := by
    have := congrArg List.length em
    rw [List.length_append, List.length_map] at this
    omega
  refine ⟨by show 1 ≤ 2 ^ 24; decide, c1, c2, ?_⟩
  refine ⟨by show 2 ≤ 2 ^ 24; decide, _, rfl, by show 2 ≤ 2 ^ 24; decide, ?_⟩
  conv => whnf
  rw [em]
  clear em c1 c2 hmore
  have okLate : ∀ a ∈ ((⟨t + d + 1, "alone"⟩ : Arr) :: as), a.ok := fun a ha => by
    rcases List.mem_cons.mp ha with rfl | ha
    · show 0 ≤ t + d + 1; omega
    · exact (P.oka a ha).1
  have oka : ∀ a ∈ as, a.ok := fun a ha => (P.oka a ha).1
  have okOne : (⟨t, "alone"⟩ : Arr).ok := t0
  have lateNo : ∀ a ∈ ((⟨t + d + 1, "alone"⟩ : Arr) :: as), adm (lone t d) a = false := fun a ha => by
    rcases List.mem_cons.mp ha with rfl | ha
    · exact H.late _ H.mem
    · exact H.mine a ha
  -- none: missing
  refine ⟨by show 1 ≤ 2 ^ 24; decide, by rw [List.length_map]; show 1 + _ ≤ 2 ^ 24; omega, by show 2 ≤ 2 ^ 24; decide, ?_⟩
  refine ⟨fun k δ c => ∃ (o4 o10 : Option D), δ = [some (.ptr 0), some (.lst (ws.map dWT)), some (.lst (as.map dArr)), some (.int t), o4, some (dWT (lone t d)), some (.int s), some (.lst (more.map dWT)), some (dArr ⟨t, "alone"⟩), some (dArr ⟨t + d + 1, "alone"⟩), o10] ∧ c = [boxC x y z],
    ⟨none, none, rfl, rfl⟩, fun _ _ _ _ => trivial, ?_, ?_⟩
  · rintro k dd δ c hk ⟨o4, o10, rfl, rfl⟩ _
    have hk' : k = 0 ∨ k = 1 := by
      have := (List.getElem?_eq_some_iff.mp hk).1
      have h2 : k < 2 := this
      omega
    rcases hk' with rfl | rfl
    · cases hk
      refine fr_made rfl hlen H.okw ?_
      refine fr_explained rfl (H.inn (by omega) oka) (fun F N => ⟨_, rfl, str_ne rfl ⟨_, rfl, ?_⟩⟩) (fun p q r F M _ _ _ _ => (no_musts M H.mem rfl H.mine).elim) fun p q ps M _ _ _ => (no_musts M H.mem rfl H.mine).elim
      exact fr_miss rfl rfl (H.inn (by omega) oka) N (brF ⟨_, _, .refl, _, _, rfl, rfl⟩)
    · cases hk
      refine fr_made rfl hlen H.okw ?_
      refine fr_explained (as := ⟨t + d + 1, "alone"⟩ :: as) rfl (H.inn (by simp; omega) okLate) (fun F N => ⟨_, rfl, str_ne rfl ⟨_, rfl, ?_⟩⟩) (fun p q r F M _ _ _ _ => (no_musts M H.mem rfl lateNo).elim) fun p q ps M _ _ _ => (no_musts M H.mem rfl lateNo).elim
      exact fr_miss rfl rfl (H.inn (by simp; omega) okLate) N (brF ⟨_, _, .refl, _, _, rfl, rfl⟩)
  · rintro δ c ⟨o4, o10, rfl, rfl⟩
    have okA : ∀ {l : List Arr}, (∀ a ∈ l, a ∈ as ∨ a = ⟨t, "alone"⟩ ∨ a = ⟨t + d + 1, "alone"⟩) → ∀ a ∈ l, a.ok := fun h a ha => by
      rcases h a ha with h | rfl | rfl
      · exact oka a h
      · exact okOne
      · show 0 ≤ t + d + 1; omega
    obtain ⟨v1, P1⟩ := H.plan
    refine fr_made rfl hlen H.okw ?_
    refine ⟨by show 1 ≤ 2 ^ 24; decide, by rw [List.length_map]; show _ + 1 ≤ 2 ^ 24; omega, ?_⟩
    have l1 : (as ++ [(⟨t, "alone"⟩ : Arr)]).length = as.length + 1 := by simp
    refine fr_explained (as := as ++ [⟨t, "alone"⟩]) (by rw [List.map_append]; rfl) (H.inn (by rw [l1]; omega) (okA fun a ha => by
      rcases List.mem_append.mp ha with h | h
      · exact .inl h
      · exact .inr (.inl (by simpa using h)))) (fun F N => (P1.notMissing N).elim) (fun p q r F M hr h0 h1 S => (noWhole M.mt hr S (stuck_rng M.mt h0 h1 S) P1.ok (by rw [← l1] at P1; exact P1.noNone)).elim) fun p q ps M all h1 h2 => ⟨_, rfl, str_ne rfl ?_⟩
    -- too many
    have oks2 : ∀ a ∈ as ++ [(⟨t, "alone"⟩ : Arr), ⟨t, "alone"⟩], a.ok := okA fun a ha => by
      rcases List.mem_append.mp ha with h | h
      · exact .inl h
      · exact .inr (.inl (by simpa using h))
    have oks3 : ∀ a ∈ (⟨t + d + 1, "alone"⟩ : Arr) :: as ++ [(⟨t, "alone"⟩ : Arr)], a.ok := okA fun a ha => by
      rcases List.mem_append.mp ha with h | h
      · rcases List.mem_cons.mp h with h | h
        · exact .inr (.inr h)
        · exact .inl h
      · exact .inr (.inl (by simpa using h))
    refine ⟨by show 2 ≤ 2 ^ 24; decide, by rw [List.length_map]; show _ + 2 ≤ 2 ^ 24; omega, by show 1 ≤ 2 ^ 24; decide, by rw [List.length_map]; show 1 + _ ≤ 2 ^ 24; omega, by show 1 ≤ 2 ^ 24; decide, by rw [List.length_append, List.length_map]; show 1 + _ + 1 ≤ 2 ^ 24; omega, by show 2 ≤ 2 ^ 24; decide, ?_⟩
    refine ⟨fun k δ c => ∃ (o4 o10 : Option D), δ = [some (.ptr 0), some (.lst (ws.map dWT)), some (.lst (as.map dArr)), some (.int t), o4, some (dWT (lone t d)), some (.int s), some (.lst (more.map dWT)), some (dArr ⟨t, "alone"⟩), some (dArr ⟨t + d + 1, "alone"⟩), o10] ∧ c = [boxC x y z],
      ⟨_, _, rfl, rfl⟩, fun _ _ _ _ => trivial, ?_, ?_⟩
    · rintro k dd δ c hk ⟨o4, o10, rfl, rfl⟩ _
      have hk' : k = 0 ∨ k = 1 := by
        have := (List.getElem?_eq_some_iff.mp hk).1
        have h2 : k < 2 := this
        omega
      rcases hk' with rfl | rfl
      · cases hk
        obtain ⟨v2, P2⟩ := H.plan2 ⟨t, "alone"⟩ (as' := as ++ [⟨t, "alone"⟩, ⟨t, "alone"⟩]) (by rw [List.append_assoc]; exact List.Perm.refl _)
        have I2 : In more (as ++ [(⟨t, "alone"⟩ : Arr), ⟨t, "alone"⟩]) := H.inn (by simp; omega) oks2
        have eD : D.lst (as.map dArr ++ [dArr ⟨t, "alone"⟩, dArr ⟨t, "alone"⟩]) = .lst ((as ++ [(⟨t, "alone"⟩ : Arr), ⟨t, "alone"⟩]).map dArr) := by rw [List.map_append]; rfl
        refine fr_made rfl hlen H.okw ?_
        refine fr_explained eD I2 (fun F N => (P2.notMissing N).elim) (fun p q r F M hr h0 h1 S => ⟨_, rfl, str_ne rfl ⟨_, rfl, ?_⟩⟩) fun p q ps M all _ _ => ?_
        · exact fr_many rfl eD I2 (tooMany M.mt hr h0 h1 S) (brF ⟨_, _, .refl, _, _, rfl, rfl⟩)
        · exact (H.twice (i := as.length) (j := as.length + 1) M.mt (by omega) (by rw [List.getElem?_append_right (Nat.le_refl _)]; simp) (by rw [List.getElem?_append_right (by omega)]; simp) (all _ (by simp)) (all _ (by simp))).elim
      · cases hk
        obtain ⟨v2, P2⟩ := H.plan2 ⟨t + d + 1, "alone"⟩ (as' := ⟨t + d + 1, "alone"⟩ :: as ++ [⟨t, "alone"⟩]) (List.perm_append_comm (l₁ := [(⟨t + d + 1, "alone"⟩ : Arr)]) (l₂ := as ++ [⟨t, "alone"⟩]))
        have I2 : In more ((⟨t + d + 1, "alone"⟩ : Arr) :: as ++ [(⟨t, "alone"⟩ : Arr)]) := H.inn (by simp; omega) oks3
        have eD : D.lst ([dArr ⟨t + d + 1, "alone"⟩] ++ as.map dArr ++ [dArr ⟨t, "alone"⟩]) = .lst (((⟨t + d + 1, "alone"⟩ : Arr) :: as ++ [(⟨t, "alone"⟩ : Arr)]).map dArr) := by rw [List.map_append]; rfl
        refine fr_made rfl hlen H.okw ?_
        refine fr_explained eD I2 (fun F N => (P2.notMissing N).elim) (fun p q r F M hr h0 h1 S => ⟨_, rfl, str_ne rfl ⟨_, rfl, ?_⟩⟩) fun p q ps M all _ _ => ?_
        · exact fr_many rfl eD I2 (tooMany M.mt hr h0 h1 S) (brF ⟨_, _, .refl, _, _, rfl, rfl⟩)
        · exact (no_all (i := 0) M.mt (all 0 (by simp)) rfl H.late).elim
    · rintro δ c ⟨o4, o10, rfl, rfl⟩
      refine fr_made rfl hlen H.okw ?_
      refine ⟨by show 2 ≤ 2 ^ 24; decide, by rw [List.length_map]; show 2 + _ ≤ 2 ^ 24; omega, ?_⟩
      have oks4 : ∀ a ∈ (⟨t + d + 1, "alone"⟩ : Arr) :: ⟨t, "alone"⟩ :: as, a.ok := okA fun a ha => by
        rcases List.mem_cons.mp ha with h | h
        · exact .inr (.inr h)
        · rcases List.mem_cons.mp h with h | h
          · exact .inr (.inl h)
          · exact .inl h
      refine fr_most (as := ⟨t + d + 1, "alone"⟩ :: ⟨t, "alone"⟩ :: as) rfl (H.inn (by simp; omega) oks4) fun p q ps Rs X M h1 h2 h3 => ⟨_, rfl, ?_⟩
      obtain ⟨v3, P3⟩ := H.plan2 ⟨t + d + 1, "alone"⟩ (as' := ⟨t + d + 1, "alone"⟩ :: ⟨t, "alone"⟩ :: as) ((List.Perm.cons _ (List.perm_append_comm (l₁ := [(⟨t, "alone"⟩ : Arr)]) (l₂ := as))).trans (List.perm_append_comm (l₁ := [(⟨t + d + 1, "alone"⟩ : Arr)]) (l₂ := as ++ [⟨t, "alone"⟩])))
      have u1 := way_le M P3.ok
      rw [P3.cnt] at u1
      have M' := M.mt.symA
      have n0 : valG p 0 = none := Classical.byContradiction fun n => no_all (i := 0) M' n rfl H.late
      have u2 := nd_sub (l := p.map Prod.fst) (l' := (upTo (as.length + 2)).erase 0) M'.kp fun x hx => by
        cases e : valG p x with
        | none => exact absurd hx (val_none.mp e)
        | some y =>
          have r := (nbW_rng (M'.ed x y e)).2
          have r2 : x < ((as.length + 2 : Nat) : Int) := r.2
          refine (List.mem_erase_of_ne fun z => ?_).mpr (mem_upTo.mpr ⟨r.1, r2⟩)
          subst z
          rw [n0] at e; cases e
      rw [List.length_map, List.length_erase_of_mem (mem_upTo.mpr ⟨by omega, by omega⟩), upTo_len] at u2
      have ep : (((ps.map pairI).length : Nat) : Int) = (((as.map dArr).length : Nat) : Int) + 1 := by
        rw [List.length_map, List.length_map, h1.length_eq]
        omega
      show ∃ d' c', GhV _ (.bl (decide ((((ps.map pairI).length : Nat) : Int) = (((as.map dArr).length : Nat) : Int) + 1))) _ d' c' ∧ R d' c'
      rw [decide_eq_true ep]
      exact ⟨_, _, .refl, h x z (B.mono (by omega))⟩
theorem mono_planted {ds : List D} {cs : Cs} {R R' : QD} {Z Z' : XD} (h : ∀ d c, R d c → R' d c) : sp__law_planted A ds cs R Z → sp__law_planted A ds cs R' Z' :=
  fun ⟨x, y, z, n, e1, e2, h1, h2, r⟩ => ⟨x, y, z, n, e1, e2, h1, h2, fun x' z' ws as b s => h _ _ (r x' z' ws as b s)⟩
theorem mono_alone {ds : List D} {cs : Cs} {R R' : QD} {Z Z' : XD} (h : ∀ d c, R d c → R' d c) : sp__law_alone_right A ds cs R Z → sp__law_alone_right A ds cs R' Z' :=
  fun ⟨x, y, z, n, ws, as, e1, e2, h1, h2, h3, r⟩ => ⟨x, y, z, n, ws, as, e1, e2, h1, h2, h3, fun x' z' b => h _ _ (r x' z' b)⟩
theorem fr_planted {x y z n : Int} {R : QD} {Z : XD} (B : BoxOk x y z n) (hn : n < 50000) (h : ∀ x' z' ws as, BoxOk x' y z' (n + 400) → Planted ws as → R (.tup [.lst (ws.map dWT), .lst (as.map dArr)]) [boxC x' y z']) : framed (sp__law_planted A) [.ptr 0] [boxC x y z] R Z :=
  framed_all bd_box1 ⟨(by show 0 < 1; decide), trivial⟩ (fun Z' => ⟨x, y, z, n, rfl, rfl, B, hn, fun x' z' ws as b s => ⟨rfl, bd_box1, ⟨bd_wts ws, bd_arrs as, trivial⟩, h x' z' ws as b s⟩⟩) mono_planted
theorem fr_alone {x y z n : Int} {ws : List Win} {as : List Arr} {R : QD} {Z : XD} (B : BoxOk x y z n) (hn : n < 50000) (P : Planted ws as) (h : ∀ x' z', BoxOk x' y z' (n + 10) → R (.bl true) [boxC x' y z']) : framed (sp__law_alone_right A) [.ptr 0, .lst (ws.map dWT), .lst (as.map dArr)] [boxC x y z] R Z :=
  framed_all bd_box1 ⟨(by show 0 < 1; decide), bd_wts ws, bd_arrs as, trivial⟩ (fun Z' => ⟨x, y, z, n, ws, as, rfl, rfl, B, hn, P, fun x' z' b => ⟨rfl, bd_box1, trivial, h x' z' b⟩⟩) mono_alone
theorem pl_law : Pl ["_law_script", "_law_k", "_law_box_here", "_law_found", "_law_windows", "_law_arrivals"] (sp_law A) (rd_law A) := by
  rintro ds cs R Z hb hd ⟨ns, rfl, rfl, hl, h⟩
  have hlm : (((ns.map D.int).length : Nat) : Int) ≤ 63 := by rw [List.length_map]; omega
  have bnd : ∀ n : Int, n = (if (if (10 : Int) < (((ns.map D.int).length : Nat) : Int) then 10 else (((ns.map D.int).length : Nat) : Int)) > 3 then (if (10 : Int) < (((ns.map D.int).length : Nat) : Int) then 10 else (((ns.map D.int).length : Nat) : Int)) else 3) → -(2 ^ 62) ≤ n ∧ n < 2 ^ 62 := by
    intro n e
    subst e
    constructor <;> (split <;> (try split) <;> omega)
  refine ⟨(bnd _ rfl).1, (bnd _ rfl).2, fun k δ c => ∃ (o1 : Option D), δ = [some (.scr ns), o1, none, none, none, none] ∧ c = [], ⟨none, rfl, rfl⟩, fun _ _ _ _ => trivial, ?_, ?_⟩
  · rintro k d δ c hk ⟨o1, rfl, rfl⟩ _
    obtain ⟨hk1, rfl⟩ := rng_at hk
    refine ⟨ns, k, rfl, by omega, fun cell => ⟨cell, rfl, fun x y B => ?_⟩⟩
    refine fr_planted B (by decide) fun x z ws as B P => ?_
    have okw : ∀ w ∈ ws, w.ok := fun w hw => (P.okw w hw).1
    have plw := P.lw
    have pla := P.la
    have I : In ws as := ⟨by omega, by omega, fun a ha => (P.oka a ha).1⟩
    obtain ⟨v, p⟩ := P.plan
    refine ⟨rfl, rfl, ?_⟩
    refine fr_made rfl (by omega) okw ?_
    refine fr_explained rfl I (fun F N => (p.notMissing N).elim) (fun p' q r F M hr h0 h1 S => (noWhole M.mt hr S (stuck_rng M.mt h0 h1 S) p.ok p.noNone).elim) fun p' q ps M all h1 h2 => ⟨_, rfl, str_ne rfl ⟨_, rfl, ?_⟩⟩
    refine fr_expl I (goodP M.mt h1) (by rw [h1.length_eq]; exact full_len M.mt all) (musts_snd M h1) (brF ?_)
    refine fr_made rfl (by omega) okw ?_
    refine fr_most rfl I fun p2 q2 ps2 Rs X M2 k1 k2 k3 => ⟨_, rfl, ?_⟩
    have u1 := way_le M2 p.ok
    rw [p.cnt] at u1
    have u2 := (mt_lens M2.mt.symA fun y x h => nbW_rng h).1
    show brn (!decide ((((ps2.map pairI).length : Nat) : Int) = (((as.map dArr).length : Nat) : Int))) _ _
    rw [List.length_map, List.length_map, k1.length_eq, decide_eq_true (show ((p2.length : Nat) : Int) = (as.length : Nat) by omega)]
    refine brF ?_
    refine fr_alone B (by decide) P fun x z B => brF ?_
    exact ⟨[some (.scr ns), some (.int k), none, none, none, none], [], Gh.mk (Nat.le_refl 0) .nil (.cons (.same trivial) (.cons (.same trivial) (.forget (.forget (.forget (.forget .nil)))))), _, rfl, rfl⟩
  · rintro δ c ⟨o1, rfl, rfl⟩
    exact ⟨_, _, .refl, h⟩
end AU
/-! K: the derivations (printed by gen.py). -/
namespace AU
open PySem PySem.Spec PyProof.Rows L2 DL
def top (i : Nat) : Stmt := PySem.Challenge.pw_eventdeliveries_k59_explanations_known_b.main.body.getD i (.Pass ⟨0, 0, 0, 0⟩)
theorem _root_.L2.Room.u1 {k : Nat} {A : Around} (r : Room k A) : A.units + 1 < cLine := by have := r.un; omega
theorem _root_.L2.Room.u64 {k : Nat} {A : Around} (r : Room k A) : A.units + 64 < cLine := by have := r.un; omega
theorem de_gInt1 {X : Cx} {x : Str} {i : Int} {pos : Pos} (hg : Gl X x) (h : ∃ t, X.mg x = some (.int i t)) (hd : (x == ("__debug__" : Str)) = false := by decide) : DE X (.Name x pos) (dC (.int i)) := by
  obtain ⟨t, e⟩ := h
  exact de_gInt hg e hd
theorem boot_bool_ : bootBuiltins "bool" = some (.type "bool") := by decide +kernel
theorem boot_int_ : bootBuiltins "int" = some (.type "int") := by decide +kernel
theorem boot_isinstance_ : bootBuiltins "isinstance" = some (.builtin "isinstance") := by decide +kernel
theorem boot_len_ : bootBuiltins "len" = some (.builtin "len") := by decide +kernel
theorem boot_list_ : bootBuiltins "list" = some (.type "list") := by decide +kernel
theorem boot_max_ : bootBuiltins "max" = some (.builtin "max") := by decide +kernel
theorem boot_min_ : bootBuiltins "min" = some (.builtin "min") := by decide +kernel
theorem boot_sorted_ : bootBuiltins "sorted" = some (.builtin "sorted") := by decide +kernel
theorem boot_str_ : bootBuiltins "str" = some (.type "str") := by decide +kernel
theorem boot_tuple_ : bootBuiltins "tuple" = some (.type "tuple") := by decide +kernel
abbrev s_is_integer : Stmt := top 11
abbrev s_is_list : Stmt := top 12
abbrev s_is_arrival : Stmt := top 16
abbrev s_Window___init__ : Stmt := inClass (top 17) 0
abbrev s_Window___contains__ : Stmt := inClass (top 17) 3
abbrev s_Window_must : Stmt := inClass (top 17) 6
abbrev s_Window_admits : Stmt := inClass (top 17) 9
abbrev s_check_lists : Stmt := top 18
abbrev s_Pairing___init__ : Stmt := inClass (top 19) 0
abbrev s_Pairing_arrivals_of : Stmt := inClass (top 19) 1
abbrev s_Pairing_windows_for : Stmt := inClass (top 19) 2
abbrev s_Pairing_pair : Stmt := inClass (top 19) 3
abbrev s_Pairing_turn_windows : Stmt := inClass (top 19) 5
abbrev s_Pairing_place_window : Stmt := inClass (top 19) 4
abbrev s_Pairing_turn_arrivals : Stmt := inClass (top 19) 7
abbrev s_Pairing_place_arrival : Stmt := inClass (top 19) 6
abbrev s_Pairing_pairs : Stmt := inClass (top 19) 8
abbrev s_explained : Stmt := top 20
abbrev s_most_explained : Stmt := top 21
abbrev s__law_cell : Stmt := top 23
abbrev s__law_box : Stmt := top 24
abbrev s__law_take : Stmt := top 25
abbrev s__law_admits : Stmt := top 26
abbrev s__law_made : Stmt := top 27
abbrev s__law_are_pairs : Stmt := top 28
abbrev s__law_is_explanation : Stmt := top 29
abbrev s__law_are_indexes : Stmt := top 30
abbrev s__law_shows_missing : Stmt := top 31
abbrev s__law_shows_too_many : Stmt := top 32
abbrev s__law_mixed : Stmt := top 33
abbrev s__law_planted : Stmt := top 34
abbrev s__law_alone_right : Stmt := top 35
abbrev s_law : Stmt := top 36
structure Fs where
  f_is_integer : Addr
  fd_is_integer : FuncData
  f_is_list : Addr
  fd_is_list : FuncData
  f_is_arrival : Addr
  fd_is_arrival : FuncData
  f_Window___init__ : Addr
  fd_Window___init__ : FuncData
  f_Window___contains__ : Addr
  fd_Window___contains__ : FuncData
  f_Window_must : Addr
  fd_Window_must : FuncData
  f_Window_admits : Addr
  fd_Window_admits : FuncData
  f_check_lists : Addr
  fd_check_lists : FuncData
  f_Pairing___init__ : Addr
  fd_Pairing___init__ : FuncData
  f_Pairing_arrivals_of : Addr
  fd_Pairing_arrivals_of : FuncData
  f_Pairing_windows_for : Addr
  fd_Pairing_windows_for : FuncData
  f_Pairing_pair : Addr
  fd_Pairing_pair : FuncData
  f_Pairing_turn_windows : Addr
  fd_Pairing_turn_windows : FuncData
  f_Pairing_place_window : Addr
  fd_Pairing_place_window : FuncData
  f_Pairing_turn_arrivals : Addr
  fd_Pairing_turn_arrivals : FuncData
  f_Pairing_place_arrival : Addr
  fd_Pairing_place_arrival : FuncData
  f_Pairing_pairs : Addr
  fd_Pairing_pairs : FuncData
  f_explained : Addr
  fd_explained : FuncData
  f_most_explained : Addr
  fd_most_explained : FuncData
  f__law_cell : Addr
  fd__law_cell : FuncData
  f__law_box : Addr
  fd__law_box : FuncData
  f__law_take : Addr
  fd__law_take : FuncData
  f__law_admits : Addr
  fd__law_admits : FuncData
  f__law_made : Addr
  fd__law_made : FuncData
  f__law_are_pairs : Addr
  fd__law_are_pairs : FuncData
  f__law_is_explanation : Addr
  fd__law_is_explanation : FuncData
  f__law_are_indexes : Addr
  fd__law_are_indexes : FuncData
  f__law_shows_missing : Addr
  fd__law_shows_missing : FuncData
  f__law_shows_too_many : Addr
  fd__law_shows_too_many : FuncData
  f__law_mixed : Addr
  fd__law_mixed : FuncData
  f__law_planted : Addr
  fd__law_planted : FuncData
  f__law_alone_right : Addr
  fd__law_alone_right : FuncData
  f_law : Addr
  fd_law : FuncData
  p_Window_must : Addr
structure Txt (K : PySem.W.Frag) (mg : Str → Option Value) (A : Ad) (F : Fs) : Prop where
  m_bool : mg "bool" = none
  m_enumerate : mg "enumerate" = none
  m_int : mg "int" = none
  m_isinstance : mg "isinstance" = none
  m_len : mg "len" = none
  m_list : mg "list" = none
  m_max : mg "max" = none
  m_min : mg "min" = none
  m_range : mg "range" = none
  m_sorted : mg "sorted" = none
  m_str : mg "str" = none
  m_tuple : mg "tuple" = none
  m_zip : mg "zip" = none
  c_MOST_ITEMS : ∃ t, mg "MOST_ITEMS" = some (.int 60 t)
  c_MOST_TURN : ∃ t, mg "MOST_TURN" = some (.int 1000000 t)
  m_Pairing : mg "Pairing" = some (.ref A.Pairing)
  cl_Pairing : Cls K A.Pairing
  m_Window : mg "Window" = some (.ref A.Window)
  cl_Window : Cls K A.Window
  mk_Pairing : Mk K A.Pairing F.f_Pairing___init__
  mk_Window : Mk K A.Window F.f_Window___init__
  na_Pairing_arrival_of : NoAttr K A.Pairing "arrival_of"
  na_Pairing_arrivals : NoAttr K A.Pairing "arrivals"
  na_Pairing_window_of : NoAttr K A.Pairing "window_of"
  na_Pairing_windows : NoAttr K A.Pairing "windows"
  na_Window_own_first : NoAttr K A.Window "own_first"
  na_Window_own_label : NoAttr K A.Window "own_label"
  na_Window_own_last : NoAttr K A.Window "own_last"
  na_Window_own_must : NoAttr K A.Window "own_must"
  m__law_admits : mg "_law_admits" = some (.ref F.f__law_admits)
  k__law_admits : PySem.W.keepIn K (.ref F.f__law_admits) = true
  m__law_alone_right : mg "_law_alone_right" = some (.ref F.f__law_alone_right)
  k__law_alone_right : PySem.W.keepIn K (.ref F.f__law_alone_right) = true
  m__law_are_indexes : mg "_law_are_indexes" = some (.ref F.f__law_are_indexes)
  k__law_are_indexes : PySem.W.keepIn K (.ref F.f__law_are_indexes) = true
  m__law_are_pairs : mg "_law_are_pairs" = some (.ref F.f__law_are_pairs)
  k__law_are_pairs : PySem.W.keepIn K (.ref F.f__law_are_pairs) = true
  m__law_box : mg "_law_box" = some (.ref F.f__law_box)
  k__law_box : PySem.W.keepIn K (.ref F.f__law_box) = true
  m__law_cell : mg "_law_cell" = some (.ref F.f__law_cell)
  k__law_cell : PySem.W.keepIn K (.ref F.f__law_cell) = true
  m__law_is_explanation : mg "_law_is_explanation" = some (.ref F.f__law_is_explanation)
  k__law_is_explanation : PySem.W.keepIn K (.ref F.f__law_is_explanation) = true
  m__law_made : mg "_law_made" = some (.ref F.f__law_made)
  k__law_made : PySem.W.keepIn K (.ref F.f__law_made) = true
  m__law_mixed : mg "_law_mixed" = some (.ref F.f__law_mixed)
  k__law_mixed : PySem.W.keepIn K (.ref F.f__law_mixed) = true
  m__law_planted : mg "_law_planted" = some (.ref F.f__law_planted)
  k__law_planted : PySem.W.keepIn K (.ref F.f__law_planted) = true
  m__law_shows_missing : mg "_law_shows_missing" = some (.ref F.f__law_shows_missing)
  k__law_shows_missing : PySem.W.keepIn K (.ref F.f__law_shows_missing) = true
  m__law_shows_too_many : mg "_law_shows_too_many" = some (.ref F.f__law_shows_too_many)
  k__law_shows_too_many : PySem.W.keepIn K (.ref F.f__law_shows_too_many) = true
  m__law_take : mg "_law_take" = some (.ref F.f__law_take)
  k__law_take : PySem.W.keepIn K (.ref F.f__law_take) = true
  m_check_lists : mg "check_lists" = some (.ref F.f_check_lists)
  k_check_lists : PySem.W.keepIn K (.ref F.f_check_lists) = true
  m_explained : mg "explained" = some (.ref F.f_explained)
  k_explained : PySem.W.keepIn K (.ref F.f_explained) = true
  m_is_arrival : mg "is_arrival" = some (.ref F.f_is_arrival)
  k_is_arrival : PySem.W.keepIn K (.ref F.f_is_arrival) = true
  m_is_integer : mg "is_integer" = some (.ref F.f_is_integer)
  k_is_integer : PySem.W.keepIn K (.ref F.f_is_integer) = true
  m_is_list : mg "is_list" = some (.ref F.f_is_list)
  k_is_list : PySem.W.keepIn K (.ref F.f_is_list) = true
  m_most_explained : mg "most_explained" = some (.ref F.f_most_explained)
  k_most_explained : PySem.W.keepIn K (.ref F.f_most_explained) = true
  me_Pairing_arrivals_of : Meth K A.Pairing "arrivals_of" F.f_Pairing_arrivals_of
  me_Pairing_pair : Meth K A.Pairing "pair" F.f_Pairing_pair
  me_Pairing_pairs : Meth K A.Pairing "pairs" F.f_Pairing_pairs
  me_Pairing_place_arrival : Meth K A.Pairing "place_arrival" F.f_Pairing_place_arrival
  me_Pairing_place_window : Meth K A.Pairing "place_window" F.f_Pairing_place_window
  me_Pairing_turn_arrivals : Meth K A.Pairing "turn_arrivals" F.f_Pairing_turn_arrivals
  me_Pairing_turn_windows : Meth K A.Pairing "turn_windows" F.f_Pairing_turn_windows
  me_Pairing_windows_for : Meth K A.Pairing "windows_for" F.f_Pairing_windows_for
  me_Window_admits : Meth K A.Window "admits" F.f_Window_admits
  pr_Window_must : PropOf K A.Window "must" F.p_Window_must F.f_Window_must
  in_Window : PySem.W.findIn K (.ref A.Window) "__contains__" = some (some (.ref F.f_Window___contains__))
  it_Window : PySem.W.typeIn K (.ref F.f_Window___contains__) = some (.type "function")
  b_is_integer : Binds K F.fd_is_integer ["value", "low", "high"] []
  b_is_list : Binds K F.fd_is_list ["value"] []
  b_is_arrival : Binds K F.fd_is_arrival ["value"] []
  b_Window___contains__ : Binds K F.fd_Window___contains__ ["self", "turn"] []
  b_Window_must : Binds K F.fd_Window_must ["self"] []
  b_Window_admits : Binds K F.fd_Window_admits ["self", "arrival"] []
  b_check_lists : Binds K F.fd_check_lists ["windows", "arrivals"] []
  b_Pairing___init__ : Binds K F.fd_Pairing___init__ ["self", "windows", "arrivals"] []
  b_Pairing_arrivals_of : Binds K F.fd_Pairing_arrivals_of ["self", "index"] []
  b_Pairing_windows_for : Binds K F.fd_Pairing_windows_for ["self", "index"] []
  b_Pairing_pair : Binds K F.fd_Pairing_pair ["self", "arrival", "window"] []
  b_Pairing_turn_windows : Binds K F.fd_Pairing_turn_windows ["self", "arrival", "came"] []
  b_Pairing_place_window : Binds K F.fd_Pairing_place_window ["self", "index"] []
  b_Pairing_turn_arrivals : Binds K F.fd_Pairing_turn_arrivals ["self", "window", "came"] []
  b_Pairing_place_arrival : Binds K F.fd_Pairing_place_arrival ["self", "index"] []
  b_Pairing_pairs : Binds K F.fd_Pairing_pairs ["self"] []
  b_explained : Binds K F.fd_explained ["windows", "arrivals"] []
  b_most_explained : Binds K F.fd_most_explained ["windows", "arrivals"] []
  b__law_cell : Binds K F.fd__law_cell ["_law_script", "_law_k"] []
  b__law_box : Binds K F.fd__law_box ["_law_cell_here"] []
  b__law_take : Binds K F.fd__law_take ["_law_box_here", "_law_many"] []
  b__law_admits : Binds K F.fd__law_admits ["_law_window", "_law_arrival"] []
  b__law_made : Binds K F.fd__law_made ["_law_windows"] []
  b__law_are_pairs : Binds K F.fd__law_are_pairs ["_law_windows", "_law_arrivals", "_law_pairs"] []
  b__law_is_explanation : Binds K F.fd__law_is_explanation ["_law_windows", "_law_arrivals", "_law_pairs"] []
  b__law_are_indexes : Binds K F.fd__law_are_indexes ["_law_value", "_law_size"] []
  b__law_shows_missing : Binds K F.fd__law_shows_missing ["_law_windows", "_law_arrivals", "_law_indexes"] []
  b__law_shows_too_many : Binds K F.fd__law_shows_too_many ["_law_windows", "_law_arrivals", "_law_indexes"] []
  b__law_mixed : Binds K F.fd__law_mixed ["_law_box_here", "_law_some"] []
  b__law_planted : Binds K F.fd__law_planted ["_law_box_here"] []
  b__law_alone_right : Binds K F.fd__law_alone_right ["_law_box_here", "_law_windows", "_law_arrivals"] []
  kb_Window : KBn K F.fd_Window___init__ ["self", "first", "last", "must", "label"] 3 ["must", "label"] gW gWV
  tab : TabOk K (tabX A)
section
variable {P : Program} {w : World} {K : PySem.W.Frag} {mg : Str → Option Value} {base : Heap} {A : Ad} {F : Fs}
theorem sc_is_integer : FnScope ["value", "low", "high"] ["value", "low", "high"] (defScope s_is_integer) := ⟨rfl, rfl, rfl, by decide +kernel, rfl, by decide +kernel, by decide +kernel⟩
theorem dv_is_integer (T : Txt K mg A F)  {f : Addr} {cdv : Value} {B : Around} {outer : List Env} {s : Shared} {H : Hp} {E : XK} (hr : Room 0 (B.deeper (envOfC "is_integer" (defScope s_is_integer) s.heap.objs.size f cdv))) :
    DSs (cxOf CX0 P w K mg base ["value", "low", "high"] "is_integer" (defScope s_is_integer) f cdv B outer s H E).nox (defBody s_is_integer) (rd_is_integer A) :=
 (dss_one (ds_ret (de_and (de_callB call_isi (ok_isi T.tab) rfl T.m_isinstance boot_isinstance_ (da_cons (dv 0) (da_cons (de_ty rfl T.m_int boot_int_) da_nil))) (de_and (de_not (de_callB call_isi (ok_isi T.tab) rfl T.m_isinstance boot_isinstance_ (da_cons (dv 0) (da_cons (de_ty rfl T.m_bool boot_bool_) da_nil)))) (de_one (de_chain op_leU ok_ord op_leU ok_ord (dv 1) (dv 0) (dv 2)))))))
theorem sc_is_list : FnScope ["value"] ["value"] (defScope s_is_list) := ⟨rfl, rfl, rfl, by decide +kernel, rfl, by decide +kernel, by decide +kernel⟩
theorem dv_is_list (T : Txt K mg A F)  {f : Addr} {cdv : Value} {B : Around} {outer : List Env} {s : Shared} {H : Hp} {E : XK} (hr : Room 0 (B.deeper (envOfC "is_list" (defScope s_is_list) s.heap.objs.size f cdv))) :
    DSs (cxOf CX0 P w K mg base ["value"] "is_list" (defScope s_is_list) f cdv B outer s H E).nox (defBody s_is_list) (rd_is_list A) :=
 (dss_one (ds_ret (de_callB call_isiT (ok_isiT T.tab) rfl T.m_isinstance boot_isinstance_ (da_cons (dv 0) (da_cons (de_tup (da_cons (de_ty rfl T.m_list boot_list_) (da_cons (de_ty rfl T.m_tuple boot_tuple_) da_nil))) da_nil)))))
theorem sc_is_arrival : FnScope ["value"] ["value"] (defScope s_is_arrival) := ⟨rfl, rfl, rfl, by decide +kernel, rfl, by decide +kernel, by decide +kernel⟩
theorem dv_is_arrival (T : Txt K mg A F)  {f : Addr} {cdv : Value} {B : Around} {outer : List Env} {s : Shared} {H : Hp} {E : XK} (hr : Room 0 (B.deeper (envOfC "is_arrival" (defScope s_is_arrival) s.heap.objs.size f cdv))) :
    DSs (cxOf CX0 P w K mg base ["value"] "is_arrival" (defScope s_is_arrival) f cdv B outer s H E).nox (defBody s_is_arrival) (rd_is_arrival A) :=
 (dss_cons (ds_if (dt_w (dw_or (dt_not (dt_val (de_callB call_isi (ok_isi T.tab) rfl T.m_isinstance boot_isinstance_ (da_cons (dv 0) (da_cons (de_ty rfl T.m_tuple boot_tuple_) da_nil))))) (dw_or (dt_cmp (op_neU hr.u64) ok_neU (de_callB cr_len ok_len rfl T.m_len boot_len_ (da_cons (dv 0) da_nil)) de_int) (dw_or1 (dt_not (dt_val (de_callB call_isi (ok_isi T.tab) rfl T.m_isinstance boot_isinstance_ (da_cons (de_ix hr.u1 (dv 0) de_int) (da_cons (de_ty rfl T.m_str boot_str_) da_nil)))))))))
 (dss_one (ds_ret de_bl))
 dss_nil)
 (dss_one (ds_ret (de_and (de_callB call_isi (ok_isi T.tab) rfl T.m_isinstance boot_isinstance_ (da_cons (de_ix hr.u1 (dv 0) de_int) (da_cons (de_ty rfl T.m_int boot_int_) da_nil))) (de_and (de_not (de_callB call_isi (ok_isi T.tab) rfl T.m_isinstance boot_isinstance_ (da_cons (de_ix hr.u1 (dv 0) de_int) (da_cons (de_ty rfl T.m_bool boot_bool_) da_nil)))) (de_one (de_cmp op_geU ok_ord (de_ix hr.u1 (dv 0) de_int) de_int)))))))
theorem sc_Window___init__ : FnScope ["self", "first", "last", "must", "label"] ["self", "first", "last", "must", "label"] (defScope s_Window___init__) := ⟨rfl, rfl, rfl, by decide +kernel, rfl, by decide +kernel, by decide +kernel⟩
theorem dv_Window___init__ (T : Txt K mg A F) (O_is_integer : FnOk P w K mg base CX0 1 F.f_is_integer F.fd_is_integer ["value", "low", "high"] (spOf K (sp_is_integer A))) {f : Addr} {cdv : Value} {B : Around} {outer : List Env} {s : Shared} {H : Hp} {E : XK} (hr : Room 1 (B.deeper (envOfC "Window.__init__" (defScope s_Window___init__) s.heap.objs.size f cdv))) :
    DSs (cxOf CX0 P w K mg base ["self", "first", "last", "must", "label"] "Window.__init__" (defScope s_Window___init__) f cdv B outer s H E).nox (defBody s_Window___init__) (rd_Window___init__ A) :=
 (dss_cons (ds_if (dt_not (dt_val (de_call O_is_integer (hr.mono (by decide)) rfl T.m_is_integer T.k_is_integer T.b_is_integer .nil Dfl.nil (da_cons (dv 1) (da_cons de_int (da_cons (de_gInt1 rfl T.c_MOST_TURN) da_nil))))))
 (dss_one ds_never)
 dss_nil)
 (dss_cons (ds_if (dt_not (dt_val (de_call O_is_integer (hr.mono (by decide)) rfl T.m_is_integer T.k_is_integer T.b_is_integer .nil Dfl.nil (da_cons (dv 2) (da_cons (dv 1) (da_cons (de_gInt1 rfl T.c_MOST_TURN) da_nil))))))
 (dss_one ds_never)
 dss_nil)
 (dss_cons (ds_if (dt_not (dt_val (de_callB call_isi (ok_isi T.tab) rfl T.m_isinstance boot_isinstance_ (da_cons (dv 3) (da_cons (de_ty rfl T.m_bool boot_bool_) da_nil)))))
 (dss_one ds_never)
 dss_nil)
 (dss_cons (ds_if (dt_not (dt_val (de_callB call_isi (ok_isi T.tab) rfl T.m_isinstance boot_isinstance_ (da_cons (dv 4) (da_cons (de_ty rfl T.m_str boot_str_) da_nil)))))
 (dss_one ds_never)
 dss_nil)
 (dss_cons (ds_setF T.cl_Window T.na_Window_own_first nd_Window rfl (by decide) (dv 0) (dv 1))
 (dss_cons (ds_setF T.cl_Window T.na_Window_own_last nd_Window rfl (by decide) (dv 0) (dv 2))
 (dss_cons (ds_setF T.cl_Window T.na_Window_own_must nd_Window rfl (by decide) (dv 0) (dv 3))
 (dss_one (ds_setF T.cl_Window T.na_Window_own_label nd_Window rfl (by decide) (dv 0) (dv 4))))))))))
theorem sc_Window___contains__ : FnScope ["self", "turn"] ["self", "turn"] (defScope s_Window___contains__) := ⟨rfl, rfl, rfl, by decide +kernel, rfl, by decide +kernel, by decide +kernel⟩
theorem dv_Window___contains__ (T : Txt K mg A F) (O_is_integer : FnOk P w K mg base CX0 1 F.f_is_integer F.fd_is_integer ["value", "low", "high"] (spOf K (sp_is_integer A))) {f : Addr} {cdv : Value} {B : Around} {outer : List Env} {s : Shared} {H : Hp} {E : XK} (hr : Room 1 (B.deeper (envOfC "Window.__contains__" (defScope s_Window___contains__) s.heap.objs.size f cdv))) :
    DSs (cxOf CX0 P w K mg base ["self", "turn"] "Window.__contains__" (defScope s_Window___contains__) f cdv B outer s H E).nox (defBody s_Window___contains__) (rd_Window___contains__ A) :=
 (dss_one (ds_ret (de_call O_is_integer (hr.mono (by decide)) rfl T.m_is_integer T.k_is_integer T.b_is_integer .nil Dfl.nil (da_cons (dv 1) (da_cons (de_fld T.cl_Window T.na_Window_own_first nd_Window rfl (dv 0)) (da_cons (de_fld T.cl_Window T.na_Window_own_last nd_Window rfl (dv 0)) da_nil))))))
theorem sc_Window_must : FnScope ["self"] ["self"] (defScope s_Window_must) := ⟨rfl, rfl, rfl, by decide +kernel, rfl, by decide +kernel, by decide +kernel⟩
theorem dv_Window_must (T : Txt K mg A F)  {f : Addr} {cdv : Value} {B : Around} {outer : List Env} {s : Shared} {H : Hp} {E : XK} (hr : Room 0 (B.deeper (envOfC "Window.must" (defScope s_Window_must) s.heap.objs.size f cdv))) :
    DSs (cxOf CX0 P w K mg base ["self"] "Window.must" (defScope s_Window_must) f cdv B outer s H E).nox (defBody s_Window_must) (rd_Window_must A) :=
 (dss_one (ds_ret (de_fld T.cl_Window T.na_Window_own_must nd_Window rfl (dv 0))))
theorem sc_Window_admits : FnScope ["self", "arrival"] ["self", "arrival"] (defScope s_Window_admits) := ⟨rfl, rfl, rfl, by decide +kernel, rfl, by decide +kernel, by decide +kernel⟩
theorem dv_Window_admits (T : Txt K mg A F) (O_is_arrival : FnOk P w K mg base CX0 1 F.f_is_arrival F.fd_is_arrival ["value"] (spOf K (sp_is_arrival A))) (O_Window___contains__ : FnOk P w K mg base CX0 2 F.f_Window___contains__ F.fd_Window___contains__ ["self", "turn"] (spOf K (sp_Window___contains__ A))) {f : Addr} {cdv : Value} {B : Around} {outer : List Env} {s : Shared} {H : Hp} {E : XK} (hr : Room 2 (B.deeper (envOfC "Window.admits" (defScope s_Window_admits) s.heap.objs.size f cdv))) :
    DSs (cxOf CX0 P w K mg base ["self", "arrival"] "Window.admits" (defScope s_Window_admits) f cdv B outer s H E).nox (defBody s_Window_admits) (rd_Window_admits A) :=
 (dss_cons (ds_if (dt_not (dt_val (de_call O_is_arrival (hr.mono (by decide)) rfl T.m_is_arrival T.k_is_arrival T.b_is_arrival .nil Dfl.nil (da_cons (dv 1) da_nil))))
 (dss_one ds_never)
 dss_nil)
 (dss_one (ds_ret (de_and (de_cmp (op_eqU hr.u64) ok_eqU (de_ix hr.u1 (dv 1) de_int) (de_fld T.cl_Window T.na_Window_own_label nd_Window rfl (dv 0))) (de_one (de_cmp (op_inOwn O_Window___contains__ (hr.mono (by decide)) T.in_Window T.it_Window T.b_Window___contains__) ok_inOwn (de_ix hr.u1 (dv 1) de_int) (dv 0) (by with_unfolding_all rfl)))))))
theorem sc_check_lists : FnScope ["windows", "arrivals", "window", "arrival"] ["windows", "arrivals"] (defScope s_check_lists) := ⟨rfl, rfl, rfl, by decide +kernel, rfl, by decide +kernel, by decide +kernel⟩
theorem dv_check_lists (T : Txt K mg A F) (O_is_list : FnOk P w K mg base CX0 1 F.f_is_list F.fd_is_list ["value"] (spOf K (sp_is_list A))) (O_is_arrival : FnOk P w K mg base CX0 1 F.f_is_arrival F.fd_is_arrival ["value"] (spOf K (sp_is_arrival A))) {f : Addr} {cdv : Value} {B : Around} {outer : List Env} {s : Shared} {H : Hp} {E : XK} (hr : Room 1 (B.deeper (envOfC "check_lists" (defScope s_check_lists) s.heap.objs.size f cdv))) :
    DSs (cxOf CX0 P w K mg base ["windows", "arrivals", "window", "arrival"] "check_lists" (defScope s_check_lists) f cdv B outer s H E).nox (defBody s_check_lists) (rd_check_lists A) :=
 (dss_cons (ds_if (dt_w (dw_or (dt_not (dt_val (de_call O_is_list (hr.mono (by decide)) rfl T.m_is_list T.k_is_list T.b_is_list .nil Dfl.nil (da_cons (dv 0) da_nil)))) (dw_or1 (dt_cmp op_gtU ok_ord (de_callB cr_len ok_len rfl T.m_len boot_len_ (da_cons (dv 0) da_nil)) (de_gInt1 rfl T.c_MOST_ITEMS)))))
 (dss_one ds_never)
 dss_nil)
 (dss_cons (ds_for PassesOwn.never rfl (di_list (dv 0)) (dg_name sc_check_lists.nd rfl (Or.inl rfl))
 (dss_one (ds_if (dt_not (dt_val (de_callB call_isi (ok_isi T.tab) rfl T.m_isinstance boot_isinstance_ (da_cons (dv 2) (da_cons (de_gAdr rfl T.m_Window) da_nil)))))
 (dss_one ds_never)
 dss_nil)))
 (dss_cons (ds_if (dt_w (dw_or (dt_not (dt_val (de_call O_is_list (hr.mono (by decide)) rfl T.m_is_list T.k_is_list T.b_is_list .nil Dfl.nil (da_cons (dv 1) da_nil)))) (dw_or1 (dt_cmp op_gtU ok_ord (de_callB cr_len ok_len rfl T.m_len boot_len_ (da_cons (dv 1) da_nil)) (de_gInt1 rfl T.c_MOST_ITEMS)))))
 (dss_one ds_never)
 dss_nil)
 (dss_one (ds_for PassesOwn.never rfl (di_list (dv 1)) (dg_name sc_check_lists.nd rfl (Or.inl rfl))
 (dss_one (ds_if (dt_not (dt_val (de_call O_is_arrival (hr.mono (by decide)) rfl T.m_is_arrival T.k_is_arrival T.b_is_arrival .nil Dfl.nil (da_cons (dv 3) da_nil))))
 (dss_one ds_never)
 dss_nil)))))))
theorem sc_Pairing___init__ : FnScope ["self", "windows", "arrivals"] ["self", "windows", "arrivals"] (defScope s_Pairing___init__) := ⟨rfl, rfl, rfl, by decide +kernel, rfl, by decide +kernel, by decide +kernel⟩
theorem dv_Pairing___init__ (T : Txt K mg A F) (O_check_lists : FnOk P w K mg base CX0 2 F.f_check_lists F.fd_check_lists ["windows", "arrivals"] (spOf K (sp_check_lists A))) {f : Addr} {cdv : Value} {B : Around} {outer : List Env} {s : Shared} {H : Hp} {E : XK} (hr : Room 2 (B.deeper (envOfC "Pairing.__init__" (defScope s_Pairing___init__) s.heap.objs.size f cdv))) :
    DSs (cxOf CX0 P w K mg base ["self", "windows", "arrivals"] "Pairing.__init__" (defScope s_Pairing___init__) f cdv B outer s H E).nox (defBody s_Pairing___init__) (rd_Pairing___init__ A) :=
 (dss_cons (ds_expr (de_call O_check_lists (hr.mono (by decide)) rfl T.m_check_lists T.k_check_lists T.b_check_lists .nil Dfl.nil (da_cons (dv 1) (da_cons (dv 2) da_nil))))
 (dss_cons (ds_setF T.cl_Pairing T.na_Pairing_windows nd_Pairing rfl (by decide) (dv 0) (de_callTy cr_list ok_list rfl T.m_list boot_list_ (da_cons (dv 1) da_nil)))
 (dss_cons (ds_setF T.cl_Pairing T.na_Pairing_arrivals nd_Pairing rfl (by decide) (dv 0) (de_callTy cr_list ok_list rfl T.m_list boot_list_ (da_cons (dv 2) da_nil)))
 (dss_cons (ds_setF T.cl_Pairing T.na_Pairing_window_of nd_Pairing rfl (by decide) (dv 0) de_newK)
 (dss_one (ds_setF T.cl_Pairing T.na_Pairing_arrival_of nd_Pairing rfl (by decide) (dv 0) de_newK))))))
theorem sc_Pairing_arrivals_of : FnScope ["self", "index", "place", "arrival"] ["self", "index"] (defScope s_Pairing_arrivals_of) := ⟨rfl, rfl, rfl, by decide +kernel, rfl, by decide +kernel, by decide +kernel⟩
theorem dv_Pairing_arrivals_of (T : Txt K mg A F) (O_Window_admits : FnOk P w K mg base CX0 3 F.f_Window_admits F.fd_Window_admits ["self", "arrival"] (spOf K (sp_Window_admits A))) {f : Addr} {cdv : Value} {B : Around} {outer : List Env} {s : Shared} {H : Hp} {E : XK} (hr : Room 3 (B.deeper (envOfC "Pairing.arrivals_of" (defScope s_Pairing_arrivals_of) s.heap.objs.size f cdv))) :
    DSs (cxOf CX0 P w K mg base ["self", "index", "place", "arrival"] "Pairing.arrivals_of" (defScope s_Pairing_arrivals_of) f cdv B outer s H E).nox (defBody s_Pairing_arrivals_of) (rd_Pairing_arrivals_of A) :=
 (dss_one (ds_ret (de_lc rfl sc_Pairing_arrivals_of.nd (di_enum rfl T.m_enumerate (de_fld T.cl_Pairing T.na_Pairing_arrivals nd_Pairing rfl (dv 0))) (own := [("place", 2), ("arrival", 3)]) (blkOk_by (by rfl)) (fun _ _ _ _ _ => (dgw_tup rfl (dgws_cons (dgw_name sc_Pairing_arrivals_of.nd rfl (Or.inl rfl) (by decide)) (dgws_cons (dgw_name sc_Pairing_arrivals_of.nd rfl (Or.inl rfl) (by decide)) dgws_nil)))) (fun _ _ _ _ _ => (dts_one (dt_val (de_meth (de_ix hr.u1 (de_fld T.cl_Pairing T.na_Pairing_windows nd_Pairing rfl (dv 0)) (dv 1)) T.cl_Window T.me_Window_admits O_Window_admits (hr.mono (by decide)) T.b_Window_admits .nil Dfl.nil (da_cons (dv 3) da_nil))))) (fun _ _ _ _ _ => (dv 2)))))
theorem sc_Pairing_windows_for : FnScope ["self", "index", "place", "window"] ["self", "index"] (defScope s_Pairing_windows_for) := ⟨rfl, rfl, rfl, by decide +kernel, rfl, by decide +kernel, by decide +kernel⟩
theorem dv_Pairing_windows_for (T : Txt K mg A F) (O_Window_admits : FnOk P w K mg base CX0 3 F.f_Window_admits F.fd_Window_admits ["self", "arrival"] (spOf K (sp_Window_admits A))) {f : Addr} {cdv : Value} {B : Around} {outer : List Env} {s : Shared} {H : Hp} {E : XK} (hr : Room 3 (B.deeper (envOfC "Pairing.windows_for" (defScope s_Pairing_windows_for) s.heap.objs.size f cdv))) :
    DSs (cxOf CX0 P w K mg base ["self", "index", "place", "window"] "Pairing.windows_for" (defScope s_Pairing_windows_for) f cdv B outer s H E).nox (defBody s_Pairing_windows_for) (rd_Pairing_windows_for A) :=
 (dss_one (ds_ret (de_lc rfl sc_Pairing_windows_for.nd (di_enum rfl T.m_enumerate (de_fld T.cl_Pairing T.na_Pairing_windows nd_Pairing rfl (dv 0))) (own := [("place", 2), ("window", 3)]) (blkOk_by (by rfl)) (fun _ _ _ _ _ => (dgw_tup rfl (dgws_cons (dgw_name sc_Pairing_windows_for.nd rfl (Or.inl rfl) (by decide)) (dgws_cons (dgw_name sc_Pairing_windows_for.nd rfl (Or.inl rfl) (by decide)) dgws_nil)))) (fun _ _ _ _ _ => (dts_one (dt_val (de_meth (dv 3) T.cl_Window T.me_Window_admits O_Window_admits (hr.mono (by decide)) T.b_Window_admits .nil Dfl.nil (da_cons (de_ix hr.u1 (de_fld T.cl_Pairing T.na_Pairing_arrivals nd_Pairing rfl (dv 0)) (dv 1)) da_nil))))) (fun _ _ _ _ _ => (dv 2)))))
theorem sc_Pairing_pair : FnScope ["self", "arrival", "window"] ["self", "arrival", "window"] (defScope s_Pairing_pair) := ⟨rfl, rfl, rfl, by decide +kernel, rfl, by decide +kernel, by decide +kernel⟩
theorem dv_Pairing_pair (T : Txt K mg A F)  {f : Addr} {cdv : Value} {B : Around} {outer : List Env} {s : Shared} {H : Hp} {E : XK} (hr : Room 0 (B.deeper (envOfC "Pairing.pair" (defScope s_Pairing_pair) s.heap.objs.size f cdv))) :
    DSs (cxOf CX0 P w K mg base ["self", "arrival", "window"] "Pairing.pair" (defScope s_Pairing_pair) f cdv B outer s H E).nox (defBody s_Pairing_pair) (rd_Pairing_pair A) :=
 (dss_cons (ds_asg (dv 2) (dg_sub hr.u1 (de_fld T.cl_Pairing T.na_Pairing_window_of nd_Pairing rfl (dv 0)) (dv 1)))
 (dss_one (ds_asg (dv 1) (dg_sub hr.u1 (de_fld T.cl_Pairing T.na_Pairing_arrival_of nd_Pairing rfl (dv 0)) (dv 2)))))
theorem sc_Pairing_turn_windows : FnScope ["self", "arrival", "came", "window", "ahead"] ["self", "arrival", "came"] (defScope s_Pairing_turn_windows) := ⟨rfl, rfl, rfl, by decide +kernel, rfl, by decide +kernel, by decide +kernel⟩
theorem dv_Pairing_turn_windows (T : Txt K mg A F) (O_Pairing_pair : FnOk P w K mg base CX0 1 F.f_Pairing_pair F.fd_Pairing_pair ["self", "arrival", "window"] (spOf K (sp_Pairing_pair A))) {f : Addr} {cdv : Value} {B : Around} {outer : List Env} {s : Shared} {H : Hp} {E : XK} (hr : Room 1 (B.deeper (envOfC "Pairing.turn_windows" (defScope s_Pairing_turn_windows) s.heap.objs.size f cdv))) :
    DSs (cxOf CX0 P w K mg base ["self", "arrival", "came", "window", "ahead"] "Pairing.turn_windows" (defScope s_Pairing_turn_windows) f cdv B outer s H E).nox (defBody s_Pairing_turn_windows) (rd_Pairing_turn_windows A) :=
 (dss_one (ds_while PassesOwn.never (dt_cmp op_notN ok_notN (dv 1) de_non)
 (dss_cons (ds_set (i := 3) sc_Pairing_turn_windows.nd rfl (Or.inl rfl) (de_ix hr.u1 (dv 2) (dv 1)))
 (dss_cons (ds_set (i := 4) sc_Pairing_turn_windows.nd rfl (Or.inl rfl) (de_dget1 hr.u1 (de_fld T.cl_Pairing T.na_Pairing_arrival_of nd_Pairing rfl (dv 0)) (dv 3)))
 (dss_cons (ds_expr (de_meth (dv 0) T.cl_Pairing T.me_Pairing_pair (fn_framed O_Pairing_pair) (hr.mono (by decide)) T.b_Pairing_pair .nil Dfl.nil (da_cons (dv 1) (da_cons (dv 3) da_nil))))
 (dss_one (ds_set (i := 1) sc_Pairing_turn_windows.nd rfl (Or.inl rfl) (dv 4))))))))
theorem sc_Pairing_place_window : FnScope ["self", "index", "reached", "came", "place", "window", "arrival"] ["self", "index"] (defScope s_Pairing_place_window) := ⟨rfl, rfl, rfl, by decide +kernel, rfl, by decide +kernel, by decide +kernel⟩
theorem dv_Pairing_place_window (T : Txt K mg A F) (O_Pairing_arrivals_of : FnOk P w K mg base CX0 4 F.f_Pairing_arrivals_of F.fd_Pairing_arrivals_of ["self", "index"] (spOf K (sp_Pairing_arrivals_of A))) (O_Pairing_turn_windows : FnOk P w K mg base CX0 2 F.f_Pairing_turn_windows F.fd_Pairing_turn_windows ["self", "arrival", "came"] (spOf K (sp_Pairing_turn_windows A))) {f : Addr} {cdv : Value} {B : Around} {outer : List Env} {s : Shared} {H : Hp} {E : XK} (hr : Room 4 (B.deeper (envOfC "Pairing.place_window" (defScope s_Pairing_place_window) s.heap.objs.size f cdv))) :
    DSs (cxOf CX0 P w K mg base ["self", "index", "reached", "came", "place", "window", "arrival"] "Pairing.place_window" (defScope s_Pairing_place_window) f cdv B outer s H E).nox (defBody s_Pairing_place_window) (rd_Pairing_place_window A) :=
 (dss_cons (ds_par3 (i := 2) (j := 3) (l := 4) rfl sc_Pairing_place_window.nd rfl rfl rfl (by decide) (by decide) (by decide) rfl rfl rfl (da_cons (de_lstP (da_cons (dv 1) da_nil)) (da_cons de_newK (da_cons de_int da_nil))))
 (dss_cons (ds_while PassesOwn.never (dt_cmp op_ltU ok_ord (dv 4) (de_callB cr_len ok_len rfl T.m_len boot_len_ (da_cons (dv 2) da_nil)))
 (dss_cons (ds_set (i := 5) sc_Pairing_place_window.nd rfl (Or.inl rfl) (de_ix hr.u1 (dv 2) (dv 4)))
 (dss_cons (ds_for PassesOwn.never rfl (di_list (de_meth (dv 0) T.cl_Pairing T.me_Pairing_arrivals_of (fn_framed O_Pairing_arrivals_of) (hr.mono (by decide)) T.b_Pairing_arrivals_of .nil Dfl.nil (da_cons (dv 5) da_nil))) (dg_name sc_Pairing_place_window.nd rfl (Or.inl rfl))
 (dss_one (ds_if (dt_cmp (op_notInU hr.u1) ok_notIn (dv 6) (dv 3) (by with_unfolding_all rfl))
 (dss_cons (ds_asg (dv 5) (dg_sub hr.u1 (dv 3) (dv 6)))
 (dss_cons (ds_if (dt_cmp (op_notInU hr.u1) ok_notIn (dv 6) (de_fld T.cl_Pairing T.na_Pairing_window_of nd_Pairing rfl (dv 0)) (by with_unfolding_all rfl))
 (dss_cons (ds_expr (de_meth (dv 0) T.cl_Pairing T.me_Pairing_turn_windows (fn_framed O_Pairing_turn_windows) (hr.mono (by decide)) T.b_Pairing_turn_windows .nil Dfl.nil (da_cons (dv 6) (da_cons (dv 3) da_nil))))
 (dss_one (ds_ret de_non)))
 dss_nil)
 (dss_one (ds_expr (de_append (dv 2) (da_cons (de_ix hr.u1 (de_fld T.cl_Pairing T.na_Pairing_window_of nd_Pairing rfl (dv 0)) (dv 6)) da_nil))))))
 dss_nil)))
 (dss_one (ds_iadd (i := 4) sc_Pairing_place_window.nd rfl (Or.inl rfl) de_int)))))
 (dss_one (ds_ret (de_callB cr_sortedI (ok_sortI (P := false)) rfl T.m_sorted boot_sorted_ (da_cons (dv 2) da_nil))))))
theorem sc_Pairing_turn_arrivals : FnScope ["self", "window", "came", "arrival", "ahead"] ["self", "window", "came"] (defScope s_Pairing_turn_arrivals) := ⟨rfl, rfl, rfl, by decide +kernel, rfl, by decide +kernel, by decide +kernel⟩
theorem dv_Pairing_turn_arrivals (T : Txt K mg A F) (O_Pairing_pair : FnOk P w K mg base CX0 1 F.f_Pairing_pair F.fd_Pairing_pair ["self", "arrival", "window"] (spOf K (sp_Pairing_pair A))) {f : Addr} {cdv : Value} {B : Around} {outer : List Env} {s : Shared} {H : Hp} {E : XK} (hr : Room 1 (B.deeper (envOfC "Pairing.turn_arrivals" (defScope s_Pairing_turn_arrivals) s.heap.objs.size f cdv))) :
    DSs (cxOf CX0 P w K mg base ["self", "window", "came", "arrival", "ahead"] "Pairing.turn_arrivals" (defScope s_Pairing_turn_arrivals) f cdv B outer s H E).nox (defBody s_Pairing_turn_arrivals) (rd_Pairing_turn_arrivals A) :=
 (dss_one (ds_while PassesOwn.never (dt_cmp op_notN ok_notN (dv 1) de_non)
 (dss_cons (ds_set (i := 3) sc_Pairing_turn_arrivals.nd rfl (Or.inl rfl) (de_ix hr.u1 (dv 2) (dv 1)))
 (dss_cons (ds_set (i := 4) sc_Pairing_turn_arrivals.nd rfl (Or.inl rfl) (de_dget1 hr.u1 (de_fld T.cl_Pairing T.na_Pairing_window_of nd_Pairing rfl (dv 0)) (dv 3)))
 (dss_cons (ds_expr (de_meth (dv 0) T.cl_Pairing T.me_Pairing_pair (fn_framed O_Pairing_pair) (hr.mono (by decide)) T.b_Pairing_pair .nil Dfl.nil (da_cons (dv 3) (da_cons (dv 1) da_nil))))
 (dss_one (ds_set (i := 1) sc_Pairing_turn_arrivals.nd rfl (Or.inl rfl) (dv 4))))))))
theorem sc_Pairing_place_arrival : FnScope ["self", "index", "reached", "came", "place", "arrival", "window"] ["self", "index"] (defScope s_Pairing_place_arrival) := ⟨rfl, rfl, rfl, by decide +kernel, rfl, by decide +kernel, by decide +kernel⟩
theorem dv_Pairing_place_arrival (T : Txt K mg A F) (O_Pairing_windows_for : FnOk P w K mg base CX0 4 F.f_Pairing_windows_for F.fd_Pairing_windows_for ["self", "index"] (spOf K (sp_Pairing_windows_for A))) (O_Pairing_turn_arrivals : FnOk P w K mg base CX0 2 F.f_Pairing_turn_arrivals F.fd_Pairing_turn_arrivals ["self", "window", "came"] (spOf K (sp_Pairing_turn_arrivals A))) {f : Addr} {cdv : Value} {B : Around} {outer : List Env} {s : Shared} {H : Hp} {E : XK} (hr : Room 4 (B.deeper (envOfC "Pairing.place_arrival" (defScope s_Pairing_place_arrival) s.heap.objs.size f cdv))) :
    DSs (cxOf CX0 P w K mg base ["self", "index", "reached", "came", "place", "arrival", "window"] "Pairing.place_arrival" (defScope s_Pairing_place_arrival) f cdv B outer s H E).nox (defBody s_Pairing_place_arrival) (rd_Pairing_place_arrival A) :=
 (dss_cons (ds_par3 (i := 2) (j := 3) (l := 4) rfl sc_Pairing_place_arrival.nd rfl rfl rfl (by decide) (by decide) (by decide) rfl rfl rfl (da_cons (de_lstP (da_cons (dv 1) da_nil)) (da_cons de_newK (da_cons de_int da_nil))))
 (dss_cons (ds_while PassesOwn.never (dt_cmp op_ltU ok_ord (dv 4) (de_callB cr_len ok_len rfl T.m_len boot_len_ (da_cons (dv 2) da_nil)))
 (dss_cons (ds_set (i := 5) sc_Pairing_place_arrival.nd rfl (Or.inl rfl) (de_ix hr.u1 (dv 2) (dv 4)))
 (dss_cons (ds_for PassesOwn.never rfl (di_list (de_meth (dv 0) T.cl_Pairing T.me_Pairing_windows_for (fn_framed O_Pairing_windows_for) (hr.mono (by decide)) T.b_Pairing_windows_for .nil Dfl.nil (da_cons (dv 5) da_nil))) (dg_name sc_Pairing_place_arrival.nd rfl (Or.inl rfl))
 (dss_one (ds_if (dt_cmp (op_notInU hr.u1) ok_notIn (dv 6) (dv 3) (by with_unfolding_all rfl))
 (dss_cons (ds_asg (dv 5) (dg_sub hr.u1 (dv 3) (dv 6)))
 (dss_cons (ds_if (dt_cmp (op_notInU hr.u1) ok_notIn (dv 6) (de_fld T.cl_Pairing T.na_Pairing_arrival_of nd_Pairing rfl (dv 0)) (by with_unfolding_all rfl))
 (dss_cons (ds_expr (de_meth (dv 0) T.cl_Pairing T.me_Pairing_turn_arrivals (fn_framed O_Pairing_turn_arrivals) (hr.mono (by decide)) T.b_Pairing_turn_arrivals .nil Dfl.nil (da_cons (dv 6) (da_cons (dv 3) da_nil))))
 (dss_one (ds_ret de_non)))
 dss_nil)
 (dss_one (ds_expr (de_append (dv 2) (da_cons (de_ix hr.u1 (de_fld T.cl_Pairing T.na_Pairing_arrival_of nd_Pairing rfl (dv 0)) (dv 6)) da_nil))))))
 dss_nil)))
 (dss_one (ds_iadd (i := 4) sc_Pairing_place_arrival.nd rfl (Or.inl rfl) de_int)))))
 (dss_one (ds_ret (de_callB cr_sortedI (ok_sortI (P := false)) rfl T.m_sorted boot_sorted_ (da_cons (dv 2) da_nil))))))
theorem sc_Pairing_pairs : FnScope ["self"] ["self"] (defScope s_Pairing_pairs) := ⟨rfl, rfl, rfl, by decide +kernel, rfl, by decide +kernel, by decide +kernel⟩
theorem dv_Pairing_pairs (T : Txt K mg A F)  {f : Addr} {cdv : Value} {B : Around} {outer : List Env} {s : Shared} {H : Hp} {E : XK} (hr : Room 0 (B.deeper (envOfC "Pairing.pairs" (defScope s_Pairing_pairs) s.heap.objs.size f cdv))) :
    DSs (cxOf CX0 P w K mg base ["self"] "Pairing.pairs" (defScope s_Pairing_pairs) f cdv B outer s H E).nox (defBody s_Pairing_pairs) (rd_Pairing_pairs A) :=
 (dss_one (ds_ret (de_callB cr_sortedPO ok_sortP rfl T.m_sorted boot_sorted_ (da_cons (de_items rfl (de_fld T.cl_Pairing T.na_Pairing_window_of nd_Pairing rfl (dv 0)) rfl T.m_list boot_list_) da_nil))))
theorem sc_explained : FnScope ["windows", "arrivals", "pairing", "index", "window", "found"] ["windows", "arrivals"] (defScope s_explained) := ⟨rfl, rfl, rfl, by decide +kernel, rfl, by decide +kernel, by decide +kernel⟩
theorem dv_explained (T : Txt K mg A F) (O_Pairing___init__ : FnOk P w K mg base CX0 3 F.f_Pairing___init__ F.fd_Pairing___init__ ["self", "windows", "arrivals"] (spOf K (sp_Pairing___init__ A))) (O_Window_must : FnOk P w K mg base CX0 1 F.f_Window_must F.fd_Window_must ["self"] (spOf K (sp_Window_must A))) (O_Pairing_place_window : FnOk P w K mg base CX0 5 F.f_Pairing_place_window F.fd_Pairing_place_window ["self", "index"] (spOf K (sp_Pairing_place_window A))) (O_Pairing_place_arrival : FnOk P w K mg base CX0 5 F.f_Pairing_place_arrival F.fd_Pairing_place_arrival ["self", "index"] (spOf K (sp_Pairing_place_arrival A))) (O_Pairing_pairs : FnOk P w K mg base CX0 1 F.f_Pairing_pairs F.fd_Pairing_pairs ["self"] (spOf K (sp_Pairing_pairs A))) {f : Addr} {cdv : Value} {B : Around} {outer : List Env} {s : Shared} {H : Hp} {E : XK} (hr : Room 5 (B.deeper (envOfC "explained" (defScope s_explained) s.heap.objs.size f cdv))) :
    DSs (cxOf CX0 P w K mg base ["windows", "arrivals", "pairing", "index", "window", "found"] "explained" (defScope s_explained) f cdv B outer s H E).nox (defBody s_explained) (rd_explained A) :=
 (dss_cons (ds_set (i := 2) sc_explained.nd rfl (Or.inl rfl) (de_make T.mk_Pairing O_Pairing___init__ (hr.mono (by decide)) rfl T.m_Pairing T.b_Pairing___init__ .nil Dfl.nil (da_cons (dv 0) (da_cons (dv 1) da_nil))))
 (dss_cons (ds_for PassesOwn.never rfl (di_enum rfl T.m_enumerate (de_fld T.cl_Pairing T.na_Pairing_windows nd_Pairing rfl (dv 2))) (dg_tup rfl (dgs_cons (dg_name sc_explained.nd rfl (Or.inl rfl)) (dgs_cons (dg_name sc_explained.nd rfl (Or.inl rfl)) dgs_nil)))
 (dss_one (ds_if (dt_val (de_prop (dv 4) T.cl_Window T.pr_Window_must O_Window_must (hr.mono (by decide)) T.b_Window_must))
 (dss_cons (ds_set (i := 5) sc_explained.nd rfl (Or.inl rfl) (de_meth (dv 2) T.cl_Pairing T.me_Pairing_place_window (fn_framed O_Pairing_place_window) (hr.mono (by decide)) T.b_Pairing_place_window .nil Dfl.nil (da_cons (dv 3) da_nil)))
 (dss_one (ds_if (dt_cmp op_notN ok_notN (dv 5) de_non)
 (dss_one (ds_ret (de_tup (da_cons de_str (da_cons (dv 5) da_nil)))))
 dss_nil)))
 dss_nil)))
 (dss_cons (ds_for PassesOwn.never rfl (di_range1 rfl T.m_range (de_callB cr_len ok_len rfl T.m_len boot_len_ (da_cons (de_fld T.cl_Pairing T.na_Pairing_arrivals nd_Pairing rfl (dv 2)) da_nil))) (dg_name sc_explained.nd rfl (Or.inl rfl))
 (dss_cons (ds_set (i := 5) sc_explained.nd rfl (Or.inl rfl) (de_ifE (dt_cmp (op_notInU hr.u1) ok_notIn (dv 3) (de_fld T.cl_Pairing T.na_Pairing_window_of nd_Pairing rfl (dv 2)) (by with_unfolding_all rfl)) (de_meth (dv 2) T.cl_Pairing T.me_Pairing_place_arrival (fn_framed O_Pairing_place_arrival) (hr.mono (by decide)) T.b_Pairing_place_arrival .nil Dfl.nil (da_cons (dv 3) da_nil)) de_non))
 (dss_one (ds_if (dt_cmp op_notN ok_notN (dv 5) de_non)
 (dss_one (ds_ret (de_tup (da_cons de_str (da_cons (dv 5) da_nil)))))
 dss_nil))))
 (dss_one (ds_ret (de_tup (da_cons de_str (da_cons (de_meth0 (dv 2) T.cl_Pairing T.me_Pairing_pairs (fn_framed O_Pairing_pairs) (hr.mono (by decide)) T.b_Pairing_pairs .nil Dfl.nil) da_nil))))))))
theorem sc_most_explained : FnScope ["windows", "arrivals", "pairing", "left", "reached", "others", "crossed", "place", "window", "index"] ["windows", "arrivals"] (defScope s_most_explained) := ⟨rfl, rfl, rfl, by decide +kernel, rfl, by decide +kernel, by decide +kernel⟩
theorem dv_most_explained (T : Txt K mg A F) (O_Pairing___init__ : FnOk P w K mg base CX0 3 F.f_Pairing___init__ F.fd_Pairing___init__ ["self", "windows", "arrivals"] (spOf K (sp_Pairing___init__ A))) (O_Pairing_place_arrival : FnOk P w K mg base CX0 5 F.f_Pairing_place_arrival F.fd_Pairing_place_arrival ["self", "index"] (spOf K (sp_Pairing_place_arrival A))) (O_Pairing_windows_for : FnOk P w K mg base CX0 4 F.f_Pairing_windows_for F.fd_Pairing_windows_for ["self", "index"] (spOf K (sp_Pairing_windows_for A))) (O_Pairing_pairs : FnOk P w K mg base CX0 1 F.f_Pairing_pairs F.fd_Pairing_pairs ["self"] (spOf K (sp_Pairing_pairs A))) {f : Addr} {cdv : Value} {B : Around} {outer : List Env} {s : Shared} {H : Hp} {E : XK} (hr : Room 5 (B.deeper (envOfC "most_explained" (defScope s_most_explained) s.heap.objs.size f cdv))) :
    DSs (cxOf CX0 P w K mg base ["windows", "arrivals", "pairing", "left", "reached", "others", "crossed", "place", "window", "index"] "most_explained" (defScope s_most_explained) f cdv B outer s H E).nox (defBody s_most_explained) (rd_most_explained A) :=
 (dss_cons (ds_set (i := 2) sc_most_explained.nd rfl (Or.inr rfl) (de_make T.mk_Pairing O_Pairing___init__ (hr.mono (by decide)) rfl T.m_Pairing T.b_Pairing___init__ .nil Dfl.nil (da_cons (dv 0) (da_cons (dv 1) da_nil))))
 (dss_cons (ds_setDc (i := 3) rfl sc_most_explained.nd rfl rfl rfl (di_range1 rfl T.m_range (de_callB cr_len ok_len rfl T.m_len boot_len_ (da_cons (de_fld T.cl_Pairing T.na_Pairing_arrivals nd_Pairing rfl (dv 2)) da_nil))) (own := [("index", 9)]) (blkOk_by (by rfl)) (fun _ _ _ _ _ => (dgw_name sc_most_explained.nd rfl (Or.inl rfl) (by decide))) (fun _ _ _ _ _ => dts_nil) (fun _ _ _ _ _ => (dv 9)) (fun _ _ _ _ _ => (de_meth (dv 2) T.cl_Pairing T.me_Pairing_place_arrival (fn_framed O_Pairing_place_arrival) (hr.mono (by decide)) T.b_Pairing_place_arrival .nil Dfl.nil (da_cons (dv 9) da_nil))))
 (dss_cons (ds_set (i := 4) sc_most_explained.nd rfl (Or.inr rfl) (de_lock (de_lcP rfl sc_most_explained.nd (di_keys (dv 3)) (own := [("index", 9)]) (blkOk_by (by rfl)) (fun _ _ _ _ _ => (dgw_name sc_most_explained.nd rfl (Or.inl rfl) (by decide))) (fun _ _ _ _ _ => (dts_one (dt_cmp (op_notInU hr.u1) ok_notIn (dv 9) (de_fld T.cl_Pairing T.na_Pairing_window_of nd_Pairing rfl (dv 2)) (by with_unfolding_all rfl)))) (fun _ _ _ _ _ => (dv 9)))))
 (dss_cons (ds_par (i := 6) (j := 7) rfl sc_most_explained.nd rfl rfl (by decide) rfl rfl (da_cons (de_lstP da_nil) (da_cons de_int da_nil)))
 (dss_cons (ds_while PassesOwn.never (dt_cmp op_ltU ok_ord (dv 7) (de_callB cr_len ok_len rfl T.m_len boot_len_ (da_cons (dv 4) da_nil)))
 (dss_cons (ds_for PassesOwn.never rfl (di_list (de_meth (dv 2) T.cl_Pairing T.me_Pairing_windows_for (fn_framed O_Pairing_windows_for) (hr.mono (by decide)) T.b_Pairing_windows_for .nil Dfl.nil (da_cons (de_ix hr.u1 (dv 4) (dv 7)) da_nil))) (dg_name sc_most_explained.nd rfl (Or.inl rfl))
 (dss_one (ds_if (dt_cmp (op_notInU hr.u1) ok_notIn (dv 8) (dv 6) (by with_unfolding_all rfl))
 (dss_cons (ds_expr (de_append (dv 6) (da_cons (dv 8) da_nil)))
 (dss_one (ds_expr (de_append (dv 4) (da_cons (de_ix hr.u1 (de_fld T.cl_Pairing T.na_Pairing_arrival_of nd_Pairing rfl (dv 2)) (dv 8)) da_nil)))))
 dss_nil)))
 (dss_one (ds_iadd (i := 7) sc_most_explained.nd rfl (Or.inl rfl) de_int))))
 (dss_cons (ds_setLc (i := 5) rfl sc_most_explained.nd rfl rfl rfl (di_range1 rfl T.m_range (de_callB cr_len ok_len rfl T.m_len boot_len_ (da_cons (de_fld T.cl_Pairing T.na_Pairing_arrivals nd_Pairing rfl (dv 2)) da_nil))) (own := [("index", 9)]) (blkOk_by (by rfl)) (fun _ _ _ _ _ => (dgw_name sc_most_explained.nd rfl (Or.inl rfl) (by decide))) (fun _ _ _ _ _ => (dts_one (dt_cmp (op_notInU hr.u1) ok_notIn (dv 9) (dv 4) (by with_unfolding_all rfl)))) (fun _ _ _ _ _ => (dv 9)))
 (dss_one (ds_ret (de_tup (da_cons (de_meth0 (dv 2) T.cl_Pairing T.me_Pairing_pairs (fn_framed O_Pairing_pairs) (hr.mono (by decide)) T.b_Pairing_pairs .nil Dfl.nil) (da_cons (de_callB cr_sortedI (ok_sortI (P := false)) rfl T.m_sorted boot_sorted_ (da_cons (dv 6) da_nil)) (da_cons (dv 5) da_nil))))))))))))
theorem sc__law_cell : FnScope ["_law_script", "_law_k"] ["_law_script", "_law_k"] (defScope s__law_cell) := ⟨rfl, rfl, rfl, by decide +kernel, rfl, by decide +kernel, by decide +kernel⟩
theorem dv__law_cell (T : Txt K mg A F)  {f : Addr} {cdv : Value} {B : Around} {outer : List Env} {s : Shared} {H : Hp} {E : XK} (hr : Room 0 (B.deeper (envOfC "_law_cell" (defScope s__law_cell) s.heap.objs.size f cdv))) :
    DSs (cxOf CX0 P w K mg base ["_law_script", "_law_k"] "_law_cell" (defScope s__law_cell) f cdv B outer s H E).nox (defBody s__law_cell) (rd__law_cell A) :=
 (dss_cons (ds_if (dt_cmp op_ltU ok_ord (dv 1) (de_callB cr_len ok_len rfl T.m_len boot_len_ (da_cons (dv 0) da_nil)))
 (dss_one (ds_ret (de_ix hr.u1 (dv 0) (dv 1))))
 dss_nil)
 (dss_one (ds_ret (de_add (de_mul de_int (dv 1)) de_int))))
theorem sc__law_box : FnScope ["_law_cell_here"] ["_law_cell_here"] (defScope s__law_box) := ⟨rfl, rfl, rfl, by decide +kernel, rfl, by decide +kernel, by decide +kernel⟩
theorem dv__law_box (T : Txt K mg A F)  {f : Addr} {cdv : Value} {B : Around} {outer : List Env} {s : Shared} {H : Hp} {E : XK} (hr : Room 0 (B.deeper (envOfC "_law_box" (defScope s__law_box) s.heap.objs.size f cdv))) :
    DSs (cxOf CX0 P w K mg base ["_law_cell_here"] "_law_box" (defScope s__law_box) f cdv B outer s H E).nox (defBody s__law_box) (rd__law_box A) :=
 (dss_one (ds_ret (de_lstP (da_cons (de_callB (call_max2 rfl) ok_max2 rfl T.m_max boot_max_ (da_cons de_int (da_cons (de_sub (dv 0) (de_pow de_int de_int)) da_nil))) (da_cons (de_mod (dv 0) de_int) (da_cons de_int da_nil))))))
theorem sc__law_take : FnScope ["_law_box_here", "_law_many", "_law_number", "_law_digit"] ["_law_box_here", "_law_many"] (defScope s__law_take) := ⟨rfl, rfl, rfl, by decide +kernel, rfl, by decide +kernel, by decide +kernel⟩
theorem dv__law_take (T : Txt K mg A F)  {f : Addr} {cdv : Value} {B : Around} {outer : List Env} {s : Shared} {H : Hp} {E : XK} (hr : Room 0 (B.deeper (envOfC "_law_take" (defScope s__law_take) s.heap.objs.size f cdv))) :
    DSs (cxOf CX0 P w K mg base ["_law_box_here", "_law_many", "_law_number", "_law_digit"] "_law_take" (defScope s__law_take) f cdv B outer s H E).nox (defBody s__law_take) (rd__law_take A) :=
 (dss_cons (ds_if (dt_cmp op_gtU ok_ord (de_ix hr.u1 (dv 0) de_int) de_int)
 (dss_cons (ds_set (i := 3) sc__law_take.nd rfl (Or.inl rfl) (de_mod (de_ix hr.u1 (dv 0) de_int) (dv 1)))
 (dss_cons (ds_asg (de_fdiv (de_ix hr.u1 (dv 0) de_int) (dv 1)) (dg_sub hr.u1 (dv 0) de_int))
 (dss_one (ds_ret (dv 3)))))
 dss_nil)
 (dss_cons (ds_asg (de_add (de_ix hr.u1 (dv 0) de_int) de_int) (dg_sub hr.u1 (dv 0) de_int))
 (dss_cons (ds_set (i := 2) sc__law_take.nd rfl (Or.inl rfl) (de_mod (de_pow (de_add (de_add (de_ix hr.u1 (dv 0) de_int) (de_mul de_int (de_ix hr.u1 (dv 0) de_int))) de_int) de_int) de_int))
 (dss_cons (ds_set (i := 2) sc__law_take.nd rfl (Or.inl rfl) (de_mod (de_pow (de_add (dv 2) (de_mul de_int (de_ix hr.u1 (dv 0) de_int))) de_int) de_int))
 (dss_one (ds_ret (de_mod (de_fdiv (dv 2) de_int) (dv 1))))))))
theorem sc__law_admits : FnScope ["_law_window", "_law_arrival"] ["_law_window", "_law_arrival"] (defScope s__law_admits) := ⟨rfl, rfl, rfl, by decide +kernel, rfl, by decide +kernel, by decide +kernel⟩
theorem dv__law_admits (T : Txt K mg A F)  {f : Addr} {cdv : Value} {B : Around} {outer : List Env} {s : Shared} {H : Hp} {E : XK} (hr : Room 0 (B.deeper (envOfC "_law_admits" (defScope s__law_admits) s.heap.objs.size f cdv))) :
    DSs (cxOf CX0 P w K mg base ["_law_window", "_law_arrival"] "_law_admits" (defScope s__law_admits) f cdv B outer s H E).nox (defBody s__law_admits) (rd__law_admits A) :=
 (dss_one (ds_ret (de_and (de_cmp (op_eqU hr.u64) ok_eqU (de_ix hr.u1 (dv 0) de_int) (de_ix hr.u1 (dv 1) de_int)) (de_one (de_chain op_leU ok_ord op_leU ok_ord (de_ix hr.u1 (dv 0) de_int) (de_ix hr.u1 (dv 1) de_int) (de_ix hr.u1 (dv 0) de_int))))))
theorem sc__law_made : FnScope ["_law_windows", "_law_one"] ["_law_windows"] (defScope s__law_made) := ⟨rfl, rfl, rfl, by decide +kernel, rfl, by decide +kernel, by decide +kernel⟩
theorem dv__law_made (T : Txt K mg A F) (O_Window___init__ : FnOk P w K mg base CX0 2 F.f_Window___init__ F.fd_Window___init__ ["self", "first", "last", "must", "label"] (spOf K (sp_Window___init__ A))) {f : Addr} {cdv : Value} {B : Around} {outer : List Env} {s : Shared} {H : Hp} {E : XK} (hr : Room 3 (B.deeper (envOfC "_law_made" (defScope s__law_made) s.heap.objs.size f cdv))) :
    DSs (cxOf CX0 P w K mg base ["_law_windows", "_law_one"] "_law_made" (defScope s__law_made) f cdv B outer s H E).nox (defBody s__law_made) (rd__law_made A) :=
 (dss_one (ds_ret (de_lc rfl sc__law_made.nd (di_list (dv 0)) (own := [("_law_one", 1)]) (blkOk_by (by rfl)) (fun _ _ _ _ _ => (dgw_name sc__law_made.nd rfl (Or.inl rfl) (by decide))) (fun _ _ _ _ _ => dts_nil) (fun _ _ _ _ _ => (de_makeK (ks := ["must", "label"]) T.mk_Window O_Window___init__ (hr.mono (by decide)) rfl T.m_Window T.kb_Window gD_Window_ok (da_cons (de_ix hr.u1 (dv 1) de_int) (da_cons (de_ix hr.u1 (dv 1) de_int) da_nil)) (dk_cons (de_ix hr.u1 (dv 1) de_int) (dk_cons (de_ix hr.u1 (dv 1) de_int) dk_nil)))))))
theorem sc__law_are_pairs : FnScope ["_law_windows", "_law_arrivals", "_law_pairs", "_law_pair", "_law_used", "_law_taken", "_law_index", "_law_size"] ["_law_windows", "_law_arrivals", "_law_pairs"] (defScope s__law_are_pairs) := ⟨rfl, rfl, rfl, by decide +kernel, rfl, by decide +kernel, by decide +kernel⟩
theorem dv__law_are_pairs (T : Txt K mg A F) (O__law_admits : FnOk P w K mg base CX0 1 F.f__law_admits F.fd__law_admits ["_law_window", "_law_arrival"] (spOf K (sp__law_admits A))) {f : Addr} {cdv : Value} {B : Around} {outer : List Env} {s : Shared} {H : Hp} {E : XK} (hr : Room 1 (B.deeper (envOfC "_law_are_pairs" (defScope s__law_are_pairs) s.heap.objs.size f cdv))) :
    DSs (cxOf CX0 P w K mg base ["_law_windows", "_law_arrivals", "_law_pairs", "_law_pair", "_law_used", "_law_taken", "_law_index", "_law_size"] "_law_are_pairs" (defScope s__law_are_pairs) f cdv B outer s H E).nox (defBody s__law_are_pairs) (rd__law_are_pairs A) :=
 (dss_cons (ds_if (dt_w (dw_and (dt_not (dt_val (de_callB call_isi (ok_isi T.tab) rfl T.m_isinstance boot_isinstance_ (da_cons (dv 2) (da_cons (de_ty rfl T.m_list boot_list_) da_nil))))) (dw_and1 (dt_not (dt_val (de_callB call_isi (ok_isi T.tab) rfl T.m_isinstance boot_isinstance_ (da_cons (dv 2) (da_cons (de_ty rfl T.m_tuple boot_tuple_) da_nil))))))))
 (dss_one (ds_ret de_bl))
 dss_nil)
 (dss_cons (ds_par (i := 4) (j := 5) rfl sc__law_are_pairs.nd rfl rfl (by decide) rfl rfl (da_cons (de_lstP da_nil) (da_cons (de_lstP da_nil) da_nil)))
 (dss_cons (ds_for PassesOwn.never rfl (di_list (dv 2)) (dg_name sc__law_are_pairs.nd rfl (Or.inl rfl))
 (dss_cons (ds_if (dt_w (dw_or (dt_not (dt_val (de_callB call_isi (ok_isi T.tab) rfl T.m_isinstance boot_isinstance_ (da_cons (dv 3) (da_cons (de_ty rfl T.m_tuple boot_tuple_) da_nil))))) (dw_or1 (dt_cmp (op_neU hr.u64) ok_neU (de_callB cr_len ok_len rfl T.m_len boot_len_ (da_cons (dv 3) da_nil)) de_int))))
 (dss_one (ds_ret de_bl))
 dss_nil)
 (dss_cons (ds_for PassesOwn.never rfl (di_zipX rfl T.m_zip (dv 3) (de_lst (da_cons (de_callB cr_len ok_len rfl T.m_len boot_len_ (da_cons (dv 1) da_nil)) (da_cons (de_callB cr_len ok_len rfl T.m_len boot_len_ (da_cons (dv 0) da_nil)) da_nil)))) (dg_tup rfl (dgs_cons (dg_name sc__law_are_pairs.nd rfl (Or.inl rfl)) (dgs_cons (dg_name sc__law_are_pairs.nd rfl (Or.inl rfl)) dgs_nil)))
 (dss_one (ds_if (dt_w (dw_or (dt_not (dt_val (de_callB call_isi (ok_isi T.tab) rfl T.m_isinstance boot_isinstance_ (da_cons (dv 6) (da_cons (de_ty rfl T.m_int boot_int_) da_nil))))) (dw_or (dt_val (de_callB call_isi (ok_isi T.tab) rfl T.m_isinstance boot_isinstance_ (da_cons (dv 6) (da_cons (de_ty rfl T.m_bool boot_bool_) da_nil)))) (dw_or1 (dt_not (dt_chain op_leU ok_ord op_ltU ok_ord de_int (dv 6) (dv 7)))))))
 (dss_one (ds_ret de_bl))
 dss_nil)))
 (dss_cons (ds_if (dt_w (dw_or (dt_cmp (op_inU hr.u1) ok_in (de_ix hr.u1 (dv 3) de_int) (dv 4) (by with_unfolding_all rfl)) (dw_or (dt_cmp (op_inU hr.u1) ok_in (de_ix hr.u1 (dv 3) de_int) (dv 5) (by with_unfolding_all rfl)) (dw_or1 (dt_not (dt_val (de_call O__law_admits (hr.mono (by decide)) rfl T.m__law_admits T.k__law_admits T.b__law_admits .nil Dfl.nil (da_cons (de_ix hr.u1 (dv 0) (de_ix hr.u1 (dv 3) de_int)) (da_cons (de_ix hr.u1 (dv 1) (de_ix hr.u1 (dv 3) de_int)) da_nil)))))))))
 (dss_one (ds_ret de_bl))
 dss_nil)
 (dss_cons (ds_expr (de_append (dv 4) (da_cons (de_ix hr.u1 (dv 3) de_int) da_nil)))
 (dss_one (ds_expr (de_append (dv 5) (da_cons (de_ix hr.u1 (dv 3) de_int) da_nil)))))))))
 (dss_one (ds_ret de_bl)))))
theorem sc__law_is_explanation : FnScope ["_law_windows", "_law_arrivals", "_law_pairs", "_law_taken", "_law_pair", "_law_index"] ["_law_windows", "_law_arrivals", "_law_pairs"] (defScope s__law_is_explanation) := ⟨rfl, rfl, rfl, by decide +kernel, rfl, by decide +kernel, by decide +kernel⟩
theorem dv__law_is_explanation (T : Txt K mg A F) (O__law_are_pairs : FnOk P w K mg base CX0 2 F.f__law_are_pairs F.fd__law_are_pairs ["_law_windows", "_law_arrivals", "_law_pairs"] (spOf K (sp__law_are_pairs A))) {f : Addr} {cdv : Value} {B : Around} {outer : List Env} {s : Shared} {H : Hp} {E : XK} (hr : Room 2 (B.deeper (envOfC "_law_is_explanation" (defScope s__law_is_explanation) s.heap.objs.size f cdv))) :
    DSs (cxOf CX0 P w K mg base ["_law_windows", "_law_arrivals", "_law_pairs", "_law_taken", "_law_pair", "_law_index"] "_law_is_explanation" (defScope s__law_is_explanation) f cdv B outer s H E).nox (defBody s__law_is_explanation) (rd__law_is_explanation A) :=
 (dss_cons (ds_if (dt_w (dw_or (dt_not (dt_val (de_call (fn_framed O__law_are_pairs) (hr.mono (by decide)) rfl T.m__law_are_pairs T.k__law_are_pairs T.b__law_are_pairs .nil Dfl.nil (da_cons (dv 0) (da_cons (dv 1) (da_cons (dv 2) da_nil)))))) (dw_or1 (dt_cmp (op_neU hr.u64) ok_neU (de_callB cr_len ok_len rfl T.m_len boot_len_ (da_cons (dv 2) da_nil)) (de_callB cr_len ok_len rfl T.m_len boot_len_ (da_cons (dv 1) da_nil))))))
 (dss_one (ds_ret de_bl))
 dss_nil)
 (dss_cons (ds_set (i := 3) sc__law_is_explanation.nd rfl (Or.inr rfl) (de_lc rfl sc__law_is_explanation.nd (di_list (dv 2)) (own := [("_law_pair", 4)]) (blkOk_by (by rfl)) (fun _ _ _ _ _ => (dgw_name sc__law_is_explanation.nd rfl (Or.inl rfl) (by decide))) (fun _ _ _ _ _ => dts_nil) (fun _ _ _ _ _ => (de_ix hr.u1 (dv 4) de_int))))
 (dss_one (ds_ret (de_cmp (op_eqU hr.u64) ok_eqU (de_lc rfl sc__law_is_explanation.nd (di_range1 rfl T.m_range (de_callB cr_len ok_len rfl T.m_len boot_len_ (da_cons (dv 0) da_nil))) (own := [("_law_index", 5)]) (blkOk_by (by rfl)) (fun _ _ _ _ _ => (dgw_name sc__law_is_explanation.nd rfl (Or.inl rfl) (by decide))) (fun _ _ _ _ _ => (dts_one (dt_w (dw_and (dt_val (de_ix hr.u1 (de_ix hr.u1 (dv 0) (dv 5)) de_int)) (dw_and1 (dt_cmp (op_notInU hr.u1) ok_notIn (dv 5) (dv 3) (by with_unfolding_all rfl))))))) (fun _ _ _ _ _ => (dv 5))) (de_lst da_nil))))))
theorem sc__law_are_indexes : FnScope ["_law_value", "_law_size", "_law_seen", "_law_index"] ["_law_value", "_law_size"] (defScope s__law_are_indexes) := ⟨rfl, rfl, rfl, by decide +kernel, rfl, by decide +kernel, by decide +kernel⟩
theorem dv__law_are_indexes (T : Txt K mg A F)  {f : Addr} {cdv : Value} {B : Around} {outer : List Env} {s : Shared} {H : Hp} {E : XK} (hr : Room 0 (B.deeper (envOfC "_law_are_indexes" (defScope s__law_are_indexes) s.heap.objs.size f cdv))) :
    DSs (cxOf CX0 P w K mg base ["_law_value", "_law_size", "_law_seen", "_law_index"] "_law_are_indexes" (defScope s__law_are_indexes) f cdv B outer s H E).nox (defBody s__law_are_indexes) (rd__law_are_indexes A) :=
 (dss_cons (ds_if (dt_w (dw_and (dt_not (dt_val (de_callB call_isi (ok_isi T.tab) rfl T.m_isinstance boot_isinstance_ (da_cons (dv 0) (da_cons (de_ty rfl T.m_list boot_list_) da_nil))))) (dw_and1 (dt_not (dt_val (de_callB call_isi (ok_isi T.tab) rfl T.m_isinstance boot_isinstance_ (da_cons (dv 0) (da_cons (de_ty rfl T.m_tuple boot_tuple_) da_nil))))))))
 (dss_one (ds_ret de_bl))
 dss_nil)
 (dss_cons (ds_set (i := 2) sc__law_are_indexes.nd rfl (Or.inl rfl) (de_lstP da_nil))
 (dss_cons (ds_for PassesOwn.never rfl (di_list (dv 0)) (dg_name sc__law_are_indexes.nd rfl (Or.inl rfl))
 (dss_cons (ds_if (dt_w (dw_or (dt_not (dt_val (de_callB call_isi (ok_isi T.tab) rfl T.m_isinstance boot_isinstance_ (da_cons (dv 3) (da_cons (de_ty rfl T.m_int boot_int_) da_nil))))) (dw_or (dt_val (de_callB call_isi (ok_isi T.tab) rfl T.m_isinstance boot_isinstance_ (da_cons (dv 3) (da_cons (de_ty rfl T.m_bool boot_bool_) da_nil)))) (dw_or (dt_not (dt_chain op_leU ok_ord op_ltU ok_ord de_int (dv 3) (dv 1))) (dw_or1 (dt_cmp (op_inU hr.u1) ok_in (dv 3) (dv 2) (by with_unfolding_all rfl)))))))
 (dss_one (ds_ret de_bl))
 dss_nil)
 (dss_one (ds_expr (de_append (dv 2) (da_cons (dv 3) da_nil))))))
 (dss_one (ds_ret de_bl)))))
theorem sc__law_shows_missing : FnScope ["_law_windows", "_law_arrivals", "_law_indexes", "_law_found", "_law_at", "_law_arrival", "_law_index"] ["_law_windows", "_law_arrivals", "_law_indexes"] (defScope s__law_shows_missing) := ⟨rfl, rfl, rfl, by decide +kernel, rfl, by decide +kernel, by decide +kernel⟩
theorem dv__law_shows_missing (T : Txt K mg A F) (O__law_are_indexes : FnOk P w K mg base CX0 1 F.f__law_are_indexes F.fd__law_are_indexes ["_law_value", "_law_size"] (spOf K (sp__law_are_indexes A))) (O__law_admits : FnOk P w K mg base CX0 1 F.f__law_admits F.fd__law_admits ["_law_window", "_law_arrival"] (spOf K (sp__law_admits A))) {f : Addr} {cdv : Value} {B : Around} {outer : List Env} {s : Shared} {H : Hp} {E : XK} (hr : Room 1 (B.deeper (envOfC "_law_shows_missing" (defScope s__law_shows_missing) s.heap.objs.size f cdv))) :
    DSs (cxOf CX0 P w K mg base ["_law_windows", "_law_arrivals", "_law_indexes", "_law_found", "_law_at", "_law_arrival", "_law_index"] "_law_shows_missing" (defScope s__law_shows_missing) f cdv B outer s H E).nox (defBody s__law_shows_missing) (rd__law_shows_missing A) :=
 (dss_cons (ds_if (dt_w (dw_or (dt_not (dt_val (de_call (fn_framed O__law_are_indexes) (hr.mono (by decide)) rfl T.m__law_are_indexes T.k__law_are_indexes T.b__law_are_indexes .nil Dfl.nil (da_cons (dv 2) (da_cons (de_callB cr_len ok_len rfl T.m_len boot_len_ (da_cons (dv 0) da_nil)) da_nil))))) (dw_or1 (dt_cmp (op_neU hr.u64) ok_neU (de_lc rfl sc__law_shows_missing.nd (di_list (dv 2)) (own := [("_law_index", 6)]) (blkOk_by (by rfl)) (fun _ _ _ _ _ => (dgw_name sc__law_shows_missing.nd rfl (Or.inl rfl) (by decide))) (fun _ _ _ _ _ => (dts_one (dt_not (dt_val (de_ix hr.u1 (de_ix hr.u1 (dv 0) (dv 6)) de_int))))) (fun _ _ _ _ _ => (dv 6))) (de_lst da_nil)))))
 (dss_one (ds_ret de_bl))
 dss_nil)
 (dss_cons (ds_set (i := 3) sc__law_shows_missing.nd rfl (Or.inl rfl) (de_lstP da_nil))
 (dss_cons (ds_for PassesOwn.never rfl (di_enum rfl T.m_enumerate (dv 1)) (dg_tup rfl (dgs_cons (dg_name sc__law_shows_missing.nd rfl (Or.inl rfl)) (dgs_cons (dg_name sc__law_shows_missing.nd rfl (Or.inr rfl)) dgs_nil)))
 (dss_one (ds_if (dt_cmp (op_neU hr.u64) ok_neU (de_lc rfl sc__law_shows_missing.nd (di_list (dv 2)) (own := [("_law_index", 6)]) (blkOk_by (by rfl)) (fun _ _ _ _ _ => (dgw_name sc__law_shows_missing.nd rfl (Or.inl rfl) (by decide))) (fun _ _ _ _ _ => (dts_one (dt_val (de_call O__law_admits (hr.mono (by decide)) rfl T.m__law_admits T.k__law_admits T.b__law_admits .nil Dfl.nil (da_cons (de_ix hr.u1 (dv 0) (dv 6)) (da_cons (dv 5) da_nil)))))) (fun _ _ _ _ _ => (dv 6))) (de_lst da_nil))
 (dss_one (ds_expr (de_append (dv 3) (da_cons (dv 4) da_nil))))
 dss_nil)))
 (dss_one (ds_ret (de_cmp op_ltU ok_ord (de_callB cr_len ok_len rfl T.m_len boot_len_ (da_cons (dv 3) da_nil)) (de_callB cr_len ok_len rfl T.m_len boot_len_ (da_cons (dv 2) da_nil))))))))
theorem sc__law_shows_too_many : FnScope ["_law_windows", "_law_arrivals", "_law_indexes", "_law_found", "_law_at", "_law_window", "_law_index"] ["_law_windows", "_law_arrivals", "_law_indexes"] (defScope s__law_shows_too_many) := ⟨rfl, rfl, rfl, by decide +kernel, rfl, by decide +kernel, by decide +kernel⟩
theorem dv__law_shows_too_many (T : Txt K mg A F) (O__law_are_indexes : FnOk P w K mg base CX0 1 F.f__law_are_indexes F.fd__law_are_indexes ["_law_value", "_law_size"] (spOf K (sp__law_are_indexes A))) (O__law_admits : FnOk P w K mg base CX0 1 F.f__law_admits F.fd__law_admits ["_law_window", "_law_arrival"] (spOf K (sp__law_admits A))) {f : Addr} {cdv : Value} {B : Around} {outer : List Env} {s : Shared} {H : Hp} {E : XK} (hr : Room 1 (B.deeper (envOfC "_law_shows_too_many" (defScope s__law_shows_too_many) s.heap.objs.size f cdv))) :
    DSs (cxOf CX0 P w K mg base ["_law_windows", "_law_arrivals", "_law_indexes", "_law_found", "_law_at", "_law_window", "_law_index"] "_law_shows_too_many" (defScope s__law_shows_too_many) f cdv B outer s H E).nox (defBody s__law_shows_too_many) (rd__law_shows_too_many A) :=
 (dss_cons (ds_if (dt_not (dt_val (de_call (fn_framed O__law_are_indexes) (hr.mono (by decide)) rfl T.m__law_are_indexes T.k__law_are_indexes T.b__law_are_indexes .nil Dfl.nil (da_cons (dv 2) (da_cons (de_callB cr_len ok_len rfl T.m_len boot_len_ (da_cons (dv 1) da_nil)) da_nil)))))
 (dss_one (ds_ret de_bl))
 dss_nil)
 (dss_cons (ds_set (i := 3) sc__law_shows_too_many.nd rfl (Or.inl rfl) (de_lstP da_nil))
 (dss_cons (ds_for PassesOwn.never rfl (di_enum rfl T.m_enumerate (dv 0)) (dg_tup rfl (dgs_cons (dg_name sc__law_shows_too_many.nd rfl (Or.inl rfl)) (dgs_cons (dg_name sc__law_shows_too_many.nd rfl (Or.inr rfl)) dgs_nil)))
 (dss_one (ds_if (dt_cmp (op_neU hr.u64) ok_neU (de_lc rfl sc__law_shows_too_many.nd (di_list (dv 2)) (own := [("_law_index", 6)]) (blkOk_by (by rfl)) (fun _ _ _ _ _ => (dgw_name sc__law_shows_too_many.nd rfl (Or.inl rfl) (by decide))) (fun _ _ _ _ _ => (dts_one (dt_val (de_call O__law_admits (hr.mono (by decide)) rfl T.m__law_admits T.k__law_admits T.b__law_admits .nil Dfl.nil (da_cons (dv 5) (da_cons (de_ix hr.u1 (dv 1) (dv 6)) da_nil)))))) (fun _ _ _ _ _ => (dv 6))) (de_lst da_nil))
 (dss_one (ds_expr (de_append (dv 3) (da_cons (dv 4) da_nil))))
 dss_nil)))
 (dss_one (ds_ret (de_cmp op_ltU ok_ord (de_callB cr_len ok_len rfl T.m_len boot_len_ (da_cons (dv 3) da_nil)) (de_callB cr_len ok_len rfl T.m_len boot_len_ (da_cons (dv 2) da_nil))))))))
theorem sc__law_mixed : FnScope ["_law_box_here", "_law_some", "_law_left", "_law_turn"] ["_law_box_here", "_law_some"] (defScope s__law_mixed) := ⟨rfl, rfl, rfl, by decide +kernel, rfl, by decide +kernel, by decide +kernel⟩
theorem dv__law_mixed (T : Txt K mg A F) (O__law_take : FnOk P w K mg base CX0 1 F.f__law_take F.fd__law_take ["_law_box_here", "_law_many"] (spOf K (sp__law_take A))) {f : Addr} {cdv : Value} {B : Around} {outer : List Env} {s : Shared} {H : Hp} {E : XK} (hr : Room 1 (B.deeper (envOfC "_law_mixed" (defScope s__law_mixed) s.heap.objs.size f cdv))) :
    DSs (cxOf CX0 P w K mg base ["_law_box_here", "_law_some", "_law_left", "_law_turn"] "_law_mixed" (defScope s__law_mixed) f cdv B outer s H E).nox (defBody s__law_mixed) (rd__law_mixed A) :=
 (dss_cons (ds_set (i := 2) sc__law_mixed.nd rfl (Or.inr rfl) (de_callTy cr_list ok_listP rfl T.m_list boot_list_ (da_cons (dv 1) da_nil)))
 (dss_one (ds_ret (de_lc rfl sc__law_mixed.nd (di_range1 rfl T.m_range (de_callB cr_len ok_len rfl T.m_len boot_len_ (da_cons (dv 1) da_nil))) (own := [("_law_turn", 3)]) (blkOk_by (by rfl)) (fun _ _ _ _ _ => (dgw_name sc__law_mixed.nd rfl (Or.inl rfl) (by decide))) (fun _ _ _ _ _ => dts_nil) (fun _ _ _ _ _ => (de_popAt (dv 2) (da_cons (de_call (fn_framed O__law_take) (hr.mono (by decide)) rfl T.m__law_take T.k__law_take T.b__law_take .nil Dfl.nil (da_cons (dv 0) (da_cons (de_callB cr_len ok_len rfl T.m_len boot_len_ (da_cons (dv 2) da_nil)) da_nil))) da_nil)))))))
theorem sc__law_planted : FnScope ["_law_box_here", "_law_turn", "_law_windows", "_law_arrivals", "_law_few", "_law_kind", "_law_at", "_law_first", "_law_last"] ["_law_box_here"] (defScope s__law_planted) := ⟨rfl, rfl, rfl, by decide +kernel, rfl, by decide +kernel, by decide +kernel⟩
theorem dv__law_planted (T : Txt K mg A F) (O__law_take : FnOk P w K mg base CX0 1 F.f__law_take F.fd__law_take ["_law_box_here", "_law_many"] (spOf K (sp__law_take A))) (O__law_mixed : FnOk P w K mg base CX0 2 F.f__law_mixed F.fd__law_mixed ["_law_box_here", "_law_some"] (spOf K (sp__law_mixed A))) {f : Addr} {cdv : Value} {B : Around} {outer : List Env} {s : Shared} {H : Hp} {E : XK} (hr : Room 2 (B.deeper (envOfC "_law_planted" (defScope s__law_planted) s.heap.objs.size f cdv))) :
    DSs (cxOf CX0 P w K mg base ["_law_box_here", "_law_turn", "_law_windows", "_law_arrivals", "_law_few", "_law_kind", "_law_at", "_law_first", "_law_last"] "_law_planted" (defScope s__law_planted) f cdv B outer s H E).nox (defBody s__law_planted) (rd__law_planted A) :=
 (dss_cons (ds_par3 (i := 2) (j := 3) (l := 4) rfl sc__law_planted.nd rfl rfl rfl (by decide) (by decide) (by decide) rfl rfl rfl (da_cons (de_lstP da_nil) (da_cons (de_lstP da_nil) (da_cons (de_add de_int (de_call (fn_framed O__law_take) (hr.mono (by decide)) rfl T.m__law_take T.k__law_take T.b__law_take .nil Dfl.nil (da_cons (dv 0) (da_cons de_int da_nil)))) da_nil))))
 (dss_cons (ds_for PassesOwn.never rfl (di_range1 rfl T.m_range (de_call (fn_framed O__law_take) (hr.mono (by decide)) rfl T.m__law_take T.k__law_take T.b__law_take .nil Dfl.nil (da_cons (dv 0) (da_cons de_int da_nil)))) (dg_name sc__law_planted.nd rfl (Or.inl rfl))
 (dss_cons (ds_set (i := 5) sc__law_planted.nd rfl (Or.inl rfl) (de_ix hr.u1 de_str (de_call (fn_framed O__law_take) (hr.mono (by decide)) rfl T.m__law_take T.k__law_take T.b__law_take .nil Dfl.nil (da_cons (dv 0) (da_cons (dv 4) da_nil)))))
 (dss_cons (ds_set (i := 6) sc__law_planted.nd rfl (Or.inl rfl) (de_call (fn_framed O__law_take) (hr.mono (by decide)) rfl T.m__law_take T.k__law_take T.b__law_take .nil Dfl.nil (da_cons (dv 0) (da_cons de_int da_nil))))
 (dss_cons (ds_par (i := 7) (j := 8) rfl sc__law_planted.nd rfl rfl (by decide) rfl rfl (da_cons (de_callB (call_max2 rfl) ok_max2 rfl T.m_max boot_max_ (da_cons de_int (da_cons (de_sub (dv 6) (de_call (fn_framed O__law_take) (hr.mono (by decide)) rfl T.m__law_take T.k__law_take T.b__law_take .nil Dfl.nil (da_cons (dv 0) (da_cons de_int da_nil)))) da_nil))) (da_cons (de_add (dv 6) (de_call (fn_framed O__law_take) (hr.mono (by decide)) rfl T.m__law_take T.k__law_take T.b__law_take .nil Dfl.nil (da_cons (dv 0) (da_cons de_int da_nil)))) da_nil)))
 (dss_one (ds_if (dt_cmp (op_eqU hr.u64) ok_eqU (de_call (fn_framed O__law_take) (hr.mono (by decide)) rfl T.m__law_take T.k__law_take T.b__law_take .nil Dfl.nil (da_cons (dv 0) (da_cons de_int da_nil))) de_int)
 (dss_one (ds_expr (de_append (dv 2) (da_cons (de_tup (da_cons (dv 7) (da_cons (dv 8) (da_cons de_bl (da_cons (dv 5) da_nil))))) da_nil))))
 (dss_cons (ds_expr (de_append (dv 2) (da_cons (de_tup (da_cons (dv 7) (da_cons (dv 8) (da_cons (de_cmp (op_eqU hr.u64) ok_eqU (de_call (fn_framed O__law_take) (hr.mono (by decide)) rfl T.m__law_take T.k__law_take T.b__law_take .nil Dfl.nil (da_cons (dv 0) (da_cons de_int da_nil))) de_int) (da_cons (dv 5) da_nil))))) da_nil)))
 (dss_one (ds_expr (de_append (dv 3) (da_cons (de_tup (da_cons (dv 6) (da_cons (dv 5) da_nil))) da_nil)))))))))))
 (dss_one (ds_gh (ds_ret (de_tup (da_cons (de_call (fn_framed O__law_mixed) (hr.mono (by decide)) rfl T.m__law_mixed T.k__law_mixed T.b__law_mixed .nil Dfl.nil (da_cons (dv 0) (da_cons (dv 2) da_nil))) (da_cons (de_call (fn_framed O__law_mixed) (hr.mono (by decide)) rfl T.m__law_mixed T.k__law_mixed T.b__law_mixed .nil Dfl.nil (da_cons (dv 0) (da_cons (dv 3) da_nil))) da_nil))))))))
theorem sc__law_alone_right : FnScope ["_law_box_here", "_law_windows", "_law_arrivals", "_law_at", "_law_some", "_law_lone", "_law_spot", "_law_more", "_law_one", "_law_late", "_law_found"] ["_law_box_here", "_law_windows", "_law_arrivals"] (defScope s__law_alone_right) := ⟨rfl, rfl, rfl, by decide +kernel, rfl, by decide +kernel, by decide +kernel⟩
theorem dv__law_alone_right (T : Txt K mg A F) (O__law_take : FnOk P w K mg base CX0 1 F.f__law_take F.fd__law_take ["_law_box_here", "_law_many"] (spOf K (sp__law_take A))) (O_explained : FnOk P w K mg base CX0 6 F.f_explained F.fd_explained ["windows", "arrivals"] (spOf K (sp_explained A))) (O__law_made : FnOk P w K mg base CX0 4 F.f__law_made F.fd__law_made ["_law_windows"] (spOf K (sp__law_made A))) (O__law_shows_missing : FnOk P w K mg base CX0 2 F.f__law_shows_missing F.fd__law_shows_missing ["_law_windows", "_law_arrivals", "_law_indexes"] (spOf K (sp__law_shows_missing A))) (O__law_shows_too_many : FnOk P w K mg base CX0 2 F.f__law_shows_too_many F.fd__law_shows_too_many ["_law_windows", "_law_arrivals", "_law_indexes"] (spOf K (sp__law_shows_too_many A))) (O_most_explained : FnOk P w K mg base CX0 6 F.f_most_explained F.fd_most_explained ["windows", "arrivals"] (spOf K (sp_most_explained A))) {f : Addr} {cdv : Value} {B : Around} {outer : List Env} {s : Shared} {H : Hp} {E : XK} (hr : Room 6 (B.deeper (envOfC "_law_alone_right" (defScope s__law_alone_right) s.heap.objs.size f cdv))) :
    DSs (cxOf CX0 P w K mg base ["_law_box_here", "_law_windows", "_law_arrivals", "_law_at", "_law_some", "_law_lone", "_law_spot", "_law_more", "_law_one", "_law_late", "_law_found"] "_law_alone_right" (defScope s__law_alone_right) f cdv B outer s H E).nox (defBody s__law_alone_right) (rd__law_alone_right A) :=
 (dss_cons (ds_set (i := 3) sc__law_alone_right.nd rfl (Or.inl rfl) (de_call (fn_framed O__law_take) (hr.mono (by decide)) rfl T.m__law_take T.k__law_take T.b__law_take .nil Dfl.nil (da_cons (dv 0) (da_cons de_int da_nil))))
 (dss_cons (ds_par (i := 5) (j := 6) rfl sc__law_alone_right.nd rfl rfl (by decide) rfl rfl (da_cons (de_tup (da_cons (dv 3) (da_cons (de_add (dv 3) (de_call (fn_framed O__law_take) (hr.mono (by decide)) rfl T.m__law_take T.k__law_take T.b__law_take .nil Dfl.nil (da_cons (dv 0) (da_cons de_int da_nil)))) (da_cons de_bl (da_cons de_str da_nil))))) (da_cons (de_call (fn_framed O__law_take) (hr.mono (by decide)) rfl T.m__law_take T.k__law_take T.b__law_take .nil Dfl.nil (da_cons (dv 0) (da_cons (de_add (de_callB cr_len ok_len rfl T.m_len boot_len_ (da_cons (dv 1) da_nil)) de_int) da_nil))) da_nil)))
 (dss_cons (ds_par3 (i := 7) (j := 8) (l := 9) rfl sc__law_alone_right.nd rfl rfl rfl (by decide) (by decide) (by decide) rfl rfl rfl (da_cons (de_add (de_add (de_slice (dv 1) do_none (do_some (dv 6))) (de_lst (da_cons (dv 5) da_nil))) (de_slice (dv 1) (do_some (dv 6)) do_none)) (da_cons (de_tup (da_cons (dv 3) (da_cons de_str da_nil))) (da_cons (de_tup (da_cons (de_add (de_ix hr.u1 (dv 5) de_int) de_int) (da_cons de_str da_nil))) da_nil))))
 (dss_cons (ds_for PassesOwn.never rfl (di_list (de_lst (da_cons (dv 2) (da_cons (de_add (de_lst (da_cons (dv 9) da_nil)) (dv 2)) da_nil)))) (dg_name sc__law_alone_right.nd rfl (Or.inl rfl))
 (dss_cons (ds_set (i := 10) sc__law_alone_right.nd rfl (Or.inl rfl) (de_call (fn_framed O_explained) (hr.mono (by decide)) rfl T.m_explained T.k_explained T.b_explained .nil Dfl.nil (da_cons (de_call (fn_framed O__law_made) (hr.mono (by decide)) rfl T.m__law_made T.k__law_made T.b__law_made .nil Dfl.nil (da_cons (dv 7) da_nil)) (da_cons (dv 4) da_nil))))
 (dss_one (ds_if (dt_w (dw_or (dt_cmp (op_neU hr.u64) ok_neU (de_ix hr.u1 (dv 10) de_int) de_str) (dw_or1 (dt_not (dt_val (de_call (fn_framed O__law_shows_missing) (hr.mono (by decide)) rfl T.m__law_shows_missing T.k__law_shows_missing T.b__law_shows_missing .nil Dfl.nil (da_cons (dv 7) (da_cons (dv 4) (da_cons (de_ix hr.u1 (dv 10) de_int) da_nil)))))))))
 (dss_one (ds_ret de_bl))
 dss_nil))))
 (dss_cons (ds_if (dt_cmp (op_neU hr.u64) ok_neU (de_ix hr.u1 (de_call (fn_framed O_explained) (hr.mono (by decide)) rfl T.m_explained T.k_explained T.b_explained .nil Dfl.nil (da_cons (de_call (fn_framed O__law_made) (hr.mono (by decide)) rfl T.m__law_made T.k__law_made T.b__law_made .nil Dfl.nil (da_cons (dv 7) da_nil)) (da_cons (de_add (dv 2) (de_lst (da_cons (dv 8) da_nil))) da_nil))) de_int) de_str)
 (dss_one (ds_ret de_bl))
 dss_nil)
 (dss_cons (ds_for PassesOwn.never rfl (di_list (de_lst (da_cons (de_add (dv 2) (de_lst (da_cons (dv 8) (da_cons (dv 8) da_nil)))) (da_cons (de_add (de_add (de_lst (da_cons (dv 9) da_nil)) (dv 2)) (de_lst (da_cons (dv 8) da_nil))) da_nil)))) (dg_name sc__law_alone_right.nd rfl (Or.inl rfl))
 (dss_cons (ds_set (i := 10) sc__law_alone_right.nd rfl (Or.inl rfl) (de_call (fn_framed O_explained) (hr.mono (by decide)) rfl T.m_explained T.k_explained T.b_explained .nil Dfl.nil (da_cons (de_call (fn_framed O__law_made) (hr.mono (by decide)) rfl T.m__law_made T.k__law_made T.b__law_made .nil Dfl.nil (da_cons (dv 7) da_nil)) (da_cons (dv 4) da_nil))))
 (dss_one (ds_if (dt_w (dw_or (dt_cmp (op_neU hr.u64) ok_neU (de_ix hr.u1 (dv 10) de_int) de_str) (dw_or1 (dt_not (dt_val (de_call (fn_framed O__law_shows_too_many) (hr.mono (by decide)) rfl T.m__law_shows_too_many T.k__law_shows_too_many T.b__law_shows_too_many .nil Dfl.nil (da_cons (dv 7) (da_cons (dv 4) (da_cons (de_ix hr.u1 (dv 10) de_int) da_nil)))))))))
 (dss_one (ds_ret de_bl))
 dss_nil))))
 (dss_one (ds_ret (de_cmp (op_eqU hr.u64) ok_eqU (de_callB cr_len ok_len rfl T.m_len boot_len_ (da_cons (de_ix hr.u1 (de_call (fn_framed O_most_explained) (hr.mono (by decide)) rfl T.m_most_explained T.k_most_explained T.b_most_explained .nil Dfl.nil (da_cons (de_call (fn_framed O__law_made) (hr.mono (by decide)) rfl T.m__law_made T.k__law_made T.b__law_made .nil Dfl.nil (da_cons (dv 7) da_nil)) (da_cons (de_add (de_lst (da_cons (dv 9) (da_cons (dv 8) da_nil))) (dv 2)) da_nil))) de_int) da_nil)) (de_add (de_callB cr_len ok_len rfl T.m_len boot_len_ (da_cons (dv 2) da_nil)) de_int))))))))))
theorem sc_law : FnScope ["_law_script", "_law_k", "_law_box_here", "_law_found", "_law_windows", "_law_arrivals"] ["_law_script"] (defScope s_law) := ⟨rfl, rfl, rfl, by decide +kernel, rfl, by decide +kernel, by decide +kernel⟩
theorem dv_law (T : Txt K mg A F) (O__law_box : FnOk P w K mg base CX0 1 F.f__law_box F.fd__law_box ["_law_cell_here"] (spOf K (sp__law_box A))) (O__law_cell : FnOk P w K mg base CX0 1 F.f__law_cell F.fd__law_cell ["_law_script", "_law_k"] (spOf K (sp__law_cell A))) (O__law_planted : FnOk P w K mg base CX0 3 F.f__law_planted F.fd__law_planted ["_law_box_here"] (spOf K (sp__law_planted A))) (O_explained : FnOk P w K mg base CX0 6 F.f_explained F.fd_explained ["windows", "arrivals"] (spOf K (sp_explained A))) (O__law_made : FnOk P w K mg base CX0 4 F.f__law_made F.fd__law_made ["_law_windows"] (spOf K (sp__law_made A))) (O__law_is_explanation : FnOk P w K mg base CX0 3 F.f__law_is_explanation F.fd__law_is_explanation ["_law_windows", "_law_arrivals", "_law_pairs"] (spOf K (sp__law_is_explanation A))) (O_most_explained : FnOk P w K mg base CX0 6 F.f_most_explained F.fd_most_explained ["windows", "arrivals"] (spOf K (sp_most_explained A))) (O__law_alone_right : FnOk P w K mg base CX0 7 F.f__law_alone_right F.fd__law_alone_right ["_law_box_here", "_law_windows", "_law_arrivals"] (spOf K (sp__law_alone_right A))) {f : Addr} {cdv : Value} {B : Around} {outer : List Env} {s : Shared} {H : Hp} {E : XK} (hr : Room 7 (B.deeper (envOfC "law" (defScope s_law) s.heap.objs.size f cdv))) :
    DSs (cxOf CX0 P w K mg base ["_law_script", "_law_k", "_law_box_here", "_law_found", "_law_windows", "_law_arrivals"] "law" (defScope s_law) f cdv B outer s H E).nox (defBody s_law) (rd_law A) :=
 (dss_cons (ds_for PassesOwn.never rfl (di_range1 rfl T.m_range (de_callB (call_max2 rfl) ok_max2 rfl T.m_max boot_max_ (da_cons de_int (da_cons (de_callB (call_min2 rfl) ok_min2 rfl T.m_min boot_min_ (da_cons (de_callB cr_len ok_len rfl T.m_len boot_len_ (da_cons (dv 0) da_nil)) (da_cons de_int da_nil))) da_nil)))) (dg_name sc_law.nd rfl (Or.inl rfl))
 (dss_cons (ds_set (i := 2) sc_law.nd rfl (Or.inl rfl) (de_call O__law_box (hr.mono (by decide)) rfl T.m__law_box T.k__law_box T.b__law_box .nil Dfl.nil (da_cons (de_call O__law_cell (hr.mono (by decide)) rfl T.m__law_cell T.k__law_cell T.b__law_cell .nil Dfl.nil (da_cons (dv 0) (da_cons (dv 1) da_nil))) da_nil)))
 (dss_cons (ds_asg (de_call (fn_framed O__law_planted) (hr.mono (by decide)) rfl T.m__law_planted T.k__law_planted T.b__law_planted .nil Dfl.nil (da_cons (dv 2) da_nil)) (dg_tup rfl (dgs_cons (dg_name sc_law.nd rfl (Or.inl rfl)) (dgs_cons (dg_name sc_law.nd rfl (Or.inl rfl)) dgs_nil))))
 (dss_cons (ds_set (i := 3) sc_law.nd rfl (Or.inl rfl) (de_call (fn_framed O_explained) (hr.mono (by decide)) rfl T.m_explained T.k_explained T.b_explained .nil Dfl.nil (da_cons (de_call (fn_framed O__law_made) (hr.mono (by decide)) rfl T.m__law_made T.k__law_made T.b__law_made .nil Dfl.nil (da_cons (dv 4) da_nil)) (da_cons (dv 5) da_nil))))
 (dss_cons (ds_if (dt_w (dw_or (dt_cmp (op_neU hr.u64) ok_neU (de_ix hr.u1 (dv 3) de_int) de_str) (dw_or1 (dt_not (dt_val (de_call (fn_framed O__law_is_explanation) (hr.mono (by decide)) rfl T.m__law_is_explanation T.k__law_is_explanation T.b__law_is_explanation .nil Dfl.nil (da_cons (dv 4) (da_cons (dv 5) (da_cons (de_ix hr.u1 (dv 3) de_int) da_nil)))))))))
 (dss_one (ds_ret de_bl))
 dss_nil)
 (dss_cons (ds_if (dt_cmp (op_neU hr.u64) ok_neU (de_callB cr_len ok_len rfl T.m_len boot_len_ (da_cons (de_ix hr.u1 (de_call (fn_framed O_most_explained) (hr.mono (by decide)) rfl T.m_most_explained T.k_most_explained T.b_most_explained .nil Dfl.nil (da_cons (de_call (fn_framed O__law_made) (hr.mono (by decide)) rfl T.m__law_made T.k__law_made T.b__law_made .nil Dfl.nil (da_cons (dv 4) da_nil)) (da_cons (dv 5) da_nil))) de_int) da_nil)) (de_callB cr_len ok_len rfl T.m_len boot_len_ (da_cons (dv 5) da_nil)))
 (dss_one (ds_ret de_bl))
 dss_nil)
 (dss_one (ds_if (dt_not (dt_val (de_call (fn_framed O__law_alone_right) (hr.mono (by decide)) rfl T.m__law_alone_right T.k__law_alone_right T.b__law_alone_right .nil Dfl.nil (da_cons (dv 2) (da_cons (dv 4) (da_cons (dv 5) da_nil))))))
 (dss_one (ds_ret de_bl))
 dss_nil))))))))
 (dss_one (ds_ret de_bl)))
theorem ok_is_integer (T : Txt K mg A F) (E : Fun K "is_integer" "is_integer" s_is_integer F.f_is_integer F.fd_is_integer)  : FnOk P w K mg base CX0 1 F.f_is_integer F.fd_is_integer ["value", "low", "high"] (spOf K (sp_is_integer A)) :=
  fn_e E sc_is_integer (fun ds cs R Z h => by first | (obtain ⟨_, rfl, _⟩ := h; rfl) | (obtain ⟨_, _, rfl, _⟩ := h; rfl) | (obtain ⟨_, _, _, rfl, _⟩ := h; rfl) | (obtain ⟨_, _, _, _, rfl, _⟩ := h; rfl) | (obtain ⟨_, _, _, _, _, rfl, _⟩ := h; rfl) | (obtain ⟨_, _, _, _, _, _, rfl, _⟩ := h; rfl) | (obtain ⟨_, _, _, _, _, _, _, rfl, _⟩ := h; rfl) | (obtain ⟨_, _, _, _, _, _, _, _, rfl, _⟩ := h; rfl) | (obtain ⟨_, _, _, _, _, _, _, _, _, rfl, _⟩ := h; rfl) | (obtain ⟨_, _, _, _, _, _, _, _, _, _, rfl, _⟩ := h; rfl) | (obtain ⟨_, _, _, _, _, _, _, _, _, _, _, rfl, _⟩ := h; rfl)) (fun cdv B outer s H E hr => dv_is_integer T  hr) pl_is_integer
theorem ok_is_list (T : Txt K mg A F) (E : Fun K "is_list" "is_list" s_is_list F.f_is_list F.fd_is_list)  : FnOk P w K mg base CX0 1 F.f_is_list F.fd_is_list ["value"] (spOf K (sp_is_list A)) :=
  fn_e E sc_is_list (fun ds cs R Z h => by first | (obtain ⟨_, rfl, _⟩ := h; rfl) | (obtain ⟨_, _, rfl, _⟩ := h; rfl) | (obtain ⟨_, _, _, rfl, _⟩ := h; rfl) | (obtain ⟨_, _, _, _, rfl, _⟩ := h; rfl) | (obtain ⟨_, _, _, _, _, rfl, _⟩ := h; rfl) | (obtain ⟨_, _, _, _, _, _, rfl, _⟩ := h; rfl) | (obtain ⟨_, _, _, _, _, _, _, rfl, _⟩ := h; rfl) | (obtain ⟨_, _, _, _, _, _, _, _, rfl, _⟩ := h; rfl) | (obtain ⟨_, _, _, _, _, _, _, _, _, rfl, _⟩ := h; rfl) | (obtain ⟨_, _, _, _, _, _, _, _, _, _, rfl, _⟩ := h; rfl) | (obtain ⟨_, _, _, _, _, _, _, _, _, _, _, rfl, _⟩ := h; rfl)) (fun cdv B outer s H E hr => dv_is_list T  hr) pl_is_list
theorem ok_is_arrival (T : Txt K mg A F) (E : Fun K "is_arrival" "is_arrival" s_is_arrival F.f_is_arrival F.fd_is_arrival)  : FnOk P w K mg base CX0 1 F.f_is_arrival F.fd_is_arrival ["value"] (spOf K (sp_is_arrival A)) :=
  fn_e E sc_is_arrival (fun ds cs R Z h => by first | (obtain ⟨_, rfl, _⟩ := h; rfl) | (obtain ⟨_, _, rfl, _⟩ := h; rfl) | (obtain ⟨_, _, _, rfl, _⟩ := h; rfl) | (obtain ⟨_, _, _, _, rfl, _⟩ := h; rfl) | (obtain ⟨_, _, _, _, _, rfl, _⟩ := h; rfl) | (obtain ⟨_, _, _, _, _, _, rfl, _⟩ := h; rfl) | (obtain ⟨_, _, _, _, _, _, _, rfl, _⟩ := h; rfl) | (obtain ⟨_, _, _, _, _, _, _, _, rfl, _⟩ := h; rfl) | (obtain ⟨_, _, _, _, _, _, _, _, _, rfl, _⟩ := h; rfl) | (obtain ⟨_, _, _, _, _, _, _, _, _, _, rfl, _⟩ := h; rfl) | (obtain ⟨_, _, _, _, _, _, _, _, _, _, _, rfl, _⟩ := h; rfl)) (fun cdv B outer s H E hr => dv_is_arrival T  hr) pl_is_arrival
theorem ok_Window___init__ (T : Txt K mg A F) (E : Fun K "__init__" "Window.__init__" s_Window___init__ F.f_Window___init__ F.fd_Window___init__) (O_is_integer : FnOk P w K mg base CX0 1 F.f_is_integer F.fd_is_integer ["value", "low", "high"] (spOf K (sp_is_integer A))) : FnOk P w K mg base CX0 2 F.f_Window___init__ F.fd_Window___init__ ["self", "first", "last", "must", "label"] (spOf K (sp_Window___init__ A)) :=
  fn_e E sc_Window___init__ (fun ds cs R Z h => by first | (obtain ⟨_, rfl, _⟩ := h; rfl) | (obtain ⟨_, _, rfl, _⟩ := h; rfl) | (obtain ⟨_, _, _, rfl, _⟩ := h; rfl) | (obtain ⟨_, _, _, _, rfl, _⟩ := h; rfl) | (obtain ⟨_, _, _, _, _, rfl, _⟩ := h; rfl) | (obtain ⟨_, _, _, _, _, _, rfl, _⟩ := h; rfl) | (obtain ⟨_, _, _, _, _, _, _, rfl, _⟩ := h; rfl) | (obtain ⟨_, _, _, _, _, _, _, _, rfl, _⟩ := h; rfl) | (obtain ⟨_, _, _, _, _, _, _, _, _, rfl, _⟩ := h; rfl) | (obtain ⟨_, _, _, _, _, _, _, _, _, _, rfl, _⟩ := h; rfl) | (obtain ⟨_, _, _, _, _, _, _, _, _, _, _, rfl, _⟩ := h; rfl)) (fun cdv B outer s H E hr => dv_Window___init__ T O_is_integer hr) pl_Window___init__
theorem ok_Window___contains__ (T : Txt K mg A F) (E : Fun K "__contains__" "Window.__contains__" s_Window___contains__ F.f_Window___contains__ F.fd_Window___contains__) (O_is_integer : FnOk P w K mg base CX0 1 F.f_is_integer F.fd_is_integer ["value", "low", "high"] (spOf K (sp_is_integer A))) : FnOk P w K mg base CX0 2 F.f_Window___contains__ F.fd_Window___contains__ ["self", "turn"] (spOf K (sp_Window___contains__ A)) :=
  fn_e E sc_Window___contains__ (fun ds cs R Z h => by first | (obtain ⟨_, rfl, _⟩ := h; rfl) | (obtain ⟨_, _, rfl, _⟩ := h; rfl) | (obtain ⟨_, _, _, rfl, _⟩ := h; rfl) | (obtain ⟨_, _, _, _, rfl, _⟩ := h; rfl) | (obtain ⟨_, _, _, _, _, rfl, _⟩ := h; rfl) | (obtain ⟨_, _, _, _, _, _, rfl, _⟩ := h; rfl) | (obtain ⟨_, _, _, _, _, _, _, rfl, _⟩ := h; rfl) | (obtain ⟨_, _, _, _, _, _, _, _, rfl, _⟩ := h; rfl) | (obtain ⟨_, _, _, _, _, _, _, _, _, rfl, _⟩ := h; rfl) | (obtain ⟨_, _, _, _, _, _, _, _, _, _, rfl, _⟩ := h; rfl) | (obtain ⟨_, _, _, _, _, _, _, _, _, _, _, rfl, _⟩ := h; rfl)) (fun cdv B outer s H E hr => dv_Window___contains__ T O_is_integer hr) pl_Window___contains__
theorem ok_Window_must (T : Txt K mg A F) (E : Fun K "must" "Window.must" s_Window_must F.f_Window_must F.fd_Window_must)  : FnOk P w K mg base CX0 1 F.f_Window_must F.fd_Window_must ["self"] (spOf K (sp_Window_must A)) :=
  fn_e E sc_Window_must (fun ds cs R Z h => by first | (obtain ⟨_, rfl, _⟩ := h; rfl) | (obtain ⟨_, _, rfl, _⟩ := h; rfl) | (obtain ⟨_, _, _, rfl, _⟩ := h; rfl) | (obtain ⟨_, _, _, _, rfl, _⟩ := h; rfl) | (obtain ⟨_, _, _, _, _, rfl, _⟩ := h; rfl) | (obtain ⟨_, _, _, _, _, _, rfl, _⟩ := h; rfl) | (obtain ⟨_, _, _, _, _, _, _, rfl, _⟩ := h; rfl) | (obtain ⟨_, _, _, _, _, _, _, _, rfl, _⟩ := h; rfl) | (obtain ⟨_, _, _, _, _, _, _, _, _, rfl, _⟩ := h; rfl) | (obtain ⟨_, _, _, _, _, _, _, _, _, _, rfl, _⟩ := h; rfl) | (obtain ⟨_, _, _, _, _, _, _, _, _, _, _, rfl, _⟩ := h; rfl)) (fun cdv B outer s H E hr => dv_Window_must T  hr) pl_Window_must
theorem ok_Window_admits (T : Txt K mg A F) (E : Fun K "admits" "Window.admits" s_Window_admits F.f_Window_admits F.fd_Window_admits) (O_is_arrival : FnOk P w K mg base CX0 1 F.f_is_arrival F.fd_is_arrival ["value"] (spOf K (sp_is_arrival A))) (O_Window___contains__ : FnOk P w K mg base CX0 2 F.f_Window___contains__ F.fd_Window___contains__ ["self", "turn"] (spOf K (sp_Window___contains__ A))) : FnOk P w K mg base CX0 3 F.f_Window_admits F.fd_Window_admits ["self", "arrival"] (spOf K (sp_Window_admits A)) :=
  fn_e E sc_Window_admits (fun ds cs R Z h => by first | (obtain ⟨_, rfl, _⟩ := h; rfl) | (obtain ⟨_, _, rfl, _⟩ := h; rfl) | (obtain ⟨_, _, _, rfl, _⟩ := h; rfl) | (obtain ⟨_, _, _, _, rfl, _⟩ := h; rfl) | (obtain ⟨_, _, _, _, _, rfl, _⟩ := h; rfl) | (obtain ⟨_, _, _, _, _, _, rfl, _⟩ := h; rfl) | (obtain ⟨_, _, _, _, _, _, _, rfl, _⟩ := h; rfl) | (obtain ⟨_, _, _, _, _, _, _, _, rfl, _⟩ := h; rfl) | (obtain ⟨_, _, _, _, _, _, _, _, _, rfl, _⟩ := h; rfl) | (obtain ⟨_, _, _, _, _, _, _, _, _, _, rfl, _⟩ := h; rfl) | (obtain ⟨_, _, _, _, _, _, _, _, _, _, _, rfl, _⟩ := h; rfl)) (fun cdv B outer s H E hr => dv_Window_admits T O_is_arrival O_Window___contains__ hr) pl_Window_admits
theorem ok_check_lists (T : Txt K mg A F) (E : Fun K "check_lists" "check_lists" s_check_lists F.f_check_lists F.fd_check_lists) (O_is_list : FnOk P w K mg base CX0 1 F.f_is_list F.fd_is_list ["value"] (spOf K (sp_is_list A))) (O_is_arrival : FnOk P w K mg base CX0 1 F.f_is_arrival F.fd_is_arrival ["value"] (spOf K (sp_is_arrival A))) : FnOk P w K mg base CX0 2 F.f_check_lists F.fd_check_lists ["windows", "arrivals"] (spOf K (sp_check_lists A)) :=
  fn_e E sc_check_lists (fun ds cs R Z h => by first | (obtain ⟨_, rfl, _⟩ := h; rfl) | (obtain ⟨_, _, rfl, _⟩ := h; rfl) | (obtain ⟨_, _, _, rfl, _⟩ := h; rfl) | (obtain ⟨_, _, _, _, rfl, _⟩ := h; rfl) | (obtain ⟨_, _, _, _, _, rfl, _⟩ := h; rfl) | (obtain ⟨_, _, _, _, _, _, rfl, _⟩ := h; rfl) | (obtain ⟨_, _, _, _, _, _, _, rfl, _⟩ := h; rfl) | (obtain ⟨_, _, _, _, _, _, _, _, rfl, _⟩ := h; rfl) | (obtain ⟨_, _, _, _, _, _, _, _, _, rfl, _⟩ := h; rfl) | (obtain ⟨_, _, _, _, _, _, _, _, _, _, rfl, _⟩ := h; rfl) | (obtain ⟨_, _, _, _, _, _, _, _, _, _, _, rfl, _⟩ := h; rfl)) (fun cdv B outer s H E hr => dv_check_lists T O_is_list O_is_arrival hr) pl_check_lists
theorem ok_Pairing___init__ (T : Txt K mg A F) (E : Fun K "__init__" "Pairing.__init__" s_Pairing___init__ F.f_Pairing___init__ F.fd_Pairing___init__) (O_check_lists : FnOk P w K mg base CX0 2 F.f_check_lists F.fd_check_lists ["windows", "arrivals"] (spOf K (sp_check_lists A))) : FnOk P w K mg base CX0 3 F.f_Pairing___init__ F.fd_Pairing___init__ ["self", "windows", "arrivals"] (spOf K (sp_Pairing___init__ A)) :=
  fn_e E sc_Pairing___init__ (fun ds cs R Z h => by first | (obtain ⟨_, rfl, _⟩ := h; rfl) | (obtain ⟨_, _, rfl, _⟩ := h; rfl) | (obtain ⟨_, _, _, rfl, _⟩ := h; rfl) | (obtain ⟨_, _, _, _, rfl, _⟩ := h; rfl) | (obtain ⟨_, _, _, _, _, rfl, _⟩ := h; rfl) | (obtain ⟨_, _, _, _, _, _, rfl, _⟩ := h; rfl) | (obtain ⟨_, _, _, _, _, _, _, rfl, _⟩ := h; rfl) | (obtain ⟨_, _, _, _, _, _, _, _, rfl, _⟩ := h; rfl) | (obtain ⟨_, _, _, _, _, _, _, _, _, rfl, _⟩ := h; rfl) | (obtain ⟨_, _, _, _, _, _, _, _, _, _, rfl, _⟩ := h; rfl) | (obtain ⟨_, _, _, _, _, _, _, _, _, _, _, rfl, _⟩ := h; rfl)) (fun cdv B outer s H E hr => dv_Pairing___init__ T O_check_lists hr) pl_Pairing___init__
theorem ok_Pairing_arrivals_of (T : Txt K mg A F) (E : Fun K "arrivals_of" "Pairing.arrivals_of" s_Pairing_arrivals_of F.f_Pairing_arrivals_of F.fd_Pairing_arrivals_of) (O_Window_admits : FnOk P w K mg base CX0 3 F.f_Window_admits F.fd_Window_admits ["self", "arrival"] (spOf K (sp_Window_admits A))) : FnOk P w K mg base CX0 4 F.f_Pairing_arrivals_of F.fd_Pairing_arrivals_of ["self", "index"] (spOf K (sp_Pairing_arrivals_of A)) :=
  fn_e E sc_Pairing_arrivals_of (fun ds cs R Z h => by first | (obtain ⟨_, rfl, _⟩ := h; rfl) | (obtain ⟨_, _, rfl, _⟩ := h; rfl) | (obtain ⟨_, _, _, rfl, _⟩ := h; rfl) | (obtain ⟨_, _, _, _, rfl, _⟩ := h; rfl) | (obtain ⟨_, _, _, _, _, rfl, _⟩ := h; rfl) | (obtain ⟨_, _, _, _, _, _, rfl, _⟩ := h; rfl) | (obtain ⟨_, _, _, _, _, _, _, rfl, _⟩ := h; rfl) | (obtain ⟨_, _, _, _, _, _, _, _, rfl, _⟩ := h; rfl) | (obtain ⟨_, _, _, _, _, _, _, _, _, rfl, _⟩ := h; rfl) | (obtain ⟨_, _, _, _, _, _, _, _, _, _, rfl, _⟩ := h; rfl) | (obtain ⟨_, _, _, _, _, _, _, _, _, _, _, rfl, _⟩ := h; rfl)) (fun cdv B outer s H E hr => dv_Pairing_arrivals_of T O_Window_admits hr) pl_Pairing_arrivals_of
theorem ok_Pairing_windows_for (T : Txt K mg A F) (E : Fun K "windows_for" "Pairing.windows_for" s_Pairing_windows_for F.f_Pairing_windows_for F.fd_Pairing_windows_for) (O_Window_admits : FnOk P w K mg base CX0 3 F.f_Window_admits F.fd_Window_admits ["self", "arrival"] (spOf K (sp_Window_admits A))) : FnOk P w K mg base CX0 4 F.f_Pairing_windows_for F.fd_Pairing_windows_for ["self", "index"] (spOf K (sp_Pairing_windows_for A)) :=
  fn_e E sc_Pairing_windows_for (fun ds cs R Z h => by first | (obtain ⟨_, rfl, _⟩ := h; rfl) | (obtain ⟨_, _, rfl, _⟩ := h; rfl) | (obtain ⟨_, _, _, rfl, _⟩ := h; rfl) | (obtain ⟨_, _, _, _, rfl, _⟩ := h; rfl) | (obtain ⟨_, _, _, _, _, rfl, _⟩ := h; rfl) | (obtain ⟨_, _, _, _, _, _, rfl, _⟩ := h; rfl) | (obtain ⟨_, _, _, _, _, _, _, rfl, _⟩ := h; rfl) | (obtain ⟨_, _, _, _, _, _, _, _, rfl, _⟩ := h; rfl) | (obtain ⟨_, _, _, _, _, _, _, _, _, rfl, _⟩ := h; rfl) | (obtain ⟨_, _, _, _, _, _, _, _, _, _, rfl, _⟩ := h; rfl) | (obtain ⟨_, _, _, _, _, _, _, _, _, _, _, rfl, _⟩ := h; rfl)) (fun cdv B outer s H E hr => dv_Pairing_windows_for T O_Window_admits hr) pl_Pairing_windows_for
theorem ok_Pairing_pair (T : Txt K mg A F) (E : Fun K "pair" "Pairing.pair" s_Pairing_pair F.f_Pairing_pair F.fd_Pairing_pair)  : FnOk P w K mg base CX0 1 F.f_Pairing_pair F.fd_Pairing_pair ["self", "arrival", "window"] (spOf K (sp_Pairing_pair A)) :=
  fn_e E sc_Pairing_pair (fun ds cs R Z h => by first | (obtain ⟨_, rfl, _⟩ := h; rfl) | (obtain ⟨_, _, rfl, _⟩ := h; rfl) | (obtain ⟨_, _, _, rfl, _⟩ := h; rfl) | (obtain ⟨_, _, _, _, rfl, _⟩ := h; rfl) | (obtain ⟨_, _, _, _, _, rfl, _⟩ := h; rfl) | (obtain ⟨_, _, _, _, _, _, rfl, _⟩ := h; rfl) | (obtain ⟨_, _, _, _, _, _, _, rfl, _⟩ := h; rfl) | (obtain ⟨_, _, _, _, _, _, _, _, rfl, _⟩ := h; rfl) | (obtain ⟨_, _, _, _, _, _, _, _, _, rfl, _⟩ := h; rfl) | (obtain ⟨_, _, _, _, _, _, _, _, _, _, rfl, _⟩ := h; rfl) | (obtain ⟨_, _, _, _, _, _, _, _, _, _, _, rfl, _⟩ := h; rfl)) (fun cdv B outer s H E hr => dv_Pairing_pair T  hr) pl_Pairing_pair
theorem ok_Pairing_turn_windows (T : Txt K mg A F) (E : Fun K "turn_windows" "Pairing.turn_windows" s_Pairing_turn_windows F.f_Pairing_turn_windows F.fd_Pairing_turn_windows) (O_Pairing_pair : FnOk P w K mg base CX0 1 F.f_Pairing_pair F.fd_Pairing_pair ["self", "arrival", "window"] (spOf K (sp_Pairing_pair A))) : FnOk P w K mg base CX0 2 F.f_Pairing_turn_windows F.fd_Pairing_turn_windows ["self", "arrival", "came"] (spOf K (sp_Pairing_turn_windows A)) :=
  fn_e E sc_Pairing_turn_windows (fun ds cs R Z h => by first | (obtain ⟨_, rfl, _⟩ := h; rfl) | (obtain ⟨_, _, rfl, _⟩ := h; rfl) | (obtain ⟨_, _, _, rfl, _⟩ := h; rfl) | (obtain ⟨_, _, _, _, rfl, _⟩ := h; rfl) | (obtain ⟨_, _, _, _, _, rfl, _⟩ := h; rfl) | (obtain ⟨_, _, _, _, _, _, rfl, _⟩ := h; rfl) | (obtain ⟨_, _, _, _, _, _, _, rfl, _⟩ := h; rfl) | (obtain ⟨_, _, _, _, _, _, _, _, rfl, _⟩ := h; rfl) | (obtain ⟨_, _, _, _, _, _, _, _, _, rfl, _⟩ := h; rfl) | (obtain ⟨_, _, _, _, _, _, _, _, _, _, rfl, _⟩ := h; rfl) | (obtain ⟨_, _, _, _, _, _, _, _, _, _, _, rfl, _⟩ := h; rfl)) (fun cdv B outer s H E hr => dv_Pairing_turn_windows T O_Pairing_pair hr) pl_Pairing_turn_windows
theorem ok_Pairing_place_window (T : Txt K mg A F) (E : Fun K "place_window" "Pairing.place_window" s_Pairing_place_window F.f_Pairing_place_window F.fd_Pairing_place_window) (O_Pairing_arrivals_of : FnOk P w K mg base CX0 4 F.f_Pairing_arrivals_of F.fd_Pairing_arrivals_of ["self", "index"] (spOf K (sp_Pairing_arrivals_of A))) (O_Pairing_turn_windows : FnOk P w K mg base CX0 2 F.f_Pairing_turn_windows F.fd_Pairing_turn_windows ["self", "arrival", "came"] (spOf K (sp_Pairing_turn_windows A))) : FnOk P w K mg base CX0 5 F.f_Pairing_place_window F.fd_Pairing_place_window ["self", "index"] (spOf K (sp_Pairing_place_window A)) :=
  fn_e E sc_Pairing_place_window (fun ds cs R Z h => by first | (obtain ⟨_, rfl, _⟩ := h; rfl) | (obtain ⟨_, _, rfl, _⟩ := h; rfl) | (obtain ⟨_, _, _, rfl, _⟩ := h; rfl) | (obtain ⟨_, _, _, _, rfl, _⟩ := h; rfl) | (obtain ⟨_, _, _, _, _, rfl, _⟩ := h; rfl) | (obtain ⟨_, _, _, _, _, _, rfl, _⟩ := h; rfl) | (obtain ⟨_, _, _, _, _, _, _, rfl, _⟩ := h; rfl) | (obtain ⟨_, _, _, _, _, _, _, _, rfl, _⟩ := h; rfl) | (obtain ⟨_, _, _, _, _, _, _, _, _, rfl, _⟩ := h; rfl) | (obtain ⟨_, _, _, _, _, _, _, _, _, _, rfl, _⟩ := h; rfl) | (obtain ⟨_, _, _, _, _, _, _, _, _, _, _, rfl, _⟩ := h; rfl)) (fun cdv B outer s H E hr => dv_Pairing_place_window T O_Pairing_arrivals_of O_Pairing_turn_windows hr) pl_Pairing_place_window
theorem ok_Pairing_turn_arrivals (T : Txt K mg A F) (E : Fun K "turn_arrivals" "Pairing.turn_arrivals" s_Pairing_turn_arrivals F.f_Pairing_turn_arrivals F.fd_Pairing_turn_arrivals) (O_Pairing_pair : FnOk P w K mg base CX0 1 F.f_Pairing_pair F.fd_Pairing_pair ["self", "arrival", "window"] (spOf K (sp_Pairing_pair A))) : FnOk P w K mg base CX0 2 F.f_Pairing_turn_arrivals F.fd_Pairing_turn_arrivals ["self", "window", "came"] (spOf K (sp_Pairing_turn_arrivals A)) :=
  fn_e E sc_Pairing_turn_arrivals (fun ds cs R Z h => by first | (obtain ⟨_, rfl, _⟩ := h; rfl) | (obtain ⟨_, _, rfl, _⟩ := h; rfl) | (obtain ⟨_, _, _, rfl, _⟩ := h; rfl) | (obtain ⟨_, _, _, _, rfl, _⟩ := h; rfl) | (obtain ⟨_, _, _, _, _, rfl, _⟩ := h; rfl) | (obtain ⟨_, _, _, _, _, _, rfl, _⟩ := h; rfl) | (obtain ⟨_, _, _, _, _, _, _, rfl, _⟩ := h; rfl) | (obtain ⟨_, _, _, _, _, _, _, _, rfl, _⟩ := h; rfl) | (obtain ⟨_, _, _, _, _, _, _, _, _, rfl, _⟩ := h; rfl) | (obtain ⟨_, _, _, _, _, _, _, _, _, _, rfl, _⟩ := h; rfl) | (obtain ⟨_, _, _, _, _, _, _, _, _, _, _, rfl, _⟩ := h; rfl)) (fun cdv B outer s H E hr => dv_Pairing_turn_arrivals T O_Pairing_pair hr) pl_Pairing_turn_arrivals
theorem ok_Pairing_place_arrival (T : Txt K mg A F) (E : Fun K "place_arrival" "Pairing.place_arrival" s_Pairing_place_arrival F.f_Pairing_place_arrival F.fd_Pairing_place_arrival) (O_Pairing_windows_for : FnOk P w K mg base CX0 4 F.f_Pairing_windows_for F.fd_Pairing_windows_for ["self", "index"] (spOf K (sp_Pairing_windows_for A))) (O_Pairing_turn_arrivals : FnOk P w K mg base CX0 2 F.f_Pairing_turn_arrivals F.fd_Pairing_turn_arrivals ["self", "window", "came"] (spOf K (sp_Pairing_turn_arrivals A))) : FnOk P w K mg base CX0 5 F.f_Pairing_place_arrival F.fd_Pairing_place_arrival ["self", "index"] (spOf K (sp_Pairing_place_arrival A)) :=
  fn_e E sc_Pairing_place_arrival (fun ds cs R Z h => by first | (obtain ⟨_, rfl, _⟩ := h; rfl) | (obtain ⟨_, _, rfl, _⟩ := h; rfl) | (obtain ⟨_, _, _, rfl, _⟩ := h; rfl) | (obtain ⟨_, _, _, _, rfl, _⟩ := h; rfl) | (obtain ⟨_, _, _, _, _, rfl, _⟩ := h; rfl) | (obtain ⟨_, _, _, _, _, _, rfl, _⟩ := h; rfl) | (obtain ⟨_, _, _, _, _, _, _, rfl, _⟩ := h; rfl) | (obtain ⟨_, _, _, _, _, _, _, _, rfl, _⟩ := h; rfl) | (obtain ⟨_, _, _, _, _, _, _, _, _, rfl, _⟩ := h; rfl) | (obtain ⟨_, _, _, _, _, _, _, _, _, _, rfl, _⟩ := h; rfl) | (obtain ⟨_, _, _, _, _, _, _, _, _, _, _, rfl, _⟩ := h; rfl)) (fun cdv B outer s H E hr => dv_Pairing_place_arrival T O_Pairing_windows_for O_Pairing_turn_arrivals hr) pl_Pairing_place_arrival
theorem ok_Pairing_pairs (T : Txt K mg A F) (E : Fun K "pairs" "Pairing.pairs" s_Pairing_pairs F.f_Pairing_pairs F.fd_Pairing_pairs)  : FnOk P w K mg base CX0 1 F.f_Pairing_pairs F.fd_Pairing_pairs ["self"] (spOf K (sp_Pairing_pairs A)) :=
  fn_e E sc_Pairing_pairs (fun ds cs R Z h => by first | (obtain ⟨_, rfl, _⟩ := h; rfl) | (obtain ⟨_, _, rfl, _⟩ := h; rfl) | (obtain ⟨_, _, _, rfl, _⟩ := h; rfl) | (obtain ⟨_, _, _, _, rfl, _⟩ := h; rfl) | (obtain ⟨_, _, _, _, _, rfl, _⟩ := h; rfl) | (obtain ⟨_, _, _, _, _, _, rfl, _⟩ := h; rfl) | (obtain ⟨_, _, _, _, _, _, _, rfl, _⟩ := h; rfl) | (obtain ⟨_, _, _, _, _, _, _, _, rfl, _⟩ := h; rfl) | (obtain ⟨_, _, _, _, _, _, _, _, _, rfl, _⟩ := h; rfl) | (obtain ⟨_, _, _, _, _, _, _, _, _, _, rfl, _⟩ := h; rfl) | (obtain ⟨_, _, _, _, _, _, _, _, _, _, _, rfl, _⟩ := h; rfl)) (fun cdv B outer s H E hr => dv_Pairing_pairs T  hr) pl_Pairing_pairs
theorem ok_explained (T : Txt K mg A F) (E : Fun K "explained" "explained" s_explained F.f_explained F.fd_explained) (O_Pairing___init__ : FnOk P w K mg base CX0 3 F.f_Pairing___init__ F.fd_Pairing___init__ ["self", "windows", "arrivals"] (spOf K (sp_Pairing___init__ A))) (O_Window_must : FnOk P w K mg base CX0 1 F.f_Window_must F.fd_Window_must ["self"] (spOf K (sp_Window_must A))) (O_Pairing_place_window : FnOk P w K mg base CX0 5 F.f_Pairing_place_window F.fd_Pairing_place_window ["self", "index"] (spOf K (sp_Pairing_place_window A))) (O_Pairing_place_arrival : FnOk P w K mg base CX0 5 F.f_Pairing_place_arrival F.fd_Pairing_place_arrival ["self", "index"] (spOf K (sp_Pairing_place_arrival A))) (O_Pairing_pairs : FnOk P w K mg base CX0 1 F.f_Pairing_pairs F.fd_Pairing_pairs ["self"] (spOf K (sp_Pairing_pairs A))) : FnOk P w K mg base CX0 6 F.f_explained F.fd_explained ["windows", "arrivals"] (spOf K (sp_explained A)) :=
  fn_e E sc_explained (fun ds cs R Z h => by first | (obtain ⟨_, rfl, _⟩ := h; rfl) | (obtain ⟨_, _, rfl, _⟩ := h; rfl) | (obtain ⟨_, _, _, rfl, _⟩ := h; rfl) | (obtain ⟨_, _, _, _, rfl, _⟩ := h; rfl) | (obtain ⟨_, _, _, _, _, rfl, _⟩ := h; rfl) | (obtain ⟨_, _, _, _, _, _, rfl, _⟩ := h; rfl) | (obtain ⟨_, _, _, _, _, _, _, rfl, _⟩ := h; rfl) | (obtain ⟨_, _, _, _, _, _, _, _, rfl, _⟩ := h; rfl) | (obtain ⟨_, _, _, _, _, _, _, _, _, rfl, _⟩ := h; rfl) | (obtain ⟨_, _, _, _, _, _, _, _, _, _, rfl, _⟩ := h; rfl) | (obtain ⟨_, _, _, _, _, _, _, _, _, _, _, rfl, _⟩ := h; rfl)) (fun cdv B outer s H E hr => dv_explained T O_Pairing___init__ O_Window_must O_Pairing_place_window O_Pairing_place_arrival O_Pairing_pairs hr) pl_explained
theorem ok_most_explained (T : Txt K mg A F) (E : Fun K "most_explained" "most_explained" s_most_explained F.f_most_explained F.fd_most_explained) (O_Pairing___init__ : FnOk P w K mg base CX0 3 F.f_Pairing___init__ F.fd_Pairing___init__ ["self", "windows", "arrivals"] (spOf K (sp_Pairing___init__ A))) (O_Pairing_place_arrival : FnOk P w K mg base CX0 5 F.f_Pairing_place_arrival F.fd_Pairing_place_arrival ["self", "index"] (spOf K (sp_Pairing_place_arrival A))) (O_Pairing_windows_for : FnOk P w K mg base CX0 4 F.f_Pairing_windows_for F.fd_Pairing_windows_for ["self", "index"] (spOf K (sp_Pairing_windows_for A))) (O_Pairing_pairs : FnOk P w K mg base CX0 1 F.f_Pairing_pairs F.fd_Pairing_pairs ["self"] (spOf K (sp_Pairing_pairs A))) : FnOk P w K mg base CX0 6 F.f_most_explained F.fd_most_explained ["windows", "arrivals"] (spOf K (sp_most_explained A)) :=
  fn_e E sc_most_explained (fun ds cs R Z h => by first | (obtain ⟨_, rfl, _⟩ := h; rfl) | (obtain ⟨_, _, rfl, _⟩ := h; rfl) | (obtain ⟨_, _, _, rfl, _⟩ := h; rfl) | (obtain ⟨_, _, _, _, rfl, _⟩ := h; rfl) | (obtain ⟨_, _, _, _, _, rfl, _⟩ := h; rfl) | (obtain ⟨_, _, _, _, _, _, rfl, _⟩ := h; rfl) | (obtain ⟨_, _, _, _, _, _, _, rfl, _⟩ := h; rfl) | (obtain ⟨_, _, _, _, _, _, _, _, rfl, _⟩ := h; rfl) | (obtain ⟨_, _, _, _, _, _, _, _, _, rfl, _⟩ := h; rfl) | (obtain ⟨_, _, _, _, _, _, _, _, _, _, rfl, _⟩ := h; rfl) | (obtain ⟨_, _, _, _, _, _, _, _, _, _, _, rfl, _⟩ := h; rfl)) (fun cdv B outer s H E hr => dv_most_explained T O_Pairing___init__ O_Pairing_place_arrival O_Pairing_windows_for O_Pairing_pairs hr) pl_most_explained
theorem ok__law_cell (T : Txt K mg A F) (E : Fun K "_law_cell" "_law_cell" s__law_cell F.f__law_cell F.fd__law_cell)  : FnOk P w K mg base CX0 1 F.f__law_cell F.fd__law_cell ["_law_script", "_law_k"] (spOf K (sp__law_cell A)) :=
  fn_e E sc__law_cell (fun ds cs R Z h => by first | (obtain ⟨_, rfl, _⟩ := h; rfl) | (obtain ⟨_, _, rfl, _⟩ := h; rfl) | (obtain ⟨_, _, _, rfl, _⟩ := h; rfl) | (obtain ⟨_, _, _, _, rfl, _⟩ := h; rfl) | (obtain ⟨_, _, _, _, _, rfl, _⟩ := h; rfl) | (obtain ⟨_, _, _, _, _, _, rfl, _⟩ := h; rfl) | (obtain ⟨_, _, _, _, _, _, _, rfl, _⟩ := h; rfl) | (obtain ⟨_, _, _, _, _, _, _, _, rfl, _⟩ := h; rfl) | (obtain ⟨_, _, _, _, _, _, _, _, _, rfl, _⟩ := h; rfl) | (obtain ⟨_, _, _, _, _, _, _, _, _, _, rfl, _⟩ := h; rfl) | (obtain ⟨_, _, _, _, _, _, _, _, _, _, _, rfl, _⟩ := h; rfl)) (fun cdv B outer s H E hr => dv__law_cell T  hr) pl__law_cell
theorem ok__law_box (T : Txt K mg A F) (E : Fun K "_law_box" "_law_box" s__law_box F.f__law_box F.fd__law_box)  : FnOk P w K mg base CX0 1 F.f__law_box F.fd__law_box ["_law_cell_here"] (spOf K (sp__law_box A)) :=
  fn_e E sc__law_box (fun ds cs R Z h => by first | (obtain ⟨_, rfl, _⟩ := h; rfl) | (obtain ⟨_, _, rfl, _⟩ := h; rfl) | (obtain ⟨_, _, _, rfl, _⟩ := h; rfl) | (obtain ⟨_, _, _, _, rfl, _⟩ := h; rfl) | (obtain ⟨_, _, _, _, _, rfl, _⟩ := h; rfl) | (obtain ⟨_, _, _, _, _, _, rfl, _⟩ := h; rfl) | (obtain ⟨_, _, _, _, _, _, _, rfl, _⟩ := h; rfl) | (obtain ⟨_, _, _, _, _, _, _, _, rfl, _⟩ := h; rfl) | (obtain ⟨_, _, _, _, _, _, _, _, _, rfl, _⟩ := h; rfl) | (obtain ⟨_, _, _, _, _, _, _, _, _, _, rfl, _⟩ := h; rfl) | (obtain ⟨_, _, _, _, _, _, _, _, _, _, _, rfl, _⟩ := h; rfl)) (fun cdv B outer s H E hr => dv__law_box T  hr) pl__law_box
theorem ok__law_take (T : Txt K mg A F) (E : Fun K "_law_take" "_law_take" s__law_take F.f__law_take F.fd__law_take)  : FnOk P w K mg base CX0 1 F.f__law_take F.fd__law_take ["_law_box_here", "_law_many"] (spOf K (sp__law_take A)) :=
  fn_e E sc__law_take (fun ds cs R Z h => by first | (obtain ⟨_, rfl, _⟩ := h; rfl) | (obtain ⟨_, _, rfl, _⟩ := h; rfl) | (obtain ⟨_, _, _, rfl, _⟩ := h; rfl) | (obtain ⟨_, _, _, _, rfl, _⟩ := h; rfl) | (obtain ⟨_, _, _, _, _, rfl, _⟩ := h; rfl) | (obtain ⟨_, _, _, _, _, _, rfl, _⟩ := h; rfl) | (obtain ⟨_, _, _, _, _, _, _, rfl, _⟩ := h; rfl) | (obtain ⟨_, _, _, _, _, _, _, _, rfl, _⟩ := h; rfl) | (obtain ⟨_, _, _, _, _, _, _, _, _, rfl, _⟩ := h; rfl) | (obtain ⟨_, _, _, _, _, _, _, _, _, _, rfl, _⟩ := h; rfl) | (obtain ⟨_, _, _, _, _, _, _, _, _, _, _, rfl, _⟩ := h; rfl)) (fun cdv B outer s H E hr => dv__law_take T  hr) pl__law_take
theorem ok__law_admits (T : Txt K mg A F) (E : Fun K "_law_admits" "_law_admits" s__law_admits F.f__law_admits F.fd__law_admits)  : FnOk P w K mg base CX0 1 F.f__law_admits F.fd__law_admits ["_law_window", "_law_arrival"] (spOf K (sp__law_admits A)) :=
  fn_e E sc__law_admits (fun ds cs R Z h => by first | (obtain ⟨_, rfl, _⟩ := h; rfl) | (obtain ⟨_, _, rfl, _⟩ := h; rfl) | (obtain ⟨_, _, _, rfl, _⟩ := h; rfl) | (obtain ⟨_, _, _, _, rfl, _⟩ := h; rfl) | (obtain ⟨_, _, _, _, _, rfl, _⟩ := h; rfl) | (obtain ⟨_, _, _, _, _, _, rfl, _⟩ := h; rfl) | (obtain ⟨_, _, _, _, _, _, _, rfl, _⟩ := h; rfl) | (obtain ⟨_, _, _, _, _, _, _, _, rfl, _⟩ := h; rfl) | (obtain ⟨_, _, _, _, _, _, _, _, _, rfl, _⟩ := h; rfl) | (obtain ⟨_, _, _, _, _, _, _, _, _, _, rfl, _⟩ := h; rfl) | (obtain ⟨_, _, _, _, _, _, _, _, _, _, _, rfl, _⟩ := h; rfl)) (fun cdv B outer s H E hr => dv__law_admits T  hr) pl__law_admits
theorem ok__law_made (T : Txt K mg A F) (E : Fun K "_law_made" "_law_made" s__law_made F.f__law_made F.fd__law_made) (O_Window___init__ : FnOk P w K mg base CX0 2 F.f_Window___init__ F.fd_Window___init__ ["self", "first", "last", "must", "label"] (spOf K (sp_Window___init__ A))) : FnOk P w K mg base CX0 4 F.f__law_made F.fd__law_made ["_law_windows"] (spOf K (sp__law_made A)) :=
  fn_e E sc__law_made (fun ds cs R Z h => by first | (obtain ⟨_, rfl, _⟩ := h; rfl) | (obtain ⟨_, _, rfl, _⟩ := h; rfl) | (obtain ⟨_, _, _, rfl, _⟩ := h; rfl) | (obtain ⟨_, _, _, _, rfl, _⟩ := h; rfl) | (obtain ⟨_, _, _, _, _, rfl, _⟩ := h; rfl) | (obtain ⟨_, _, _, _, _, _, rfl, _⟩ := h; rfl) | (obtain ⟨_, _, _, _, _, _, _, rfl, _⟩ := h; rfl) | (obtain ⟨_, _, _, _, _, _, _, _, rfl, _⟩ := h; rfl) | (obtain ⟨_, _, _, _, _, _, _, _, _, rfl, _⟩ := h; rfl) | (obtain ⟨_, _, _, _, _, _, _, _, _, _, rfl, _⟩ := h; rfl) | (obtain ⟨_, _, _, _, _, _, _, _, _, _, _, rfl, _⟩ := h; rfl)) (fun cdv B outer s H E hr => dv__law_made T O_Window___init__ hr) pl__law_made
theorem ok__law_are_pairs (T : Txt K mg A F) (E : Fun K "_law_are_pairs" "_law_are_pairs" s__law_are_pairs F.f__law_are_pairs F.fd__law_are_pairs) (O__law_admits : FnOk P w K mg base CX0 1 F.f__law_admits F.fd__law_admits ["_law_window", "_law_arrival"] (spOf K (sp__law_admits A))) : FnOk P w K mg base CX0 2 F.f__law_are_pairs F.fd__law_are_pairs ["_law_windows", "_law_arrivals", "_law_pairs"] (spOf K (sp__law_are_pairs A)) :=
  fn_e E sc__law_are_pairs (fun ds cs R Z h => by first | (obtain ⟨_, rfl, _⟩ := h; rfl) | (obtain ⟨_, _, rfl, _⟩ := h; rfl) | (obtain ⟨_, _, _, rfl, _⟩ := h; rfl) | (obtain ⟨_, _, _, _, rfl, _⟩ := h; rfl) | (obtain ⟨_, _, _, _, _, rfl, _⟩ := h; rfl) | (obtain ⟨_, _, _, _, _, _, rfl, _⟩ := h; rfl) | (obtain ⟨_, _, _, _, _, _, _, rfl, _⟩ := h; rfl) | (obtain ⟨_, _, _, _, _, _, _, _, rfl, _⟩ := h; rfl) | (obtain ⟨_, _, _, _, _, _, _, _, _, rfl, _⟩ := h; rfl) | (obtain ⟨_, _, _, _, _, _, _, _, _, _, rfl, _⟩ := h; rfl) | (obtain ⟨_, _, _, _, _, _, _, _, _, _, _, rfl, _⟩ := h; rfl)) (fun cdv B outer s H E hr => dv__law_are_pairs T O__law_admits hr) pl__law_are_pairs
theorem ok__law_is_explanation (T : Txt K mg A F) (E : Fun K "_law_is_explanation" "_law_is_explanation" s__law_is_explanation F.f__law_is_explanation F.fd__law_is_explanation) (O__law_are_pairs : FnOk P w K mg base CX0 2 F.f__law_are_pairs F.fd__law_are_pairs ["_law_windows", "_law_arrivals", "_law_pairs"] (spOf K (sp__law_are_pairs A))) : FnOk P w K mg base CX0 3 F.f__law_is_explanation F.fd__law_is_explanation ["_law_windows", "_law_arrivals", "_law_pairs"] (spOf K (sp__law_is_explanation A)) :=
  fn_e E sc__law_is_explanation (fun ds cs R Z h => by first | (obtain ⟨_, rfl, _⟩ := h; rfl) | (obtain ⟨_, _, rfl, _⟩ := h; rfl) | (obtain ⟨_, _, _, rfl, _⟩ := h; rfl) | (obtain ⟨_, _, _, _, rfl, _⟩ := h; rfl) | (obtain ⟨_, _, _, _, _, rfl, _⟩ := h; rfl) | (obtain ⟨_, _, _, _, _, _, rfl, _⟩ := h; rfl) | (obtain ⟨_, _, _, _, _, _, _, rfl, _⟩ := h; rfl) | (obtain ⟨_, _, _, _, _, _, _, _, rfl, _⟩ := h; rfl) | (obtain ⟨_, _, _, _, _, _, _, _, _, rfl, _⟩ := h; rfl) | (obtain ⟨_, _, _, _, _, _, _, _, _, _, rfl, _⟩ := h; rfl) | (obtain ⟨_, _, _, _, _, _, _, _, _, _, _, rfl, _⟩ := h; rfl)) (fun cdv B outer s H E hr => dv__law_is_explanation T O__law_are_pairs hr) pl__law_is_explanation
theorem ok__law_are_indexes (T : Txt K mg A F) (E : Fun K "_law_are_indexes" "_law_are_indexes" s__law_are_indexes F.f__law_are_indexes F.fd__law_are_indexes)  : FnOk P w K mg base CX0 1 F.f__law_are_indexes F.fd__law_are_indexes ["_law_value", "_law_size"] (spOf K (sp__law_are_indexes A)) :=
  fn_e E sc__law_are_indexes (fun ds cs R Z h => by first | (obtain ⟨_, rfl, _⟩ := h; rfl) | (obtain ⟨_, _, rfl, _⟩ := h; rfl) | (obtain ⟨_, _, _, rfl, _⟩ := h; rfl) | (obtain ⟨_, _, _, _, rfl, _⟩ := h; rfl) | (obtain ⟨_, _, _, _, _, rfl, _⟩ := h; rfl) | (obtain ⟨_, _, _, _, _, _, rfl, _⟩ := h; rfl) | (obtain ⟨_, _, _, _, _, _, _, rfl, _⟩ := h; rfl) | (obtain ⟨_, _, _, _, _, _, _, _, rfl, _⟩ := h; rfl) | (obtain ⟨_, _, _, _, _, _, _, _, _, rfl, _⟩ := h; rfl) | (obtain ⟨_, _, _, _, _, _, _, _, _, _, rfl, _⟩ := h; rfl) | (obtain ⟨_, _, _, _, _, _, _, _, _, _, _, rfl, _⟩ := h; rfl)) (fun cdv B outer s H E hr => dv__law_are_indexes T  hr) pl__law_are_indexes
theorem ok__law_shows_missing (T : Txt K mg A F) (E : Fun K "_law_shows_missing" "_law_shows_missing" s__law_shows_missing F.f__law_shows_missing F.fd__law_shows_missing) (O__law_are_indexes : FnOk P w K mg base CX0 1 F.f__law_are_indexes F.fd__law_are_indexes ["_law_value", "_law_size"] (spOf K (sp__law_are_indexes A))) (O__law_admits : FnOk P w K mg base CX0 1 F.f__law_admits F.fd__law_admits ["_law_window", "_law_arrival"] (spOf K (sp__law_admits A))) : FnOk P w K mg base CX0 2 F.f__law_shows_missing F.fd__law_shows_missing ["_law_windows", "_law_arrivals", "_law_indexes"] (spOf K (sp__law_shows_missing A)) :=
  fn_e E sc__law_shows_missing (fun ds cs R Z h => by first | (obtain ⟨_, rfl, _⟩ := h; rfl) | (obtain ⟨_, _, rfl, _⟩ := h; rfl) | (obtain ⟨_, _, _, rfl, _⟩ := h; rfl) | (obtain ⟨_, _, _, _, rfl, _⟩ := h; rfl) | (obtain ⟨_, _, _, _, _, rfl, _⟩ := h; rfl) | (obtain ⟨_, _, _, _, _, _, rfl, _⟩ := h; rfl) | (obtain ⟨_, _, _, _, _, _, _, rfl, _⟩ := h; rfl) | (obtain ⟨_, _, _, _, _, _, _, _, rfl, _⟩ := h; rfl) | (obtain ⟨_, _, _, _, _, _, _, _, _, rfl, _⟩ := h; rfl) | (obtain ⟨_, _, _, _, _, _, _, _, _, _, rfl, _⟩ := h; rfl) | (obtain ⟨_, _, _, _, _, _, _, _, _, _, _, rfl, _⟩ := h; rfl)) (fun cdv B outer s H E hr => dv__law_shows_missing T O__law_are_indexes O__law_admits hr) pl__law_shows_missing
theorem ok__law_shows_too_many (T : Txt K mg A F) (E : Fun K "_law_shows_too_many" "_law_shows_too_many" s__law_shows_too_many F.f__law_shows_too_many F.fd__law_shows_too_many) (O__law_are_indexes : FnOk P w K mg base CX0 1 F.f__law_are_indexes F.fd__law_are_indexes ["_law_value", "_law_size"] (spOf K (sp__law_are_indexes A))) (O__law_admits : FnOk P w K mg base CX0 1 F.f__law_admits F.fd__law_admits ["_law_window", "_law_arrival"] (spOf K (sp__law_admits A))) : FnOk P w K mg base CX0 2 F.f__law_shows_too_many F.fd__law_shows_too_many ["_law_windows", "_law_arrivals", "_law_indexes"] (spOf K (sp__law_shows_too_many A)) :=
  fn_e E sc__law_shows_too_many (fun ds cs R Z h => by first | (obtain ⟨_, rfl, _⟩ := h; rfl) | (obtain ⟨_, _, rfl, _⟩ := h; rfl) | (obtain ⟨_, _, _, rfl, _⟩ := h; rfl) | (obtain ⟨_, _, _, _, rfl, _⟩ := h; rfl) | (obtain ⟨_, _, _, _, _, rfl, _⟩ := h; rfl) | (obtain ⟨_, _, _, _, _, _, rfl, _⟩ := h; rfl) | (obtain ⟨_, _, _, _, _, _, _, rfl, _⟩ := h; rfl) | (obtain ⟨_, _, _, _, _, _, _, _, rfl, _⟩ := h; rfl) | (obtain ⟨_, _, _, _, _, _, _, _, _, rfl, _⟩ := h; rfl) | (obtain ⟨_, _, _, _, _, _, _, _, _, _, rfl, _⟩ := h; rfl) | (obtain ⟨_, _, _, _, _, _, _, _, _, _, _, rfl, _⟩ := h; rfl)) (fun cdv B outer s H E hr => dv__law_shows_too_many T O__law_are_indexes O__law_admits hr) pl__law_shows_too_many
theorem ok__law_mixed (T : Txt K mg A F) (E : Fun K "_law_mixed" "_law_mixed" s__law_mixed F.f__law_mixed F.fd__law_mixed) (O__law_take : FnOk P w K mg base CX0 1 F.f__law_take F.fd__law_take ["_law_box_here", "_law_many"] (spOf K (sp__law_take A))) : FnOk P w K mg base CX0 2 F.f__law_mixed F.fd__law_mixed ["_law_box_here", "_law_some"] (spOf K (sp__law_mixed A)) :=
  fn_e E sc__law_mixed (fun ds cs R Z h => by first | (obtain ⟨_, rfl, _⟩ := h; rfl) | (obtain ⟨_, _, rfl, _⟩ := h; rfl) | (obtain ⟨_, _, _, rfl, _⟩ := h; rfl) | (obtain ⟨_, _, _, _, rfl, _⟩ := h; rfl) | (obtain ⟨_, _, _, _, _, rfl, _⟩ := h; rfl) | (obtain ⟨_, _, _, _, _, _, rfl, _⟩ := h; rfl) | (obtain ⟨_, _, _, _, _, _, _, rfl, _⟩ := h; rfl) | (obtain ⟨_, _, _, _, _, _, _, _, rfl, _⟩ := h; rfl) | (obtain ⟨_, _, _, _, _, _, _, _, _, rfl, _⟩ := h; rfl) | (obtain ⟨_, _, _, _, _, _, _, _, _, _, rfl, _⟩ := h; rfl) | (obtain ⟨_, _, _, _, _, _, _, _, _, _, _, rfl, _⟩ := h; rfl)) (fun cdv B outer s H E hr => dv__law_mixed T O__law_take hr) pl__law_mixed
theorem ok__law_planted (T : Txt K mg A F) (E : Fun K "_law_planted" "_law_planted" s__law_planted F.f__law_planted F.fd__law_planted) (O__law_take : FnOk P w K mg base CX0 1 F.f__law_take F.fd__law_take ["_law_box_here", "_law_many"] (spOf K (sp__law_take A))) (O__law_mixed : FnOk P w K mg base CX0 2 F.f__law_mixed F.fd__law_mixed ["_law_box_here", "_law_some"] (spOf K (sp__law_mixed A))) : FnOk P w K mg base CX0 3 F.f__law_planted F.fd__law_planted ["_law_box_here"] (spOf K (sp__law_planted A)) :=
  fn_e E sc__law_planted (fun ds cs R Z h => by first | (obtain ⟨_, rfl, _⟩ := h; rfl) | (obtain ⟨_, _, rfl, _⟩ := h; rfl) | (obtain ⟨_, _, _, rfl, _⟩ := h; rfl) | (obtain ⟨_, _, _, _, rfl, _⟩ := h; rfl) | (obtain ⟨_, _, _, _, _, rfl, _⟩ := h; rfl) | (obtain ⟨_, _, _, _, _, _, rfl, _⟩ := h; rfl) | (obtain ⟨_, _, _, _, _, _, _, rfl, _⟩ := h; rfl) | (obtain ⟨_, _, _, _, _, _, _, _, rfl, _⟩ := h; rfl) | (obtain ⟨_, _, _, _, _, _, _, _, _, rfl, _⟩ := h; rfl) | (obtain ⟨_, _, _, _, _, _, _, _, _, _, rfl, _⟩ := h; rfl) | (obtain ⟨_, _, _, _, _, _, _, _, _, _, _, rfl, _⟩ := h; rfl)) (fun cdv B outer s H E hr => dv__law_planted T O__law_take O__law_mixed hr) pl__law_planted
theorem ok__law_alone_right (T : Txt K mg A F) (E : Fun K "_law_alone_right" "_law_alone_right" s__law_alone_right F.f__law_alone_right F.fd__law_alone_right) (O__law_take : FnOk P w K mg base CX0 1 F.f__law_take F.fd__law_take ["_law_box_here", "_law_many"] (spOf K (sp__law_take A))) (O_explained : FnOk P w K mg base CX0 6 F.f_explained F.fd_explained ["windows", "arrivals"] (spOf K (sp_explained A))) (O__law_made : FnOk P w K mg base CX0 4 F.f__law_made F.fd__law_made ["_law_windows"] (spOf K (sp__law_made A))) (O__law_shows_missing : FnOk P w K mg base CX0 2 F.f__law_shows_missing F.fd__law_shows_missing ["_law_windows", "_law_arrivals", "_law_indexes"] (spOf K (sp__law_shows_missing A))) (O__law_shows_too_many : FnOk P w K mg base CX0 2 F.f__law_shows_too_many F.fd__law_shows_too_many ["_law_windows", "_law_arrivals", "_law_indexes"] (spOf K (sp__law_shows_too_many A))) (O_most_explained : FnOk P w K mg base CX0 6 F.f_most_explained F.fd_most_explained ["windows", "arrivals"] (spOf K (sp_most_explained A))) : FnOk P w K mg base CX0 7 F.f__law_alone_right F.fd__law_alone_right ["_law_box_here", "_law_windows", "_law_arrivals"] (spOf K (sp__law_alone_right A)) :=
  fn_e E sc__law_alone_right (fun ds cs R Z h => by first | (obtain ⟨_, rfl, _⟩ := h; rfl) | (obtain ⟨_, _, rfl, _⟩ := h; rfl) | (obtain ⟨_, _, _, rfl, _⟩ := h; rfl) | (obtain ⟨_, _, _, _, rfl, _⟩ := h; rfl) | (obtain ⟨_, _, _, _, _, rfl, _⟩ := h; rfl) | (obtain ⟨_, _, _, _, _, _, rfl, _⟩ := h; rfl) | (obtain ⟨_, _, _, _, _, _, _, rfl, _⟩ := h; rfl) | (obtain ⟨_, _, _, _, _, _, _, _, rfl, _⟩ := h; rfl) | (obtain ⟨_, _, _, _, _, _, _, _, _, rfl, _⟩ := h; rfl) | (obtain ⟨_, _, _, _, _, _, _, _, _, _, rfl, _⟩ := h; rfl) | (obtain ⟨_, _, _, _, _, _, _, _, _, _, _, rfl, _⟩ := h; rfl)) (fun cdv B outer s H E hr => dv__law_alone_right T O__law_take O_explained O__law_made O__law_shows_missing O__law_shows_too_many O_most_explained hr) pl__law_alone_right
theorem ok_law (T : Txt K mg A F) (E : Fun K "law" "law" s_law F.f_law F.fd_law) (O__law_box : FnOk P w K mg base CX0 1 F.f__law_box F.fd__law_box ["_law_cell_here"] (spOf K (sp__law_box A))) (O__law_cell : FnOk P w K mg base CX0 1 F.f__law_cell F.fd__law_cell ["_law_script", "_law_k"] (spOf K (sp__law_cell A))) (O__law_planted : FnOk P w K mg base CX0 3 F.f__law_planted F.fd__law_planted ["_law_box_here"] (spOf K (sp__law_planted A))) (O_explained : FnOk P w K mg base CX0 6 F.f_explained F.fd_explained ["windows", "arrivals"] (spOf K (sp_explained A))) (O__law_made : FnOk P w K mg base CX0 4 F.f__law_made F.fd__law_made ["_law_windows"] (spOf K (sp__law_made A))) (O__law_is_explanation : FnOk P w K mg base CX0 3 F.f__law_is_explanation F.fd__law_is_explanation ["_law_windows", "_law_arrivals", "_law_pairs"] (spOf K (sp__law_is_explanation A))) (O_most_explained : FnOk P w K mg base CX0 6 F.f_most_explained F.fd_most_explained ["windows", "arrivals"] (spOf K (sp_most_explained A))) (O__law_alone_right : FnOk P w K mg base CX0 7 F.f__law_alone_right F.fd__law_alone_right ["_law_box_here", "_law_windows", "_law_arrivals"] (spOf K (sp__law_alone_right A))) : FnOk P w K mg base CX0 8 F.f_law F.fd_law ["_law_script"] (spOf K (sp_law A)) :=
  fn_e E sc_law (fun ds cs R Z h => by first | (obtain ⟨_, rfl, _⟩ := h; rfl) | (obtain ⟨_, _, rfl, _⟩ := h; rfl) | (obtain ⟨_, _, _, rfl, _⟩ := h; rfl) | (obtain ⟨_, _, _, _, rfl, _⟩ := h; rfl) | (obtain ⟨_, _, _, _, _, rfl, _⟩ := h; rfl) | (obtain ⟨_, _, _, _, _, _, rfl, _⟩ := h; rfl) | (obtain ⟨_, _, _, _, _, _, _, rfl, _⟩ := h; rfl) | (obtain ⟨_, _, _, _, _, _, _, _, rfl, _⟩ := h; rfl) | (obtain ⟨_, _, _, _, _, _, _, _, _, rfl, _⟩ := h; rfl) | (obtain ⟨_, _, _, _, _, _, _, _, _, _, rfl, _⟩ := h; rfl) | (obtain ⟨_, _, _, _, _, _, _, _, _, _, _, rfl, _⟩ := h; rfl)) (fun cdv B outer s H E hr => dv_law T O__law_box O__law_cell O__law_planted O_explained O__law_made O__law_is_explanation O_most_explained O__law_alone_right hr) pl_law
theorem all_ok (T : Txt K mg A F) (E_is_integer : Fun K "is_integer" "is_integer" s_is_integer F.f_is_integer F.fd_is_integer) (E_is_list : Fun K "is_list" "is_list" s_is_list F.f_is_list F.fd_is_list) (E_is_arrival : Fun K "is_arrival" "is_arrival" s_is_arrival F.f_is_arrival F.fd_is_arrival) (E_Window___init__ : Fun K "__init__" "Window.__init__" s_Window___init__ F.f_Window___init__ F.fd_Window___init__) (E_Window___contains__ : Fun K "__contains__" "Window.__contains__" s_Window___contains__ F.f_Window___contains__ F.fd_Window___contains__) (E_Window_must : Fun K "must" "Window.must" s_Window_must F.f_Window_must F.fd_Window_must) (E_Window_admits : Fun K "admits" "Window.admits" s_Window_admits F.f_Window_admits F.fd_Window_admits) (E_check_lists : Fun K "check_lists" "check_lists" s_check_lists F.f_check_lists F.fd_check_lists) (E_Pairing___init__ : Fun K "__init__" "Pairing.__init__" s_Pairing___init__ F.f_Pairing___init__ F.fd_Pairing___init__) (E_Pairing_arrivals_of : Fun K "arrivals_of" "Pairing.arrivals_of" s_Pairing_arrivals_of F.f_Pairing_arrivals_of F.fd_Pairing_arrivals_of) (E_Pairing_windows_for : Fun K "windows_for" "Pairing.windows_for" s_Pairing_windows_for F.f_Pairing_windows_for F.fd_Pairing_windows_for) (E_Pairing_pair : Fun K "pair" "Pairing.pair" s_Pairing_pair F.f_Pairing_pair F.fd_Pairing_pair) (E_Pairing_turn_windows : Fun K "turn_windows" "Pairing.turn_windows" s_Pairing_turn_windows F.f_Pairing_turn_windows F.fd_Pairing_turn_windows) (E_Pairing_place_window : Fun K "place_window" "Pairing.place_window" s_Pairing_place_window F.f_Pairing_place_window F.fd_Pairing_place_window) (E_Pairing_turn_arrivals : Fun K "turn_arrivals" "Pairing.turn_arrivals" s_Pairing_turn_arrivals F.f_Pairing_turn_arrivals F.fd_Pairing_turn_arrivals) (E_Pairing_place_arrival : Fun K "place_arrival" "Pairing.place_arrival" s_Pairing_place_arrival F.f_Pairing_place_arrival F.fd_Pairing_place_arrival) (E_Pairing_pairs : Fun K "pairs" "Pairing.pairs" s_Pairing_pairs F.f_Pairing_pairs F.fd_Pairing_pairs) (E_explained : Fun K "explained" "explained" s_explained F.f_explained F.fd_explained) (E_most_explained : Fun K "most_explained" "most_explained" s_most_explained F.f_most_explained F.fd_most_explained) (E__law_cell : Fun K "_law_cell" "_law_cell" s__law_cell F.f__law_cell F.fd__law_cell) (E__law_box : Fun K "_law_box" "_law_box" s__law_box F.f__law_box F.fd__law_box) (E__law_take : Fun K "_law_take" "_law_take" s__law_take F.f__law_take F.fd__law_take) (E__law_admits : Fun K "_law_admits" "_law_admits" s__law_admits F.f__law_admits F.fd__law_admits) (E__law_made : Fun K "_law_made" "_law_made" s__law_made F.f__law_made F.fd__law_made) (E__law_are_pairs : Fun K "_law_are_pairs" "_law_are_pairs" s__law_are_pairs F.f__law_are_pairs F.fd__law_are_pairs) (E__law_is_explanation : Fun K "_law_is_explanation" "_law_is_explanation" s__law_is_explanation F.f__law_is_explanation F.fd__law_is_explanation) (E__law_are_indexes : Fun K "_law_are_indexes" "_law_are_indexes" s__law_are_indexes F.f__law_are_indexes F.fd__law_are_indexes) (E__law_shows_missing : Fun K "_law_shows_missing" "_law_shows_missing" s__law_shows_missing F.f__law_shows_missing F.fd__law_shows_missing) (E__law_shows_too_many : Fun K "_law_shows_too_many" "_law_shows_too_many" s__law_shows_too_many F.f__law_shows_too_many F.fd__law_shows_too_many) (E__law_mixed : Fun K "_law_mixed" "_law_mixed" s__law_mixed F.f__law_mixed F.fd__law_mixed) (E__law_planted : Fun K "_law_planted" "_law_planted" s__law_planted F.f__law_planted F.fd__law_planted) (E__law_alone_right : Fun K "_law_alone_right" "_law_alone_right" s__law_alone_right F.f__law_alone_right F.fd__law_alone_right) (E_law : Fun K "law" "law" s_law F.f_law F.fd_law) : FnOk P w K mg base CX0 8 F.f_law F.fd_law ["_law_script"] (spOf K (sp_law A)) := by
  have O_is_integer := ok_is_integer (P := P) (w := w) (base := base) T E_is_integer 
  have O_is_list := ok_is_list (P := P) (w := w) (base := base) T E_is_list 
  have O_is_arrival := ok_is_arrival (P := P) (w := w) (base := base) T E_is_arrival 
  have O_Window___init__ := ok_Window___init__ (P := P) (w := w) (base := base) T E_Window___init__ O_is_integer
  have O_Window___contains__ := ok_Window___contains__ (P := P) (w := w) (base := base) T E_Window___contains__ O_is_integer
  have O_Window_must := ok_Window_must (P := P) (w := w) (base := base) T E_Window_must 
  have O_Window_admits := ok_Window_admits (P := P) (w := w) (base := base) T E_Window_admits O_is_arrival O_Window___contains__
  have O_check_lists := ok_check_lists (P := P) (w := w) (base := base) T E_check_lists O_is_list O_is_arrival
  have O_Pairing___init__ := ok_Pairing___init__ (P := P) (w := w) (base := base) T E_Pairing___init__ O_check_lists
  have O_Pairing_arrivals_of := ok_Pairing_arrivals_of (P := P) (w := w) (base := base) T E_Pairing_arrivals_of O_Window_admits
  have O_Pairing_windows_for := ok_Pairing_windows_for (P := P) (w := w) (base := base) T E_Pairing_windows_for O_Window_admits
  have O_Pairing_pair := ok_Pairing_pair (P := P) (w := w) (base := base) T E_Pairing_pair 
  have O_Pairing_turn_windows := ok_Pairing_turn_windows (P := P) (w := w) (base := base) T E_Pairing_turn_windows O_Pairing_pair
  have O_Pairing_place_window := ok_Pairing_place_window (P := P) (w := w) (base := base) T E_Pairing_place_window O_Pairing_arrivals_of O_Pairing_turn_windows
  have O_Pairing_turn_arrivals := ok_Pairing_turn_arrivals (P := P) (w := w) (base := base) T E_Pairing_turn_arrivals O_Pairing_pair
  have O_Pairing_place_arrival := ok_Pairing_place_arrival (P := P) (w := w) (base := base) T E_Pairing_place_arrival O_Pairing_windows_for O_Pairing_turn_arrivals
  have O_Pairing_pairs := ok_Pairing_pairs (P := P) (w := w) (base := base) T E_Pairing_pairs 
  have O_explained := ok_explained (P := P) (w := w) (base := base) T E_explained O_Pairing___init__ O_Window_must O_Pairing_place_window O_Pairing_place_arrival O_Pairing_pairs
  have O_most_explained := ok_most_explained (P := P) (w := w) (base := base) T E_most_explained O_Pairing___init__ O_Pairing_place_arrival O_Pairing_windows_for O_Pairing_pairs
  have O__law_cell := ok__law_cell (P := P) (w := w) (base := base) T E__law_cell 
  have O__law_box := ok__law_box (P := P) (w := w) (base := base) T E__law_box 
  have O__law_take := ok__law_take (P := P) (w := w) (base := base) T E__law_take 
  have O__law_admits := ok__law_admits (P := P) (w := w) (base := base) T E__law_admits 
  have O__law_made := ok__law_made (P := P) (w := w) (base := base) T E__law_made O_Window___init__
  have O__law_are_pairs := ok__law_are_pairs (P := P) (w := w) (base := base) T E__law_are_pairs O__law_admits
  have O__law_is_explanation := ok__law_is_explanation (P := P) (w := w) (base := base) T E__law_is_explanation O__law_are_pairs
  have O__law_are_indexes := ok__law_are_indexes (P := P) (w := w) (base := base) T E__law_are_indexes 
  have O__law_shows_missing := ok__law_shows_missing (P := P) (w := w) (base := base) T E__law_shows_missing O__law_are_indexes O__law_admits
  have O__law_shows_too_many := ok__law_shows_too_many (P := P) (w := w) (base := base) T E__law_shows_too_many O__law_are_indexes O__law_admits
  have O__law_mixed := ok__law_mixed (P := P) (w := w) (base := base) T E__law_mixed O__law_take
  have O__law_planted := ok__law_planted (P := P) (w := w) (base := base) T E__law_planted O__law_take O__law_mixed
  have O__law_alone_right := ok__law_alone_right (P := P) (w := w) (base := base) T E__law_alone_right O__law_take O_explained O__law_made O__law_shows_missing O__law_shows_too_many O_most_explained
  have O_law := ok_law (P := P) (w := w) (base := base) T E_law O__law_box O__law_cell O__law_planted O_explained O__law_made O__law_is_explanation O_most_explained O__law_alone_right
  exact O_law
end
theorem all_mk {l : PySem.W.OpenLaw} {w : World} {K : PySem.W.Frag} {h : Heap} {mg : Str → Option Value} {fa C_Pairing C_Window f0 f1 f2 f3 f4 f5 f6 f7 f8 f9 f10 f11 f12 f13 f14 f15 f16 f17 f18 f19 f20 f21 f22 f23 f24 f25 f26 f27 f28 f29 f30 f31 f32 p_Window_must : Addr} (X : K.In h) (G : h.Ns mainGlobals mg) (hfa : mg "law" = some (.ref fa))
    {od0 an0 od1 an1 od2 an2 od3 an3 od4 an4 od5 an5 od6 an6 od7 an7 od8 an8 od9 an9 od10 an10 od11 an11 od12 an12 od13 an13 od14 an14 od15 an15 od16 an16 od17 an17 od18 an18 od19 an19 od20 an20 od21 an21 od22 an22 od23 an23 od24 an24 od25 an25 od26 an26 od27 an27 od28 an28 od29 an29 od30 an30 od31 an31 od32 an32 : Option Addr} {sl0 sl1 sl2 sl3 sl4 sl5 sl6 sl7 sl8 sl9 sl10 sl11 sl12 sl13 sl14 sl15 sl16 sl17 sl18 sl19 sl20 sl21 sl22 sl23 sl24 sl25 sl26 sl27 sl28 sl29 sl30 sl31 sl32 : Array (Option Value)} {oc0 kV0 dc0 pm0 cd0 ct0 oc1 kV1 dc1 pm1 cd1 ct1 oc2 kV2 dc2 pm2 cd2 ct2 oc3 kV3 dc3 pm3 cd3 ct3 oc4 kV4 dc4 pm4 cd4 ct4 oc5 kV5 dc5 pm5 cd5 ct5 oc6 kV6 dc6 pm6 cd6 ct6 oc7 kV7 dc7 pm7 cd7 ct7 oc8 kV8 dc8 pm8 cd8 ct8 oc9 kV9 dc9 pm9 cd9 ct9 oc10 kV10 dc10 pm10 cd10 ct10 oc11 kV11 dc11 pm11 cd11 ct11 oc12 kV12 dc12 pm12 cd12 ct12 oc13 kV13 dc13 pm13 cd13 ct13 oc14 kV14 dc14 pm14 cd14 ct14 oc15 kV15 dc15 pm15 cd15 ct15 oc16 kV16 dc16 pm16 cd16 ct16 oc17 kV17 dc17 pm17 cd17 ct17 oc18 kV18 dc18 pm18 cd18 ct18 oc19 kV19 dc19 pm19 cd19 ct19 oc20 kV20 dc20 pm20 cd20 ct20 oc21 kV21 dc21 pm21 cd21 ct21 oc22 kV22 dc22 pm22 cd22 ct22 oc23 kV23 dc23 pm23 cd23 ct23 oc24 kV24 dc24 pm24 cd24 ct24 oc25 kV25 dc25 pm25 cd25 ct25 oc26 kV26 dc26 pm26 cd26 ct26 oc27 kV27 dc27 pm27 cd27 ct27 oc28 kV28 dc28 pm28 cd28 ct28 oc29 kV29 dc29 pm29 cd29 ct29 oc30 kV30 dc30 pm30 cd30 ct30 oc31 kV31 dc31 pm31 cd31 ct31 oc32 kV32 dc32 pm32 cd32 ct32 : Value} {rest5 : List Value} {tk_MOST_ITEMS tk_MOST_TURN : Tok}
    (aCPairing : PySem.W.nsIn K mainGlobals "Pairing" = some (some (.ref C_Pairing)))
    (pgPairing : PySem.W.plainGet K C_Pairing Str.empty = true)
    (hdPairing : PySem.W.hasDictIn K C_Pairing = true)
    (poPairing : PySem.W.plainOver K C_Pairing = true)
    (saPairing : PySem.W.findIn K (.ref C_Pairing) "__setattr__" = some (some (.builtin "object.__setattr__")))
    (mkPairing : PySem.W.makesIn K C_Pairing = true)
    (kcPairing : PySem.W.keepIn K (.ref C_Pairing) = true)
    (aCWindow : PySem.W.nsIn K mainGlobals "Window" = some (some (.ref C_Window)))
    (pgWindow : PySem.W.plainGet K C_Window Str.empty = true)
    (hdWindow : PySem.W.hasDictIn K C_Window = true)
    (poWindow : PySem.W.plainOver K C_Window = true)
    (saWindow : PySem.W.findIn K (.ref C_Window) "__setattr__" = some (some (.builtin "object.__setattr__")))
    (mkWindow : PySem.W.makesIn K C_Window = true)
    (kcWindow : PySem.W.keepIn K (.ref C_Window) = true)
    (haWindow : PySem.W.findIn K (.ref C_Window) "__class__" = some (some (.builtin "object.__class__")))
    (hmWindow : PySem.W.mroIn K C_Window (.type "object") = some true)
    (hnX : PySem.W.specialIn K (.builtin "object.__class__") "__get__" = some (some (.builtin "getset_descriptor.__get__")))
    (htX : PySem.W.takesIn K (.builtin "object.__class__") = some true)
    (a0 : PySem.W.nsIn K mainGlobals "is_integer" = some (some (.ref f0)))
    (l0 : K.lookup f0 = some ⟨oc0, od0, .func (PySem.W.fnOf "is_integer" "is_integer" (defArgs s_is_integer) (defBody s_is_integer) (defScope s_is_integer) .none kV0 dc0 pm0 an0 cd0 ct0), sl0⟩)
    (c0 : PySem.W.codeIn K cd0 "is_integer" = true)
    (k0 : PySem.W.keepIn K (.ref f0) = true)
    (a1 : PySem.W.nsIn K mainGlobals "is_list" = some (some (.ref f1)))
    (l1 : K.lookup f1 = some ⟨oc1, od1, .func (PySem.W.fnOf "is_list" "is_list" (defArgs s_is_list) (defBody s_is_list) (defScope s_is_list) .none kV1 dc1 pm1 an1 cd1 ct1), sl1⟩)
    (c1 : PySem.W.codeIn K cd1 "is_list" = true)
    (k1 : PySem.W.keepIn K (.ref f1) = true)
    (a2 : PySem.W.nsIn K mainGlobals "is_arrival" = some (some (.ref f2)))
    (l2 : K.lookup f2 = some ⟨oc2, od2, .func (PySem.W.fnOf "is_arrival" "is_arrival" (defArgs s_is_arrival) (defBody s_is_arrival) (defScope s_is_arrival) .none kV2 dc2 pm2 an2 cd2 ct2), sl2⟩)
    (c2 : PySem.W.codeIn K cd2 "is_arrival" = true)
    (k2 : PySem.W.keepIn K (.ref f2) = true)
    (a3 : PySem.W.findIn K (.ref C_Window) "__init__" = some (some (.ref f3)))
    (i3 : PySem.W.isFn K (.ref f3) = true)
    (l3 : K.lookup f3 = some ⟨oc3, od3, .func (PySem.W.fnOf "__init__" "Window.__init__" (defArgs s_Window___init__) (defBody s_Window___init__) (defScope s_Window___init__) .none kV3 dc3 pm3 an3 cd3 ct3), sl3⟩)
    (c3 : PySem.W.codeIn K cd3 "Window.__init__" = true)
    (k3 : PySem.W.keepIn K (.ref f3) = true)
    (a4 : PySem.W.findIn K (.ref C_Window) "__contains__" = some (some (.ref f4)))
    (i4 : PySem.W.isFn K (.ref f4) = true)
    (l4 : K.lookup f4 = some ⟨oc4, od4, .func (PySem.W.fnOf "__contains__" "Window.__contains__" (defArgs s_Window___contains__) (defBody s_Window___contains__) (defScope s_Window___contains__) .none kV4 dc4 pm4 an4 cd4 ct4), sl4⟩)
    (c4 : PySem.W.codeIn K cd4 "Window.__contains__" = true)
    (k4 : PySem.W.keepIn K (.ref f4) = true)
    (a5 : PySem.W.findIn K (.ref C_Window) "must" = some (some (.ref p_Window_must)))
    (pgt5 : PySem.W.specialIn K (.ref p_Window_must) "__get__" = some (some (.builtin "property.__get__")))
    (ptk5 : PySem.W.takesIn K (.ref p_Window_must) = some true)
    (prc5 : PySem.W.recIn K p_Window_must "property" = some (.ref f5 :: rest5))
    (l5 : K.lookup f5 = some ⟨oc5, od5, .func (PySem.W.fnOf "must" "Window.must" (defArgs s_Window_must) (defBody s_Window_must) (defScope s_Window_must) .none kV5 dc5 pm5 an5 cd5 ct5), sl5⟩)
    (c5 : PySem.W.codeIn K cd5 "Window.must" = true)
    (k5 : PySem.W.keepIn K (.ref f5) = true)
    (a6 : PySem.W.findIn K (.ref C_Window) "admits" = some (some (.ref f6)))
    (i6 : PySem.W.isFn K (.ref f6) = true)
    (l6 : K.lookup f6 = some ⟨oc6, od6, .func (PySem.W.fnOf "admits" "Window.admits" (defArgs s_Window_admits) (defBody s_Window_admits) (defScope s_Window_admits) .none kV6 dc6 pm6 an6 cd6 ct6), sl6⟩)
    (c6 : PySem.W.codeIn K cd6 "Window.admits" = true)
    (k6 : PySem.W.keepIn K (.ref f6) = true)
    (a7 : PySem.W.nsIn K mainGlobals "check_lists" = some (some (.ref f7)))
    (l7 : K.lookup f7 = some ⟨oc7, od7, .func (PySem.W.fnOf "check_lists" "check_lists" (defArgs s_check_lists) (defBody s_check_lists) (defScope s_check_lists) .none kV7 dc7 pm7 an7 cd7 ct7), sl7⟩)
    (c7 : PySem.W.codeIn K cd7 "check_lists" = true)
    (k7 : PySem.W.keepIn K (.ref f7) = true)
    (a8 : PySem.W.findIn K (.ref C_Pairing) "__init__" = some (some (.ref f8)))
    (i8 : PySem.W.isFn K (.ref f8) = true)
    (l8 : K.lookup f8 = some ⟨oc8, od8, .func (PySem.W.fnOf "__init__" "Pairing.__init__" (defArgs s_Pairing___init__) (defBody s_Pairing___init__) (defScope s_Pairing___init__) .none kV8 dc8 pm8 an8 cd8 ct8), sl8⟩)
    (c8 : PySem.W.codeIn K cd8 "Pairing.__init__" = true)
    (k8 : PySem.W.keepIn K (.ref f8) = true)
    (a9 : PySem.W.findIn K (.ref C_Pairing) "arrivals_of" = some (some (.ref f9)))
    (i9 : PySem.W.isFn K (.ref f9) = true)
    (l9 : K.lookup f9 = some ⟨oc9, od9, .func (PySem.W.fnOf "arrivals_of" "Pairing.arrivals_of" (defArgs s_Pairing_arrivals_of) (defBody s_Pairing_arrivals_of) (defScope s_Pairing_arrivals_of) .none kV9 dc9 pm9 an9 cd9 ct9), sl9⟩)
    (c9 : PySem.W.codeIn K cd9 "Pairing.arrivals_of" = true)
    (k9 : PySem.W.keepIn K (.ref f9) = true)
    (a10 : PySem.W.findIn K (.ref C_Pairing) "windows_for" = some (some (.ref f10)))
    (i10 : PySem.W.isFn K (.ref f10) = true)
    (l10 : K.lookup f10 = some ⟨oc10, od10, .func (PySem.W.fnOf "windows_for" "Pairing.windows_for" (defArgs s_Pairing_windows_for) (defBody s_Pairing_windows_for) (defScope s_Pairing_windows_for) .none kV10 dc10 pm10 an10 cd10 ct10), sl10⟩)
    (c10 : PySem.W.codeIn K cd10 "Pairing.windows_for" = true)
    (k10 : PySem.W.keepIn K (.ref f10) = true)
    (a11 : PySem.W.findIn K (.ref C_Pairing) "pair" = some (some (.ref f11)))
    (i11 : PySem.W.isFn K (.ref f11) = true)
    (l11 : K.lookup f11 = some ⟨oc11, od11, .func (PySem.W.fnOf "pair" "Pairing.pair" (defArgs s_Pairing_pair) (defBody s_Pairing_pair) (defScope s_Pairing_pair) .none kV11 dc11 pm11 an11 cd11 ct11), sl11⟩)
    (c11 : PySem.W.codeIn K cd11 "Pairing.pair" = true)
    (k11 : PySem.W.keepIn K (.ref f11) = true)
    (a12 : PySem.W.findIn K (.ref C_Pairing) "turn_windows" = some (some (.ref f12)))
    (i12 : PySem.W.isFn K (.ref f12) = true)
    (l12 : K.lookup f12 = some ⟨oc12, od12, .func (PySem.W.fnOf "turn_windows" "Pairing.turn_windows" (defArgs s_Pairing_turn_windows) (defBody s_Pairing_turn_windows) (defScope s_Pairing_turn_windows) .none kV12 dc12 pm12 an12 cd12 ct12), sl12⟩)
    (c12 : PySem.W.codeIn K cd12 "Pairing.turn_windows" = true)
    (k12 : PySem.W.keepIn K (.ref f12) = true)
    (a13 : PySem.W.findIn K (.ref C_Pairing) "place_window" = some (some (.ref f13)))
    (i13 : PySem.W.isFn K (.ref f13) = true)
    (l13 : K.lookup f13 = some ⟨oc13, od13, .func (PySem.W.fnOf "place_window" "Pairing.place_window" (defArgs s_Pairing_place_window) (defBody s_Pairing_place_window) (defScope s_Pairing_place_window) .none kV13 dc13 pm13 an13 cd13 ct13), sl13⟩)
    (c13 : PySem.W.codeIn K cd13 "Pairing.place_window" = true)
    (k13 : PySem.W.keepIn K (.ref f13) = true)
    (a14 : PySem.W.findIn K (.ref C_Pairing) "turn_arrivals" = some (some (.ref f14)))
    (i14 : PySem.W.isFn K (.ref f14) = true)
    (l14 : K.lookup f14 = some ⟨oc14, od14, .func (PySem.W.fnOf "turn_arrivals" "Pairing.turn_arrivals" (defArgs s_Pairing_turn_arrivals) (defBody s_Pairing_turn_arrivals) (defScope s_Pairing_turn_arrivals) .none kV14 dc14 pm14 an14 cd14 ct14), sl14⟩)
    (c14 : PySem.W.codeIn K cd14 "Pairing.turn_arrivals" = true)
    (k14 : PySem.W.keepIn K (.ref f14) = true)
    (a15 : PySem.W.findIn K (.ref C_Pairing) "place_arrival" = some (some (.ref f15)))
    (i15 : PySem.W.isFn K (.ref f15) = true)
    (l15 : K.lookup f15 = some ⟨oc15, od15, .func (PySem.W.fnOf "place_arrival" "Pairing.place_arrival" (defArgs s_Pairing_place_arrival) (defBody s_Pairing_place_arrival) (defScope s_Pairing_place_arrival) .none kV15 dc15 pm15 an15 cd15 ct15), sl15⟩)
    (c15 : PySem.W.codeIn K cd15 "Pairing.place_arrival" = true)
    (k15 : PySem.W.keepIn K (.ref f15) = true)
    (a16 : PySem.W.findIn K (.ref C_Pairing) "pairs" = some (some (.ref f16)))
    (i16 : PySem.W.isFn K (.ref f16) = true)
    (l16 : K.lookup f16 = some ⟨oc16, od16, .func (PySem.W.fnOf "pairs" "Pairing.pairs" (defArgs s_Pairing_pairs) (defBody s_Pairing_pairs) (defScope s_Pairing_pairs) .none kV16 dc16 pm16 an16 cd16 ct16), sl16⟩)
    (c16 : PySem.W.codeIn K cd16 "Pairing.pairs" = true)
    (k16 : PySem.W.keepIn K (.ref f16) = true)
    (a17 : PySem.W.nsIn K mainGlobals "explained" = some (some (.ref f17)))
    (l17 : K.lookup f17 = some ⟨oc17, od17, .func (PySem.W.fnOf "explained" "explained" (defArgs s_explained) (defBody s_explained) (defScope s_explained) .none kV17 dc17 pm17 an17 cd17 ct17), sl17⟩)
    (c17 : PySem.W.codeIn K cd17 "explained" = true)
    (k17 : PySem.W.keepIn K (.ref f17) = true)
    (a18 : PySem.W.nsIn K mainGlobals "most_explained" = some (some (.ref f18)))
    (l18 : K.lookup f18 = some ⟨oc18, od18, .func (PySem.W.fnOf "most_explained" "most_explained" (defArgs s_most_explained) (defBody s_most_explained) (defScope s_most_explained) .none kV18 dc18 pm18 an18 cd18 ct18), sl18⟩)
    (c18 : PySem.W.codeIn K cd18 "most_explained" = true)
    (k18 : PySem.W.keepIn K (.ref f18) = true)
    (a19 : PySem.W.nsIn K mainGlobals "_law_cell" = some (some (.ref f19)))
    (l19 : K.lookup f19 = some ⟨oc19, od19, .func (PySem.W.fnOf "_law_cell" "_law_cell" (defArgs s__law_cell) (defBody s__law_cell) (defScope s__law_cell) .none kV19 dc19 pm19 an19 cd19 ct19), sl19⟩)
    (c19 : PySem.W.codeIn K cd19 "_law_cell" = true)
    (k19 : PySem.W.keepIn K (.ref f19) = true)
    (a20 : PySem.W.nsIn K mainGlobals "_law_box" = some (some (.ref f20)))
    (l20 : K.lookup f20 = some ⟨oc20, od20, .func (PySem.W.fnOf "_law_box" "_law_box" (defArgs s__law_box) (defBody s__law_box) (defScope s__law_box) .none kV20 dc20 pm20 an20 cd20 ct20), sl20⟩)
    (c20 : PySem.W.codeIn K cd20 "_law_box" = true)
    (k20 : PySem.W.keepIn K (.ref f20) = true)
    (a21 : PySem.W.nsIn K mainGlobals "_law_take" = some (some (.ref f21)))
    (l21 : K.lookup f21 = some ⟨oc21, od21, .func (PySem.W.fnOf "_law_take" "_law_take" (defArgs s__law_take) (defBody s__law_take) (defScope s__law_take) .none kV21 dc21 pm21 an21 cd21 ct21), sl21⟩)
    (c21 : PySem.W.codeIn K cd21 "_law_take" = true)
    (k21 : PySem.W.keepIn K (.ref f21) = true)
    (a22 : PySem.W.nsIn K mainGlobals "_law_admits" = some (some (.ref f22)))
    (l22 : K.lookup f22 = some ⟨oc22, od22, .func (PySem.W.fnOf "_law_admits" "_law_admits" (defArgs s__law_admits) (defBody s__law_admits) (defScope s__law_admits) .none kV22 dc22 pm22 an22 cd22 ct22), sl22⟩)
    (c22 : PySem.W.codeIn K cd22 "_law_admits" = true)
    (k22 : PySem.W.keepIn K (.ref f22) = true)
    (a23 : PySem.W.nsIn K mainGlobals "_law_made" = some (some (.ref f23)))
    (l23 : K.lookup f23 = some ⟨oc23, od23, .func (PySem.W.fnOf "_law_made" "_law_made" (defArgs s__law_made) (defBody s__law_made) (defScope s__law_made) .none kV23 dc23 pm23 an23 cd23 ct23), sl23⟩)
    (c23 : PySem.W.codeIn K cd23 "_law_made" = true)
    (k23 : PySem.W.keepIn K (.ref f23) = true)
    (a24 : PySem.W.nsIn K mainGlobals "_law_are_pairs" = some (some (.ref f24)))
    (l24 : K.lookup f24 = some ⟨oc24, od24, .func (PySem.W.fnOf "_law_are_pairs" "_law_are_pairs" (defArgs s__law_are_pairs) (defBody s__law_are_pairs) (defScope s__law_are_pairs) .none kV24 dc24 pm24 an24 cd24 ct24), sl24⟩)
    (c24 : PySem.W.codeIn K cd24 "_law_are_pairs" = true)
    (k24 : PySem.W.keepIn K (.ref f24) = true)
    (a25 : PySem.W.nsIn K mainGlobals "_law_is_explanation" = some (some (.ref f25)))
    (l25 : K.lookup f25 = some ⟨oc25, od25, .func (PySem.W.fnOf "_law_is_explanation" "_law_is_explanation" (defArgs s__law_is_explanation) (defBody s__law_is_explanation) (defScope s__law_is_explanation) .none kV25 dc25 pm25 an25 cd25 ct25), sl25⟩)
    (c25 : PySem.W.codeIn K cd25 "_law_is_explanation" = true)
    (k25 : PySem.W.keepIn K (.ref f25) = true)
    (a26 : PySem.W.nsIn K mainGlobals "_law_are_indexes" = some (some (.ref f26)))
    (l26 : K.lookup f26 = some ⟨oc26, od26, .func (PySem.W.fnOf "_law_are_indexes" "_law_are_indexes" (defArgs s__law_are_indexes) (defBody s__law_are_indexes) (defScope s__law_are_indexes) .none kV26 dc26 pm26 an26 cd26 ct26), sl26⟩)
    (c26 : PySem.W.codeIn K cd26 "_law_are_indexes" = true)
    (k26 : PySem.W.keepIn K (.ref f26) = true)
    (a27 : PySem.W.nsIn K mainGlobals "_law_shows_missing" = some (some (.ref f27)))
    (l27 : K.lookup f27 = some ⟨oc27, od27, .func (PySem.W.fnOf "_law_shows_missing" "_law_shows_missing" (defArgs s__law_shows_missing) (defBody s__law_shows_missing) (defScope s__law_shows_missing) .none kV27 dc27 pm27 an27 cd27 ct27), sl27⟩)
    (c27 : PySem.W.codeIn K cd27 "_law_shows_missing" = true)
    (k27 : PySem.W.keepIn K (.ref f27) = true)
    (a28 : PySem.W.nsIn K mainGlobals "_law_shows_too_many" = some (some (.ref f28)))
    (l28 : K.lookup f28 = some ⟨oc28, od28, .func (PySem.W.fnOf "_law_shows_too_many" "_law_shows_too_many" (defArgs s__law_shows_too_many) (defBody s__law_shows_too_many) (defScope s__law_shows_too_many) .none kV28 dc28 pm28 an28 cd28 ct28), sl28⟩)
    (c28 : PySem.W.codeIn K cd28 "_law_shows_too_many" = true)
    (k28 : PySem.W.keepIn K (.ref f28) = true)
    (a29 : PySem.W.nsIn K mainGlobals "_law_mixed" = some (some (.ref f29)))
    (l29 : K.lookup f29 = some ⟨oc29, od29, .func (PySem.W.fnOf "_law_mixed" "_law_mixed" (defArgs s__law_mixed) (defBody s__law_mixed) (defScope s__law_mixed) .none kV29 dc29 pm29 an29 cd29 ct29), sl29⟩)
    (c29 : PySem.W.codeIn K cd29 "_law_mixed" = true)
    (k29 : PySem.W.keepIn K (.ref f29) = true)
    (a30 : PySem.W.nsIn K mainGlobals "_law_planted" = some (some (.ref f30)))
    (l30 : K.lookup f30 = some ⟨oc30, od30, .func (PySem.W.fnOf "_law_planted" "_law_planted" (defArgs s__law_planted) (defBody s__law_planted) (defScope s__law_planted) .none kV30 dc30 pm30 an30 cd30 ct30), sl30⟩)
    (c30 : PySem.W.codeIn K cd30 "_law_planted" = true)
    (k30 : PySem.W.keepIn K (.ref f30) = true)
    (a31 : PySem.W.nsIn K mainGlobals "_law_alone_right" = some (some (.ref f31)))
    (l31 : K.lookup f31 = some ⟨oc31, od31, .func (PySem.W.fnOf "_law_alone_right" "_law_alone_right" (defArgs s__law_alone_right) (defBody s__law_alone_right) (defScope s__law_alone_right) .none kV31 dc31 pm31 an31 cd31 ct31), sl31⟩)
    (c31 : PySem.W.codeIn K cd31 "_law_alone_right" = true)
    (k31 : PySem.W.keepIn K (.ref f31) = true)
    (a32 : PySem.W.nsIn K mainGlobals "law" = some (some (.ref f32)))
    (l32 : K.lookup f32 = some ⟨oc32, od32, .func (PySem.W.fnOf "law" "law" (defArgs s_law) (defBody s_law) (defScope s_law) .none kV32 dc32 pm32 an32 cd32 ct32), sl32⟩)
    (c32 : PySem.W.codeIn K cd32 "law" = true)
    (k32 : PySem.W.keepIn K (.ref f32) = true)
    (nPairing_arrival_of : PySem.W.findIn K (.ref C_Pairing) "arrival_of" = some none)
    (nPairing_arrivals : PySem.W.findIn K (.ref C_Pairing) "arrivals" = some none)
    (nPairing_window_of : PySem.W.findIn K (.ref C_Pairing) "window_of" = some none)
    (nPairing_windows : PySem.W.findIn K (.ref C_Pairing) "windows" = some none)
    (nWindow_own_first : PySem.W.findIn K (.ref C_Window) "own_first" = some none)
    (nWindow_own_label : PySem.W.findIn K (.ref C_Window) "own_label" = some none)
    (nWindow_own_last : PySem.W.findIn K (.ref C_Window) "own_last" = some none)
    (nWindow_own_must : PySem.W.findIn K (.ref C_Window) "own_must" = some none)
    (zbool : PySem.W.nsIn K mainGlobals "bool" = some none)
    (zenumerate : PySem.W.nsIn K mainGlobals "enumerate" = some none)
    (zint : PySem.W.nsIn K mainGlobals "int" = some none)
    (zisinstance : PySem.W.nsIn K mainGlobals "isinstance" = some none)
    (zlen : PySem.W.nsIn K mainGlobals "len" = some none)
    (zlist : PySem.W.nsIn K mainGlobals "list" = some none)
    (zmax : PySem.W.nsIn K mainGlobals "max" = some none)
    (zmin : PySem.W.nsIn K mainGlobals "min" = some none)
    (zrange : PySem.W.nsIn K mainGlobals "range" = some none)
    (zsorted : PySem.W.nsIn K mainGlobals "sorted" = some none)
    (zstr : PySem.W.nsIn K mainGlobals "str" = some none)
    (ztuple : PySem.W.nsIn K mainGlobals "tuple" = some none)
    (zzip : PySem.W.nsIn K mainGlobals "zip" = some none)
    (gMOST_ITEMS : PySem.W.nsIn K mainGlobals "MOST_ITEMS" = some (some (.int 60 tk_MOST_ITEMS)))
    (gMOST_TURN : PySem.W.nsIn K mainGlobals "MOST_TURN" = some (some (.int 1000000 tk_MOST_TURN))) :
    ∃ fd : FuncData, (∀ (s : Shared) (v : Value), BindsTo s fd ⟨[v], []⟩ [("_law_script", v)]) ∧ ∀ base : Heap, K.In base → base.Ns mainGlobals mg → FnOk l.prog w K mg base CX0 8 fa fd ["_law_script"] (spOf K (sp_law ⟨C_Window, C_Pairing⟩)) := by
  have e := hfa.symm.trans (PySem.W.mg_of X G a32)
  cases e
  have E0 := fun_mk (st := s_is_integer) l0 c0 k0
  have E1 := fun_mk (st := s_is_list) l1 c1 k1
  have E2 := fun_mk (st := s_is_arrival) l2 c2 k2
  have E3 := fun_mk (st := s_Window___init__) l3 c3 k3
  have E4 := fun_mk (st := s_Window___contains__) l4 c4 k4
  have E5 := fun_mk (st := s_Window_must) l5 c5 k5
  have E6 := fun_mk (st := s_Window_admits) l6 c6 k6
  have E7 := fun_mk (st := s_check_lists) l7 c7 k7
  have E8 := fun_mk (st := s_Pairing___init__) l8 c8 k8
  have E9 := fun_mk (st := s_Pairing_arrivals_of) l9 c9 k9
  have E10 := fun_mk (st := s_Pairing_windows_for) l10 c10 k10
  have E11 := fun_mk (st := s_Pairing_pair) l11 c11 k11
  have E12 := fun_mk (st := s_Pairing_turn_windows) l12 c12 k12
  have E13 := fun_mk (st := s_Pairing_place_window) l13 c13 k13
  have E14 := fun_mk (st := s_Pairing_turn_arrivals) l14 c14 k14
  have E15 := fun_mk (st := s_Pairing_place_arrival) l15 c15 k15
  have E16 := fun_mk (st := s_Pairing_pairs) l16 c16 k16
  have E17 := fun_mk (st := s_explained) l17 c17 k17
  have E18 := fun_mk (st := s_most_explained) l18 c18 k18
  have E19 := fun_mk (st := s__law_cell) l19 c19 k19
  have E20 := fun_mk (st := s__law_box) l20 c20 k20
  have E21 := fun_mk (st := s__law_take) l21 c21 k21
  have E22 := fun_mk (st := s__law_admits) l22 c22 k22
  have E23 := fun_mk (st := s__law_made) l23 c23 k23
  have E24 := fun_mk (st := s__law_are_pairs) l24 c24 k24
  have E25 := fun_mk (st := s__law_is_explanation) l25 c25 k25
  have E26 := fun_mk (st := s__law_are_indexes) l26 c26 k26
  have E27 := fun_mk (st := s__law_shows_missing) l27 c27 k27
  have E28 := fun_mk (st := s__law_shows_too_many) l28 c28 k28
  have E29 := fun_mk (st := s__law_mixed) l29 c29 k29
  have E30 := fun_mk (st := s__law_planted) l30 c30 k30
  have E31 := fun_mk (st := s__law_alone_right) l31 c31 k31
  have E32 := fun_mk (st := s_law) l32 c32 k32
  have T : Txt K mg ⟨C_Window, C_Pairing⟩ ⟨f0, PySem.W.fnOf "is_integer" "is_integer" (defArgs s_is_integer) (defBody s_is_integer) (defScope s_is_integer) .none kV0 dc0 pm0 an0 cd0 ct0, f1, PySem.W.fnOf "is_list" "is_list" (defArgs s_is_list) (defBody s_is_list) (defScope s_is_list) .none kV1 dc1 pm1 an1 cd1 ct1, f2, PySem.W.fnOf "is_arrival" "is_arrival" (defArgs s_is_arrival) (defBody s_is_arrival) (defScope s_is_arrival) .none kV2 dc2 pm2 an2 cd2 ct2, f3, PySem.W.fnOf "__init__" "Window.__init__" (defArgs s_Window___init__) (defBody s_Window___init__) (defScope s_Window___init__) .none kV3 dc3 pm3 an3 cd3 ct3, f4, PySem.W.fnOf "__contains__" "Window.__contains__" (defArgs s_Window___contains__) (defBody s_Window___contains__) (defScope s_Window___contains__) .none kV4 dc4 pm4 an4 cd4 ct4, f5, PySem.W.fnOf "must" "Window.must" (defArgs s_Window_must) (defBody s_Window_must) (defScope s_Window_must) .none kV5 dc5 pm5 an5 cd5 ct5, f6, PySem.W.fnOf "admits" "Window.admits" (defArgs s_Window_admits) (defBody s_Window_admits) (defScope s_Window_admits) .none kV6 dc6 pm6 an6 cd6 ct6, f7, PySem.W.fnOf "check_lists" "check_lists" (defArgs s_check_lists) (defBody s_check_lists) (defScope s_check_lists) .none kV7 dc7 pm7 an7 cd7 ct7, f8, PySem.W.fnOf "__init__" "Pairing.__init__" (defArgs s_Pairing___init__) (defBody s_Pairing___init__) (defScope s_Pairing___init__) .none kV8 dc8 pm8 an8 cd8 ct8, f9, PySem.W.fnOf "arrivals_of" "Pairing.arrivals_of" (defArgs s_Pairing_arrivals_of) (defBody s_Pairing_arrivals_of) (defScope s_Pairing_arrivals_of) .none kV9 dc9 pm9 an9 cd9 ct9, f10, PySem.W.fnOf "windows_for" "Pairing.windows_for" (defArgs s_Pairing_windows_for) (defBody s_Pairing_windows_for) (defScope s_Pairing_windows_for) .none kV10 dc10 pm10 an10 cd10 ct10, f11, PySem.W.fnOf "pair" "Pairing.pair" (defArgs s_Pairing_pair) (defBody s_Pairing_pair) (defScope s_Pairing_pair) .none kV11 dc11 pm11 an11 cd11 ct11, f12, PySem.W.fnOf "turn_windows" "Pairing.turn_windows" (defArgs s_Pairing_turn_windows) (defBody s_Pairing_turn_windows) (defScope s_Pairing_turn_windows) .none kV12 dc12 pm12 an12 cd12 ct12, f13, PySem.W.fnOf "place_window" "Pairing.place_window" (defArgs s_Pairing_place_window) (defBody s_Pairing_place_window) (defScope s_Pairing_place_window) .none kV13 dc13 pm13 an13 cd13 ct13, f14, PySem.W.fnOf "turn_arrivals" "Pairing.turn_arrivals" (defArgs s_Pairing_turn_arrivals) (defBody s_Pairing_turn_arrivals) (defScope s_Pairing_turn_arrivals) .none kV14 dc14 pm14 an14 cd14 ct14, f15, PySem.W.fnOf "place_arrival" "Pairing.place_arrival" (defArgs s_Pairing_place_arrival) (defBody s_Pairing_place_arrival) (defScope s_Pairing_place_arrival) .none kV15 dc15 pm15 an15 cd15 ct15, f16, PySem.W.fnOf "pairs" "Pairing.pairs" (defArgs s_Pairing_pairs) (defBody s_Pairing_pairs) (defScope s_Pairing_pairs) .none kV16 dc16 pm16 an16 cd16 ct16, f17, PySem.W.fnOf "explained" "explained" (defArgs s_explained) (defBody s_explained) (defScope s_explained) .none kV17 dc17 pm17 an17 cd17 ct17, f18, PySem.W.fnOf "most_explained" "most_explained" (defArgs s_most_explained) (defBody s_most_explained) (defScope s_most_explained) .none kV18 dc18 pm18 an18 cd18 ct18, f19, PySem.W.fnOf "_law_cell" "_law_cell" (defArgs s__law_cell) (defBody s__law_cell) (defScope s__law_cell) .none kV19 dc19 pm19 an19 cd19 ct19, f20, PySem.W.fnOf "_law_box" "_law_box" (defArgs s__law_box) (defBody s__law_box) (defScope s__law_box) .none kV20 dc20 pm20 an20 cd20 ct20, f21, PySem.W.fnOf "_law_take" "_law_take" (defArgs s__law_take) (defBody s__law_take) (defScope s__law_take) .none kV21 dc21 pm21 an21 cd21 ct21, f22, PySem.W.fnOf "_law_admits" "_law_admits" (defArgs s__law_admits) (defBody s__law_admits) (defScope s__law_admits) .none kV22 dc22 pm22 an22 cd22 ct22, f23, PySem.W.fnOf "_law_made" "_law_made" (defArgs s__law_made) (defBody s__law_made) (defScope s__law_made) .none kV23 dc23 pm23 an23 cd23 ct23, f24, PySem.W.fnOf "_law_are_pairs" "_law_are_pairs" (defArgs s__law_are_pairs) (defBody s__law_are_pairs) (defScope s__law_are_pairs) .none kV24 dc24 pm24 an24 cd24 ct24, f25, PySem.W.fnOf "_law_is_explanation" "_law_is_explanation" (defArgs s__law_is_explanation) (defBody s__law_is_explanation) (defScope s__law_is_explanation) .none kV25 dc25 pm25 an25 cd25 ct25, f26, PySem.W.fnOf "_law_are_indexes" "_law_are_indexes" (defArgs s__law_are_indexes) (defBody s__law_are_indexes) (defScope s__law_are_indexes) .none kV26 dc26 pm26 an26 cd26 ct26, f27, PySem.W.fnOf "_law_shows_missing" "_law_shows_missing" (defArgs s__law_shows_missing) (defBody s__law_shows_missing) (defScope s__law_shows_missing) .none kV27 dc27 pm27 an27 cd27 ct27, f28, PySem.W.fnOf "_law_shows_too_many" "_law_shows_too_many" (defArgs s__law_shows_too_many) (defBody s__law_shows_too_many) (defScope s__law_shows_too_many) .none kV28 dc28 pm28 an28 cd28 ct28, f29, PySem.W.fnOf "_law_mixed" "_law_mixed" (defArgs s__law_mixed) (defBody s__law_mixed) (defScope s__law_mixed) .none kV29 dc29 pm29 an29 cd29 ct29, f30, PySem.W.fnOf "_law_planted" "_law_planted" (defArgs s__law_planted) (defBody s__law_planted) (defScope s__law_planted) .none kV30 dc30 pm30 an30 cd30 ct30, f31, PySem.W.fnOf "_law_alone_right" "_law_alone_right" (defArgs s__law_alone_right) (defBody s__law_alone_right) (defScope s__law_alone_right) .none kV31 dc31 pm31 an31 cd31 ct31, fa, PySem.W.fnOf "law" "law" (defArgs s_law) (defBody s_law) (defScope s_law) .none kV32 dc32 pm32 an32 cd32 ct32, p_Window_must⟩ := ⟨PySem.W.mg_none_of X G zbool,
    PySem.W.mg_none_of X G zenumerate,
    PySem.W.mg_none_of X G zint,
    PySem.W.mg_none_of X G zisinstance,
    PySem.W.mg_none_of X G zlen,
    PySem.W.mg_none_of X G zlist,
    PySem.W.mg_none_of X G zmax,
    PySem.W.mg_none_of X G zmin,
    PySem.W.mg_none_of X G zrange,
    PySem.W.mg_none_of X G zsorted,
    PySem.W.mg_none_of X G zstr,
    PySem.W.mg_none_of X G ztuple,
    PySem.W.mg_none_of X G zzip,
    ⟨_, PySem.W.mg_of X G gMOST_ITEMS⟩,
    ⟨_, PySem.W.mg_of X G gMOST_TURN⟩,
    PySem.W.mg_of X G aCPairing,
    ⟨pgPairing, hdPairing, poPairing, saPairing⟩,
    PySem.W.mg_of X G aCWindow,
    ⟨pgWindow, hdWindow, poWindow, saWindow⟩,
    ⟨mkPairing, a8, i8, kcPairing⟩,
    ⟨mkWindow, a3, i3, kcWindow⟩,
    nPairing_arrival_of,
    nPairing_arrivals,
    nPairing_window_of,
    nPairing_windows,
    nWindow_own_first,
    nWindow_own_label,
    nWindow_own_last,
    nWindow_own_must,
    PySem.W.mg_of X G a22,
    k22,
    PySem.W.mg_of X G a31,
    k31,
    PySem.W.mg_of X G a26,
    k26,
    PySem.W.mg_of X G a24,
    k24,
    PySem.W.mg_of X G a20,
    k20,
    PySem.W.mg_of X G a19,
    k19,
    PySem.W.mg_of X G a25,
    k25,
    PySem.W.mg_of X G a23,
    k23,
    PySem.W.mg_of X G a29,
    k29,
    PySem.W.mg_of X G a30,
    k30,
    PySem.W.mg_of X G a27,
    k27,
    PySem.W.mg_of X G a28,
    k28,
    PySem.W.mg_of X G a21,
    k21,
    PySem.W.mg_of X G a7,
    k7,
    PySem.W.mg_of X G a17,
    k17,
    PySem.W.mg_of X G a2,
    k2,
    PySem.W.mg_of X G a0,
    k0,
    PySem.W.mg_of X G a1,
    k1,
    PySem.W.mg_of X G a18,
    k18,
    ⟨a9, i9, k9⟩,
    ⟨a11, i11, k11⟩,
    ⟨a16, i16, k16⟩,
    ⟨a15, i15, k15⟩,
    ⟨a13, i13, k13⟩,
    ⟨a14, i14, k14⟩,
    ⟨a12, i12, k12⟩,
    ⟨a10, i10, k10⟩,
    ⟨a6, i6, k6⟩,
    ⟨a5, pgt5, ptk5, ⟨_, prc5⟩⟩,
    a4,
    eq_of_beq i4,
    E0.binds (ps := ["value", "low", "high"]) fun _ _ _ _ _ _ us hl => match us, hl with | [_, _, _], _ => rfl,
    E1.binds (ps := ["value"]) fun _ _ _ _ _ _ us hl => match us, hl with | [_], _ => rfl,
    E2.binds (ps := ["value"]) fun _ _ _ _ _ _ us hl => match us, hl with | [_], _ => rfl,
    E4.binds (ps := ["self", "turn"]) fun _ _ _ _ _ _ us hl => match us, hl with | [_, _], _ => rfl,
    E5.binds (ps := ["self"]) fun _ _ _ _ _ _ us hl => match us, hl with | [_], _ => rfl,
    E6.binds (ps := ["self", "arrival"]) fun _ _ _ _ _ _ us hl => match us, hl with | [_, _], _ => rfl,
    E7.binds (ps := ["windows", "arrivals"]) fun _ _ _ _ _ _ us hl => match us, hl with | [_, _], _ => rfl,
    E8.binds (ps := ["self", "windows", "arrivals"]) fun _ _ _ _ _ _ us hl => match us, hl with | [_, _, _], _ => rfl,
    E9.binds (ps := ["self", "index"]) fun _ _ _ _ _ _ us hl => match us, hl with | [_, _], _ => rfl,
    E10.binds (ps := ["self", "index"]) fun _ _ _ _ _ _ us hl => match us, hl with | [_, _], _ => rfl,
    E11.binds (ps := ["self", "arrival", "window"]) fun _ _ _ _ _ _ us hl => match us, hl with | [_, _, _], _ => rfl,
    E12.binds (ps := ["self", "arrival", "came"]) fun _ _ _ _ _ _ us hl => match us, hl with | [_, _, _], _ => rfl,
    E13.binds (ps := ["self", "index"]) fun _ _ _ _ _ _ us hl => match us, hl with | [_, _], _ => rfl,
    E14.binds (ps := ["self", "window", "came"]) fun _ _ _ _ _ _ us hl => match us, hl with | [_, _, _], _ => rfl,
    E15.binds (ps := ["self", "index"]) fun _ _ _ _ _ _ us hl => match us, hl with | [_, _], _ => rfl,
    E16.binds (ps := ["self"]) fun _ _ _ _ _ _ us hl => match us, hl with | [_], _ => rfl,
    E17.binds (ps := ["windows", "arrivals"]) fun _ _ _ _ _ _ us hl => match us, hl with | [_, _], _ => rfl,
    E18.binds (ps := ["windows", "arrivals"]) fun _ _ _ _ _ _ us hl => match us, hl with | [_, _], _ => rfl,
    E19.binds (ps := ["_law_script", "_law_k"]) fun _ _ _ _ _ _ us hl => match us, hl with | [_, _], _ => rfl,
    E20.binds (ps := ["_law_cell_here"]) fun _ _ _ _ _ _ us hl => match us, hl with | [_], _ => rfl,
    E21.binds (ps := ["_law_box_here", "_law_many"]) fun _ _ _ _ _ _ us hl => match us, hl with | [_, _], _ => rfl,
    E22.binds (ps := ["_law_window", "_law_arrival"]) fun _ _ _ _ _ _ us hl => match us, hl with | [_, _], _ => rfl,
    E23.binds (ps := ["_law_windows"]) fun _ _ _ _ _ _ us hl => match us, hl with | [_], _ => rfl,
    E24.binds (ps := ["_law_windows", "_law_arrivals", "_law_pairs"]) fun _ _ _ _ _ _ us hl => match us, hl with | [_, _, _], _ => rfl,
    E25.binds (ps := ["_law_windows", "_law_arrivals", "_law_pairs"]) fun _ _ _ _ _ _ us hl => match us, hl with | [_, _, _], _ => rfl,
    E26.binds (ps := ["_law_value", "_law_size"]) fun _ _ _ _ _ _ us hl => match us, hl with | [_, _], _ => rfl,
    E27.binds (ps := ["_law_windows", "_law_arrivals", "_law_indexes"]) fun _ _ _ _ _ _ us hl => match us, hl with | [_, _, _], _ => rfl,
    E28.binds (ps := ["_law_windows", "_law_arrivals", "_law_indexes"]) fun _ _ _ _ _ _ us hl => match us, hl with | [_, _, _], _ => rfl,
    E29.binds (ps := ["_law_box_here", "_law_some"]) fun _ _ _ _ _ _ us hl => match us, hl with | [_, _], _ => rfl,
    E30.binds (ps := ["_law_box_here"]) fun _ _ _ _ _ _ us hl => match us, hl with | [_], _ => rfl,
    E31.binds (ps := ["_law_box_here", "_law_windows", "_law_arrivals"]) fun _ _ _ _ _ _ us hl => match us, hl with | [_, _, _], _ => rfl,
    ⟨fun s us ws _ l1 l2 => match us, ws, l1, l2 with | [_, _, _], [_, _], _, _ => .of_eq rfl, fun r1 r2 => r1.append r2⟩,
    tab_ok ⟨⟨pgWindow, hdWindow, poWindow, saWindow⟩, haWindow, hnX, htX, hmWindow⟩⟩
  exact ⟨PySem.W.fnOf "law" "law" (defArgs s_law) (defBody s_law) (defScope s_law) .none kV32 dc32 pm32 an32 cd32 ct32, fun s v => .of_eq rfl, fun base _ _ => all_ok T E0 E1 E2 E3 E4 E5 E6 E7 E8 E9 E10 E11 E12 E13 E14 E15 E16 E17 E18 E19 E20 E21 E22 E23 E24 E25 E26 E27 E28 E29 E30 E31 E32⟩
/-- the promise at the top -/
def spTop (K : PySem.W.Frag) : Sp := fun vs H Q _ => ∃ (a : Addr) (ns : List Int), vs = [.ref a] ∧ SqL K H a (ns.map V.int) ∧ Only H ∧ ns.length ≤ 63 ∧ ∀ H', Q (.bl true) H'
theorem top_of {K : PySem.W.Frag} {A : Ad} : ∀ vs H Q E, spTop K vs H Q E → spOf K (sp_law A) vs H Q E := by
  rintro vs H Q E ⟨a, ns, rfl, hS, hO, hl, k⟩
  have nm : ∀ b, ¬ (⟨[], H, []⟩ : Wd).mu b := fun b ⟨i, c, e, _⟩ => by simp at e
  refine ⟨⟨[], H, []⟩, fun _ => none, [.scr ns], fun d c => d = .bl true, noX, Jn.all_ H, ⟨rfl, List.nodup_nil, fun i b c e => by simp at e, fun b hb => by cases hb⟩, .one ⟨a, rfl, ?_⟩, ⟨ns, rfl, rfl, hl, rfl⟩, fun v W' d H' _ _ _ i e => ?_, .no⟩
  · rcases hS with (h | ⟨o, h⟩) | h
    · rcases hO a with z | ⟨o, xs, z⟩
      · rw [z] at h; cases h
      · rw [z] at h; cases h
    · exact .inl ⟨o, h, nm a⟩
    · exact .inr h
  · subst e
    cases (show v = .bl true from i)
    exact k H'
theorem walk {l : PySem.W.OpenLaw} {q : Program} {loose : List Str} {XP : (Str → Option Value) → Heap → Prop} {YP : World → Heap → Prop} {d : DefRec} {K : Params → PySem.W.Frag} (hn : l.most = some 63) (hdf : d.params.defaults = [])
    (hY : ∀ (w : World) (h : Heap), YP w h → (K w.params).In h)
    (F : ∀ (w : World) (mg : Str → Option Value) (fa : Addr) (h : Heap), (K w.params).In h → h.Ns mainGlobals mg → mg d.name = some (.ref fa) →
      ∃ (A : Ad) (fd : FuncData), (∀ (s : Shared) (u : Value), BindsTo s fd ⟨[u], []⟩ [("_law_script", u)]) ∧ ∀ base : Heap, (K w.params).In base → base.Ns mainGlobals mg → FnOk l.prog w (K w.params) mg base CX0 8 fa fd ["_law_script"] (spOf (K w.params) (sp_law A))) :
    PySem.W.WalkO q loose XP YP l.row.toRowW d [] (fun f vs => PySem.call f vs) :=
  L2.walk_of (n := 63) (k := 8) (x := "_law_script") (CX := fun _ => CX0) (sp := fun w => spTop (K w.params)) hn (by decide) hdf ⟨rfl, by decide, by decide⟩ hY (fun w mg fa h KX G hmg => by
    obtain ⟨A, fd, hb, hF⟩ := F w mg fa h KX G hmg
    exact ⟨fd, hb, fun base hB hG => (hF base hB hG).imp top_of⟩) (fun _ _ a ns hl hO hS => ⟨a, ns, rfl, hS, hO, hl, fun _ => rfl⟩) fun _ _ _ _ _ z => z
end AU
open PySem PySem.W PyProof.Rows in
set_option maxRecDepth 100000 in
set_option maxHeartbeats 0 in
theorem PySem.Challenge.cw_eventdeliveries_k59_explanations_known_b_holds : PySem.Challenge.rw_eventdeliveries_k59_explanations_known_b.Holds := by
  w_on; o_law; k_head; (case hw => w_witness2)
  k_fill
  refine AU.walk (l := PySem.Challenge.rw_eventdeliveries_k59_explanations_known_b) rfl rfl (fun w h Y => PySem.W.kIn_of Y) ?F
  case F =>
    intro w mg fa h KX G hmg
    refine' ⟨_, AU.all_mk KX G hmg ?aCPairing ?pgPairing ?hdPairing ?poPairing ?saPairing ?mkPairing ?kcPairing ?aCWindow ?pgWindow ?hdWindow ?poWindow ?saWindow ?mkWindow ?kcWindow ?haWindow ?hmWindow ?hnX ?htX ?a0 ?l0 ?c0 ?k0 ?a1 ?l1 ?c1 ?k1 ?a2 ?l2 ?c2 ?k2 ?a3 ?i3 ?l3 ?c3 ?k3 ?a4 ?i4 ?l4 ?c4 ?k4 ?a5 ?pgt5 ?ptk5 ?prc5 ?l5 ?c5 ?k5 ?a6 ?i6 ?l6 ?c6 ?k6 ?a7 ?l7 ?c7 ?k7 ?a8 ?i8 ?l8 ?c8 ?k8 ?a9 ?i9 ?l9 ?c9 ?k9 ?a10 ?i10 ?l10 ?c10 ?k10 ?a11 ?i11 ?l11 ?c11 ?k11 ?a12 ?i12 ?l12 ?c12 ?k12 ?a13 ?i13 ?l13 ?c13 ?k13 ?a14 ?i14 ?l14 ?c14 ?k14 ?a15 ?i15 ?l15 ?c15 ?k15 ?a16 ?i16 ?l16 ?c16 ?k16 ?a17 ?l17 ?c17 ?k17 ?a18 ?l18 ?c18 ?k18 ?a19 ?l19 ?c19 ?k19 ?a20 ?l20 ?c20 ?k20 ?a21 ?l21 ?c21 ?k21 ?a22 ?l22 ?c22 ?k22 ?a23 ?l23 ?c23 ?k23 ?a24 ?l24 ?c24 ?k24 ?a25 ?l25 ?c25 ?k25 ?a26 ?l26 ?c26 ?k26 ?a27 ?l27 ?c27 ?k27 ?a28 ?l28 ?c28 ?k28 ?a29 ?l29 ?c29 ?k29 ?a30 ?l30 ?c30 ?k30 ?a31 ?l31 ?c31 ?k31 ?a32 ?l32 ?c32 ?k32 ?nPairing_arrival_of ?nPairing_arrivals ?nPairing_window_of ?nPairing_windows ?nWindow_own_first ?nWindow_own_label ?nWindow_own_last ?nWindow_own_must ?zbool ?zenumerate ?zint ?zisinstance ?zlen ?zlist ?zmax ?zmin ?zrange ?zsorted ?zstr ?ztuple ?zzip ?gMOST_ITEMS ?gMOST_TURN⟩
    (case aCPairing => k_is)
    (case pgPairing => k_is)
    (case hdPairing => k_is)
    (case poPairing => k_is)
    (case saPairing => k_is)
    (case mkPairing => k_is)
    (case kcPairing => k_is)
    (case aCWindow => k_is)
    (case pgWindow => k_is)
    (case hdWindow => k_is)
    (case poWindow => k_is)
    (case saWindow => k_is)
    (case mkWindow => k_is)
    (case kcWindow => k_is)
    (case haWindow => k_is)
    (case hmWindow => k_is)
    (case hnX => k_is)
    (case htX => k_is)
    (case a0 => k_is)
    (case l0 => k_is)
    (case c0 => k_is)
    (case k0 => k_is)
    (case a1 => k_is)
    (case l1 => k_is)
    (case c1 => k_is)
    (case k1 => k_is)
    (case a2 => k_is)
    (case l2 => k_is)
    (case c2 => k_is)
    (case k2 => k_is)
    (case a3 => k_is)
    (case i3 => k_is)
    (case l3 => k_is)
    (case c3 => k_is)
    (case k3 => k_is)
    (case a4 => k_is)
    (case i4 => k_is)
    (case l4 => k_is)
    (case c4 => k_is)
    (case k4 => k_is)
    (case a5 => k_is)
    (case pgt5 => k_is)
    (case ptk5 => k_is)
    (case prc5 => k_is)
    (case l5 => k_is)
    (case c5 => k_is)
    (case k5 => k_is)
    (case a6 => k_is)
    (case i6 => k_is)
    (case l6 => k_is)
    (case c6 => k_is)
    (case k6 => k_is)
    (case a7 => k_is)
    (case l7 => k_is)
    (case c7 => k_is)
    (case k7 => k_is)
    (case a8 => k_is)
    (case i8 => k_is)
    (case l8 => k_is)
    (case c8 => k_is)
    (case k8 => k_is)
    (case a9 => k_is)
    (case i9 => k_is)
    (case l9 => k_is)
    (case c9 => k_is)
    (case k9 => k_is)
    (case a10 => k_is)
    (case i10 => k_is)
    (case l10 => k_is)
    (case c10 => k_is)
    (case k10 => k_is)
    (case a11 => k_is)
    (case i11 => k_is)
    (case l11 => k_is)
    (case c11 => k_is)
    (case k11 => k_is)
    (case a12 => k_is)
    (case i12 => k_is)
    (case l12 => k_is)
    (case c12 => k_is)
    (case k12 => k_is)
    (case a13 => k_is)
    (case i13 => k_is)
    (case l13 => k_is)
    (case c13 => k_is)
    (case k13 => k_is)
    (case a14 => k_is)
    (case i14 => k_is)
    (case l14 => k_is)
    (case c14 => k_is)
    (case k14 => k_is)
    (case a15 => k_is)
    (case i15 => k_is)
    (case l15 => k_is)
    (case c15 => k_is)
    (case k15 => k_is)
    (case a16 => k_is)
    (case i16 => k_is)
    (case l16 => k_is)
    (case c16 => k_is)
    (case k16 => k_is)
    (case a17 => k_is)
    (case l17 => k_is)
    (case c17 => k_is)
    (case k17 => k_is)
    (case a18 => k_is)
    (case l18 => k_is)
    (case c18 => k_is)
    (case k18 => k_is)
    (case a19 => k_is)
    (case l19 => k_is)
    (case c19 => k_is)
    (case k19 => k_is)
    (case a20 => k_is)
    (case l20 => k_is)
    (case c20 => k_is)
    (case k20 => k_is)
    (case a21 => k_is)
    (case l21 => k_is)
    (case c21 => k_is)
    (case k21 => k_is)
    (case a22 => k_is)
    (case l22 => k_is)
    (case c22 => k_is)
    (case k22 => k_is)
    (case a23 => k_is)
    (case l23 => k_is)
    (case c23 => k_is)
    (case k23 => k_is)
    (case a24 => k_is)
    (case l24 => k_is)
    (case c24 => k_is)
    (case k24 => k_is)
    (case a25 => k_is)
    (case l25 => k_is)
    (case c25 => k_is)
    (case k25 => k_is)
    (case a26 => k_is)
    (case l26 => k_is)
    (case c26 => k_is)
    (case k26 => k_is)
    (case a27 => k_is)
    (case l27 => k_is)
    (case c27 => k_is)
    (case k27 => k_is)
    (case a28 => k_is)
    (case l28 => k_is)
    (case c28 => k_is)
    (case k28 => k_is)
    (case a29 => k_is)
    (case l29 => k_is)
    (case c29 => k_is)
    (case k29 => k_is)
    (case a30 => k_is)
    (case l30 => k_is)
    (case c30 => k_is)
    (case k30 => k_is)
    (case a31 => k_is)
    (case l31 => k_is)
    (case c31 => k_is)
    (case k31 => k_is)
    (case a32 => k_is)
    (case l32 => k_is)
    (case c32 => k_is)
    (case k32 => k_is)
    (case nPairing_arrival_of => k_is)
    (case nPairing_arrivals => k_is)
    (case nPairing_window_of => k_is)
    (case nPairing_windows => k_is)
    (case nWindow_own_first => k_is)
    (case nWindow_own_label => k_is)
    (case nWindow_own_last => k_is)
    (case nWindow_own_must => k_is)
    (case zbool => k_is)
    (case zenumerate => k_is)
    (case zint => k_is)
    (case zisinstance => k_is)
    (case zlen => k_is)
    (case zlist => k_is)
    (case zmax => k_is)
    (case zmin => k_is)
    (case zrange => k_is)
    (case zsorted => k_is)
    (case zstr => k_is)
    (case ztuple => k_is)
    (case zzip => k_is)
    (case gMOST_ITEMS => k_is)
    (case gMOST_TURN => k_is)
