import PyProof.Rows.All
import PySem.Challenge.RW_behindeachlot_k65_whole_lines_stuck_join
import Wide.All
import OpenK.AllK
import Wide.FinOn
import HandS.ForMost
import HandS.ForExc
import KE.DataEq
import KE.DataMinMax
import KE.DataAny
import KE.SortData
import KE.DataIsa
import KE.DataFind
import HandS.Wide
import HandS.TupAny
import HandS.TupMul
import HandS.TupLe
import HandS.Conv
import HandS.IsInst
import HandS.WideBits
import KE.DataCmp
import HandS.Defaults
import HandS.Strs
import KE.KRevSl
import HandS.Iter
import KE.GoesEnum
import KE.GoesZip
import KE.GoesMore
import HandS.Comp
import HandS.Style
import HandS.ExcIs
import PyProof.ExcBaseAll.ValueError
import KE.KStateDown
import HandS.Codes
import HandS.Head0
import HandS.Head1
import HandS.Head2
import HandS.HeadEnd
import HandS.HeadHook1
import HandS.HeadHook2
import HandS.HeadHook4
set_option Elab.async false
set_option linter.all false
set_option maxRecDepth 100000
set_option exponentiation.threshold 2000
set_option maxHeartbeats 0
set_option autoImplicit false
/-! PLa: plain values, what stands for them in the heap, slots' contents -/
namespace PL
open PySem PySem.Spec PyProof.Rows L2

abbrev D := PyData
abbrev St := L2.St

def imm : HO → Bool
  | .tup _ => true
  | .frz _ _ => true
  | _ => false

/-- nothing that cannot be written is lost -/
def Ex (H H' : Hp) : Prop := ∀ b o, H b = some o → imm o = true → H' b = some o
theorem Ex.refl {H : Hp} : Ex H H := fun _ _ e _ => e
theorem Ex.trans {H H' H'' : Hp} (a : Ex H H') (b : Ex H' H'') : Ex H H'' := fun c o e i => b c o (a c o e i) i
theorem Ex.new {H : Hp} {a : Addr} {o : HO} (n : H a = none) : Ex H (upd H a o) := fun b u e _ => by
  rw [upd_ne (ne_of_none e n)]; exact e
theorem Ex.put {H : Hp} {a : Addr} {o u : HO} (n : H a = some u) (f : imm u = false) : Ex H (upd H a o) := fun b w e i => by
  by_cases h : b = a
  · subst h; rw [n] at e; cases e; rw [f] at i; cases i
  · rw [upd_ne h]; exact e

/-- a tuple whose object is known to bear no dict of its own -/
def TupR (K : PySem.W.Frag) (H : Hp) (a : Addr) (xs : List V) : Prop :=
  (∃ o, H a = some (.frz o (.tup xs)) ∧ o.dict = none) ∨
    ∃ (o : Obj) (its : Array Value) (n : Nat), K.lookup a = some o ∧ o.cls = .type "tuple" ∧ o.dict = none ∧ o.data = .seq its n ∧ its.size ≤ sizeLine ∧ Vals xs its.toList
theorem TupR.sq {K : PySem.W.Frag} {H : Hp} {a : Addr} {xs : List V} (h : TupR K H a xs) : SqT K H a xs := by
  rcases h with ⟨o, h, _⟩ | ⟨o, its, n, h1, h2, _, h3, h4, h5⟩
  · exact .inl (.inr ⟨o, h⟩)
  · exact .inr ⟨o, its, n, h1, h2, h3, h4, h5⟩
mutual
/-- v stands for d, and nobody writes any of it -/
inductive Rp (K : PySem.W.Frag) (H : Hp) : V → D → Prop
  | non : Rp K H .non .none
  | bl (b : Bool) : Rp K H (.bl b) (.bool b)
  | int (i : Int) : Rp K H (.int i) (.int i)
  | str (x : Str) : Rp K H (.str x) (.str x)
  | lst {a : Addr} {o : Obj} {xs : List V} {ds : List D} : H a = some (.frz o (.lst xs)) → RpAll K H xs ds → Rp K H (.ref a) (.list ds)
  | tup {a : Addr} {xs : List V} {ds : List D} : TupR K H a xs → RpAll K H xs ds → Rp K H (.ref a) (.tuple ds)
inductive RpAll (K : PySem.W.Frag) (H : Hp) : List V → List D → Prop
  | nil : RpAll K H [] []
  | cons {v : V} {vs : List V} {d : D} {ds : List D} : Rp K H v d → RpAll K H vs ds → RpAll K H (v :: vs) (d :: ds)
end

theorem TupR.ex {K : PySem.W.Frag} {H H' : Hp} {a : Addr} {xs : List V} (x : Ex H H') (h : TupR K H a xs) : TupR K H' a xs := by
  rcases h with ⟨o, h, d⟩ | h
  · exact .inl ⟨o, x _ _ h rfl, d⟩
  · exact .inr h
theorem SqT.ex {K : PySem.W.Frag} {H H' : Hp} {a : Addr} {xs : List V} (x : Ex H H') (h : SqT K H a xs) : SqT K H' a xs := by
  rcases h with h | h
  · rcases h with h | ⟨o, h⟩
    · exact .inl (.inl (x _ _ h rfl))
    · exact .inl (.inr ⟨o, x _ _ h rfl⟩)
  · exact .inr h

section
variable {K : PySem.W.Frag} {H H' : Hp}
mutual
theorem Rp.ex (x : Ex H H') : ∀ {d : D} {v : V}, Rp K H v d → Rp K H' v d
  | _, _, .non => .non
  | _, _, .bl b => .bl b
  | _, _, .int i => .int i
  | _, _, .str s => .str s
  | _, _, .lst h r => .lst (x _ _ h rfl) (RpAll.ex x r)
  | _, _, .tup h r => .tup (TupR.ex x h) (RpAll.ex x r)
theorem RpAll.ex (x : Ex H H') : ∀ {ds : List D} {vs : List V}, RpAll K H vs ds → RpAll K H' vs ds
  | _, _, .nil => .nil
  | _, _, .cons h r => .cons (Rp.ex x h) (RpAll.ex x r)
end
mutual
theorem Rp.dp : ∀ {d : D} {v : V}, Rp K H v d → Dp K H v d
  | _, _, .non => .non
  | _, _, .bl b => .bl b
  | _, _, .int i => .int i
  | _, _, .str s => .str s
  | _, _, .lst h r => .lst (.inl (.inr ⟨_, h⟩)) (RpAll.dp r)
  | _, _, .tup h r => .tup h.sq (RpAll.dp r)
theorem RpAll.dp : ∀ {ds : List D} {vs : List V}, RpAll K H vs ds → DpAll K H vs ds
  | _, _, .nil => .nil
  | _, _, .cons h r => .cons (Rp.dp h) (RpAll.dp r)
end
mutual
theorem Rp.plain : ∀ {d : D} {v : V}, Rp K H v d → d.plain = true
  | _, _, .non => rfl
  | _, _, .bl b => rfl
  | _, _, .int i => rfl
  | _, _, .str s => rfl
  | _, _, .lst h r => RpAll.plain r
  | _, _, .tup h r => RpAll.plain r
theorem RpAll.plain : ∀ {ds : List D} {vs : List V}, RpAll K H vs ds → PyData.plainAll ds = true
  | _, _, .nil => rfl
  | _, _, .cons h r => by rw [PyData.plainAll, Rp.plain h, RpAll.plain r]; rfl
end

theorem RpAll.len : ∀ {ds : List D} {vs : List V}, RpAll K H vs ds → vs.length = ds.length
  | _, _, .nil => rfl
  | _, _, .cons _ r => by rw [List.length_cons, List.length_cons, r.len]
theorem RpAll.get : ∀ {ds : List D} {vs : List V} {i : Nat} {d : D}, RpAll K H vs ds → ds[i]? = some d → ∃ v, vs[i]? = some v ∧ Rp K H v d
  | _, _, _, _, .nil, e => by simp at e
  | _, _, 0, _, .cons h _, e => by simp at e; subst e; exact ⟨_, rfl, h⟩
  | _, _, i + 1, d, .cons _ r, e => by
    obtain ⟨v, h1, h2⟩ := RpAll.get (i := i) (d := d) r (by simpa using e)
    exact ⟨v, by simpa using h1, h2⟩
theorem RpAll.getv : ∀ {ds : List D} {vs : List V} {i : Nat} {v : V}, RpAll K H vs ds → vs[i]? = some v → ∃ d, ds[i]? = some d ∧ Rp K H v d
  | _, _, _, _, .nil, e => by simp at e
  | _, _, 0, _, .cons h _, e => by simp at e; subst e; exact ⟨_, rfl, h⟩
  | _, _, i + 1, v, .cons _ r, e => by
    obtain ⟨d, h1, h2⟩ := RpAll.getv (i := i) (v := v) r (by simpa using e)
    exact ⟨d, by simpa using h1, h2⟩
theorem RpAll.append : ∀ {ds es : List D} {vs ws : List V}, RpAll K H vs ds → RpAll K H ws es → RpAll K H (vs ++ ws) (ds ++ es)
  | _, _, _, _, .nil, s => s
  | _, _, _, _, .cons h r, s => .cons h (r.append s)
theorem RpAll.set {v : V} {d : D} (h : Rp K H v d) : ∀ {ds : List D} {vs : List V} (i : Nat), RpAll K H vs ds → RpAll K H (vs.set i v) (ds.set i d)
  | _, _, _, .nil => .nil
  | _, _, 0, .cons _ r => .cons h r
  | _, _, i + 1, .cons q r => .cons q (RpAll.set h i r)
theorem RpAll.take : ∀ {ds : List D} {vs : List V} (n : Nat), RpAll K H vs ds → RpAll K H (vs.take n) (ds.take n)
  | _, _, 0, _ => .nil
  | _, _, _ + 1, .nil => .nil
  | _, _, n + 1, .cons h r => .cons h (r.take n)
theorem RpAll.drop : ∀ {ds : List D} {vs : List V} (n : Nat), RpAll K H vs ds → RpAll K H (vs.drop n) (ds.drop n)
  | _, _, 0, r => r
  | _, _, _ + 1, .nil => .nil
  | _, _, n + 1, .cons h r => r.drop n
theorem RpAll.erase : ∀ {ds : List D} {vs : List V} (n : Nat), RpAll K H vs ds → RpAll K H (vs.eraseIdx n) (ds.eraseIdx n)
  | _, _, _, .nil => .nil
  | _, _, 0, .cons h r => r
  | _, _, n + 1, .cons h r => .cons h (r.erase n)
theorem RpAll.reverse : ∀ {ds : List D} {vs : List V}, RpAll K H vs ds → RpAll K H vs.reverse ds.reverse
  | _, _, .nil => .nil
  | _, _, .cons h r => by rw [List.reverse_cons, List.reverse_cons]; exact r.reverse.append (.cons h .nil)
end

/-- what a slot holds: a plain value; a list, a list of lists, a dict that may be written; a caught error -/
inductive C where
  | pu (d : D)
  | ml (ds : List D)
  | mm (dss : List (List D))
  | md (kvs : List (D × D))
  | ex (c : Str)
  | sl (ds : List D)
abbrev Env := List (Option C)

def kD : Key → D
  | .inl i => .int i
  | .inr x => .str x
def vRef : V → Option Addr
  | .ref a => some a
  | _ => none
/-- the rows of a list of lists -/
def Rows (K : PySem.W.Frag) (H : Hp) (bs : List Addr) (dss : List (List D)) : Prop := Paired (fun b ds => ∃ vs, H b = some (.lst vs) ∧ RpAll K H vs ds) bs dss
def MdAt (K : PySem.W.Frag) (H : Hp) (a : Addr) (kvs : List (D × D)) : Prop :=
  (∃ ks : List (Key × V), H a = some (.dK ks) ∧ Paired (fun (p : Key × V) (q : D × D) => q.1 = kD p.1 ∧ Rp K H p.2 q.2) ks kvs) ∨
  (∃ ks : List (List Key × V), H a = some (.dT ks) ∧ Paired (fun (p : List Key × V) (q : D × D) => q.1 = .tuple (p.1.map kD) ∧ Rp K H p.2 q.2) ks kvs)
/-- a list that nobody writes, here or behind the top -/
def SlX (K : PySem.W.Frag) (H : Hp) (a : Addr) (xs : List V) : Prop := (∃ o, H a = some (.frz o (.lst xs))) ∨
    ∃ (o : Obj) (its : Array Value) (n : Nat), K.lookup a = some o ∧ o.cls = .type "list" ∧ o.dict = none ∧ o.data = .seq its n ∧ its.size ≤ sizeLine ∧ Vals xs its.toList
theorem SlX.sq {K : PySem.W.Frag} {H : Hp} {a : Addr} {xs : List V} (h : SlX K H a xs) : SqL K H a xs := by
  rcases h with ⟨o, h⟩ | h
  · exact .inl (.inr ⟨o, h⟩)
  · exact .inr h
theorem SlX.ex {K : PySem.W.Frag} {H H' : Hp} {a : Addr} {xs : List V} (x : Ex H H') (h : SlX K H a xs) : SlX K H' a xs := by
  rcases h with ⟨o, h⟩ | h
  · exact .inl ⟨o, x a _ h rfl⟩
  · exact .inr h
def RelC (K : PySem.W.Frag) (H : Hp) (v : V) : C → Prop
  | .pu d => Rp K H v d
  | .ml ds => ∃ a vs, v = .ref a ∧ H a = some (.lst vs) ∧ RpAll K H vs ds
  | .mm dss => ∃ a bs, v = .ref a ∧ H a = some (.lst (bs.map V.ref)) ∧ (a :: bs).Nodup ∧ Rows K H bs dss
  | .md kvs => ∃ a, v = .ref a ∧ MdAt K H a kvs
  | .ex _ => ∃ a, v = .ref a
  | .sl ds => ∃ a vs, v = .ref a ∧ SlX K H a vs ∧ RpAll K H vs ds
/-- the addresses that the holder of c at v may write -/
def ow (H : Hp) (v : V) : C → List Addr
  | .ml _ => (vRef v).toList
  | .md _ => (vRef v).toList
  | .mm _ => match v with
    | .ref a => match H a with
      | some (.lst vs) => a :: vs.filterMap vRef
      | _ => [a]
    | _ => []
  | _ => []
theorem refs_of (bs : List Addr) : (bs.map V.ref).filterMap vRef = bs := by
  induction bs with
  | nil => rfl
  | cons b r ih => rw [List.map_cons, List.filterMap_cons]; simp only [vRef]; rw [ih]
theorem ow_mm {H : Hp} {a : Addr} {bs : List Addr} {dss : List (List D)} (e : H a = some (.lst (bs.map V.ref))) : ow H (.ref a) (.mm dss) = a :: bs := by
  unfold ow
  simp only [e, refs_of]
theorem paired_imp {α β : Type} {F G : α → β → Prop} (h : ∀ a b, F a b → G a b) : ∀ {l : List α} {r : List β}, Paired F l r → Paired G l r
  | _, _, .nil => .nil
  | _, _, .cons x t => .cons (h _ _ x) (paired_imp h t)
theorem paired_mem {α β : Type} {F : α → β → Prop} : ∀ {l : List α} {r : List β}, Paired F l r → ∀ a ∈ l, ∃ b, F a b
  | _, _, .nil, _, h => nomatch h
  | _, _, .cons x t, a, h => by
    rcases List.mem_cons.mp h with rfl | h
    · exact ⟨_, x⟩
    · exact paired_mem t a h
theorem paired_imp_mem {α β : Type} {F G : α → β → Prop} : ∀ {l : List α} {r : List β}, Paired F l r → (∀ a b, a ∈ l → F a b → G a b) → Paired G l r
  | _, _, .nil, _ => .nil
  | _, _, .cons x t, h => .cons (h _ _ List.mem_cons_self x) (paired_imp_mem t fun a b m => h a b (List.mem_cons_of_mem _ m))
theorem MdAt.there {K : PySem.W.Frag} {H : Hp} {a : Addr} {kvs : List (D × D)} (h : MdAt K H a kvs) : ∃ o, H a = some o ∧ imm o = false := by
  rcases h with ⟨ks, e, _⟩ | ⟨ks, e, _⟩
  · exact ⟨_, e, rfl⟩
  · exact ⟨_, e, rfl⟩
theorem RelC.there {K : PySem.W.Frag} {H : Hp} {v : V} {c : C} (h : RelC K H v c) {b : Addr} (m : b ∈ ow H v c) : ∃ o, H b = some o ∧ imm o = false := by
  cases c with
  | pu d => exact nomatch m
  | ex d => exact nomatch m
  | sl d => exact nomatch m
  | ml ds =>
    obtain ⟨a, vs, rfl, e, _⟩ := h
    have z : b = a := by simpa [ow, vRef] using m
    subst z; exact ⟨_, e, rfl⟩
  | md ds =>
    obtain ⟨a, rfl, e⟩ := h
    have z : b = a := by simpa [ow, vRef] using m
    subst z; exact e.there
  | mm dss =>
    obtain ⟨a, bs, rfl, e, nd, r⟩ := h
    rw [ow_mm e] at m
    rcases List.mem_cons.mp m with rfl | m
    · exact ⟨_, e, rfl⟩
    · obtain ⟨ds, vs, e2, _⟩ := paired_mem r b m
      exact ⟨_, e2, rfl⟩
/-- in a later heap in which what c may write stands as it stood -/
theorem RelC.ex {K : PySem.W.Frag} {H H' : Hp} {v : V} {c : C} (h : RelC K H v c) (x : Ex H H') (k : ∀ b ∈ ow H v c, H' b = H b) : RelC K H' v c ∧ ow H' v c = ow H v c := by
  cases c with
  | pu d => exact ⟨Rp.ex x h, rfl⟩
  | ex d => exact ⟨h, rfl⟩
  | sl ds =>
    obtain ⟨a, vs, rfl, e, r⟩ := h
    exact ⟨⟨a, vs, rfl, e.ex x, r.ex x⟩, rfl⟩
  | ml ds =>
    obtain ⟨a, vs, rfl, e, r⟩ := h
    exact ⟨⟨a, vs, rfl, (k a (by simp [ow, vRef])).trans e, r.ex x⟩, rfl⟩
  | md ds =>
    obtain ⟨a, rfl, e⟩ := h
    have ka := k a (by simp [ow, vRef])
    refine ⟨⟨a, rfl, ?_⟩, rfl⟩
    rcases e with ⟨ks, e, r⟩ | ⟨ks, e, r⟩
    · exact .inl ⟨ks, ka.trans e, paired_imp (fun _ _ z => ⟨z.1, z.2.ex x⟩) r⟩
    · exact .inr ⟨ks, ka.trans e, paired_imp (fun _ _ z => ⟨z.1, z.2.ex x⟩) r⟩
  | mm dss =>
    obtain ⟨a, bs, rfl, e, nd, r⟩ := h
    rw [ow_mm e] at k
    have ka := (k a List.mem_cons_self).trans e
    refine ⟨⟨a, bs, rfl, ka, nd, paired_imp_mem r fun b ds m ⟨vs, e1, r1⟩ => ⟨vs, (k b (List.mem_cons_of_mem _ m)).trans e1, r1.ex x⟩⟩, ?_⟩
    rw [ow_mm ka, ow_mm e]

/-- an address that a slot may write -/
def MAd (σ : St) (g : Env) (H : Hp) (b : Addr) : Prop := ∃ (i : Nat) (c : C) (v : V), g[i]? = some (some c) ∧ σ[i]? = some (some v) ∧ b ∈ ow H v c
structure RelEnv (K : PySem.W.Frag) (σ : St) (H : Hp) (g : Env) : Prop where
  len : σ.length = g.length
  val : ∀ (i : Nat) (c : C), g[i]? = some (some c) → ∃ v, σ[i]? = some (some v) ∧ RelC K H v c
  sep : ∀ (i j : Nat) (b : Addr) (c c' : C) (v v' : V), g[i]? = some (some c) → σ[i]? = some (some v) → b ∈ ow H v c → g[j]? = some (some c') → σ[j]? = some (some v') → b ∈ ow H v' c' → i = j
theorem RelEnv.at {K : PySem.W.Frag} {σ : St} {H : Hp} {g : Env} (r : RelEnv K σ H g) {i : Nat} {c : C} {v : V} (e : g[i]? = some (some c)) (s : σ[i]? = some (some v)) : RelC K H v c := by
  obtain ⟨w, e1, q⟩ := r.val i c e
  rw [s] at e1; cases e1; exact q
theorem RelEnv.mad {K : PySem.W.Frag} {σ : St} {H : Hp} {g : Env} (r : RelEnv K σ H g) {b : Addr} (m : MAd σ g H b) : ∃ o, H b = some o ∧ imm o = false := by
  obtain ⟨i, c, v, h1, h2, h3⟩ := m
  exact (r.at h1 h2).there h3

/-- from one state to a later one; fx: slots that stay -/
structure Step (fx : Nat → Bool) (σ : St) (g : Env) (H : Hp) (σ' : St) (g' : Env) (H' : Hp) : Prop where
  keep : ∀ b o, H b = some o → ¬ MAd σ g H b → H' b = some o
  mad : ∀ b, MAd σ' g' H' b → MAd σ g H b ∨ H b = none
  fix : ∀ i : Nat, fx i = true → σ'[i]? = σ[i]?
  dom : ∀ b, H' b = none → H b = none
theorem Step.refl {fx : Nat → Bool} {σ : St} {g : Env} {H : Hp} : Step fx σ g H σ g H := ⟨fun _ _ e _ => e, fun _ h => .inl h, fun _ _ => rfl, fun _ h => h⟩
theorem Step.trans {fx : Nat → Bool} {σ σ1 σ2 : St} {g g1 g2 : Env} {H H1 H2 : Hp} (a : Step fx σ g H σ1 g1 H1) (b : Step fx σ1 g1 H1 σ2 g2 H2) : Step fx σ g H σ2 g2 H2 where
  keep := fun c o e n => b.keep c o (a.keep c o e n) fun m => (a.mad c m).elim n fun z => by rw [e] at z; cases z
  mad := fun c m => by
    rcases b.mad c m with m | m
    · exact a.mad c m
    · cases e : H c with
      | none => exact .inr rfl
      | some o =>
        by_cases z : MAd σ g H c
        · exact .inl z
        · rw [a.keep c o e z] at m; cases m
  fix := fun i h => (b.fix i h).trans (a.fix i h)
  dom := fun c h => a.dom c (b.dom c h)
theorem Step.ex {K : PySem.W.Frag} {fx : Nat → Bool} {σ σ' : St} {g g' : Env} {H H' : Hp} (a : Step fx σ g H σ' g' H') (r : RelEnv K σ H g) : Ex H H' := fun b o e i => a.keep b o e fun m => by
  obtain ⟨o', e', f⟩ := r.mad m
  rw [e] at e'; cases e'; rw [f] at i; cases i
section
variable {K : PySem.W.Frag} {σ : St} {H H' : Hp} {g : Env}
theorem set_at {α : Type} {l : List (Option α)} {i j : Nat} {x : Option α} {c : α} (e : (l.set i x)[j]? = some (some c)) : (i = j ∧ x = some c ∧ i < l.length) ∨ (i ≠ j ∧ l[j]? = some (some c)) := by
  by_cases h : i = j
  · subst h
    by_cases hl : i < l.length
    · rw [List.getElem?_set_self hl] at e; cases e; exact .inl ⟨rfl, rfl, hl⟩
    · rw [List.getElem?_eq_none (by simpa using hl)] at e; cases e
  · rw [List.getElem?_set_ne h] at e; exact .inr ⟨h, e⟩
/-- what the slots hold, in a later heap in which all that they may write stands as it stood -/
theorem RelEnv.ex (r : RelEnv K σ H g) (k : ∀ b o, H b = some o → H' b = some o) : RelEnv K σ H' g ∧ ∀ b, MAd σ g H' b ↔ MAd σ g H b := by
  have x : Ex H H' := fun b o e _ => k b o e
  have kk : ∀ {i : Nat} {c : C} {v : V}, g[i]? = some (some c) → σ[i]? = some (some v) → RelC K H' v c ∧ ow H' v c = ow H v c := fun {i c v} e s =>
    (r.at e s).ex x fun b m => by
      obtain ⟨o, e1, _⟩ := (r.at e s).there m
      rw [e1]; exact k b o e1
  refine ⟨⟨r.len, fun i c e => ?_, fun i j b c c' v v' e1 s1 m1 e2 s2 m2 => ?_⟩, fun b => ⟨fun ⟨i, c, v, e, s, m⟩ => ?_, fun ⟨i, c, v, e, s, m⟩ => ?_⟩⟩
  · obtain ⟨v, s, _⟩ := r.val i c e
    exact ⟨v, s, (kk e s).1⟩
  · rw [(kk e1 s1).2] at m1
    rw [(kk e2 s2).2] at m2
    exact r.sep i j b c c' v v' e1 s1 m1 e2 s2 m2
  · rw [(kk e s).2] at m; exact ⟨i, c, v, e, s, m⟩
  · rw [← (kk e s).2] at m; exact ⟨i, c, v, e, s, m⟩
theorem RelEnv.but (r : RelEnv K σ H g) (x : Ex H H') (k : ∀ b, MAd σ g H b → H' b = H b) : RelEnv K σ H' g ∧ ∀ b, MAd σ g H' b ↔ MAd σ g H b := by
  have kk : ∀ {i : Nat} {c : C} {v : V}, g[i]? = some (some c) → σ[i]? = some (some v) → RelC K H' v c ∧ ow H' v c = ow H v c := fun {i c v} e s =>
    (r.at e s).ex x fun b m => k b ⟨i, c, v, e, s, m⟩
  refine ⟨⟨r.len, fun i c e => ?_, fun i j b c c' v v' e1 s1 m1 e2 s2 m2 => ?_⟩, fun b => ⟨fun ⟨i, c, v, e, s, m⟩ => ?_, fun ⟨i, c, v, e, s, m⟩ => ?_⟩⟩
  · obtain ⟨v, s, _⟩ := r.val i c e
    exact ⟨v, s, (kk e s).1⟩
  · rw [(kk e1 s1).2] at m1
    rw [(kk e2 s2).2] at m2
    exact r.sep i j b c c' v v' e1 s1 m1 e2 s2 m2
  · rw [(kk e s).2] at m; exact ⟨i, c, v, e, s, m⟩
  · rw [← (kk e s).2] at m; exact ⟨i, c, v, e, s, m⟩
theorem new_keeps {p : Addr} {o : HO} (n : H p = none) : ∀ b u, H b = some u → upd H p o b = some u := fun b u e => by rw [upd_ne (ne_of_none e n)]; exact e
/-- a new object -/
theorem RelEnv.new {p : Addr} {o : HO} (r : RelEnv K σ H g) (n : H p = none) : RelEnv K σ (upd H p o) g := (r.ex (new_keeps n)).1
theorem RelEnv.grow (r : RelEnv K σ H g) (k : ∀ b o, H b = some o → H' b = some o) {fx : Nat → Bool} : Step fx σ g H σ g H' :=
  ⟨fun b u e _ => k b u e, fun b h => .inl (((r.ex k).2 b).mp h), fun _ _ => rfl, fun b h => by
    cases e : H b with
    | none => rfl
    | some o => rw [k b o e] at h; cases h⟩
/-- a value is put into a slot; v is not what another slot may write, or new -/
theorem RelEnv.put {i : Nat} {v : V} {c : C} (r : RelEnv K σ H g) (h : RelC K H v c) (n : ∀ b ∈ ow H v c, ¬ MAd σ g H b) : RelEnv K (σ.set i (some v)) H (g.set i (some c)) where
  len := by rw [List.length_set, List.length_set]; exact r.len
  val := fun j c' e => by
    rcases set_at e with ⟨rfl, e, hl⟩ | ⟨hj, e⟩
    · cases e; exact ⟨v, List.getElem?_set_self (by rw [r.len]; exact hl), h⟩
    · obtain ⟨w, e1, q⟩ := r.val j c' e
      exact ⟨w, by rw [List.getElem?_set_ne hj]; exact e1, q⟩
  sep := fun x y b c1 c2 v1 v2 e1 s1 m1 e2 s2 m2 => by
    rcases set_at e1 with ⟨rfl, e1, hl⟩ | ⟨hx, e1⟩
    · cases e1
      rcases set_at e2 with ⟨rfl, e2, _⟩ | ⟨hy, e2⟩
      · rfl
      · rw [List.getElem?_set_ne hy] at s2
        rw [List.getElem?_set_self (by rw [r.len]; exact hl)] at s1
        cases s1
        exact absurd ⟨y, c2, v2, e2, s2, m2⟩ (n b m1)
    · rw [List.getElem?_set_ne hx] at s1
      rcases set_at e2 with ⟨rfl, e2, hl⟩ | ⟨hy, e2⟩
      · cases e2
        rw [List.getElem?_set_self (by rw [r.len]; exact hl)] at s2
        cases s2
        exact absurd ⟨x, c1, v1, e1, s1, m1⟩ (n b m2)
      · rw [List.getElem?_set_ne hy] at s2
        exact r.sep x y b c1 c2 v1 v2 e1 s1 m1 e2 s2 m2
theorem Step.put {fx : Nat → Bool} {i : Nat} {v : V} {c : C} (hl : σ.length = g.length) (f : fx i = false) (n : ∀ b ∈ ow H v c, H b = none) : Step fx σ g H (σ.set i (some v)) (g.set i (some c)) H where
  keep := fun _ _ e _ => e
  mad := fun b ⟨j, c', w, e, s, m⟩ => by
    rcases set_at e with ⟨rfl, e, hl'⟩ | ⟨hj, e⟩
    · cases e
      rw [List.getElem?_set_self (by rw [hl]; exact hl')] at s
      cases s
      exact .inr (n b m)
    · rw [List.getElem?_set_ne hj] at s
      exact .inl ⟨j, c', w, e, s, m⟩
  fix := fun j h => by
    rw [List.getElem?_set_ne]
    intro z; subst z; rw [f] at h; cases h
  dom := fun _ h => h
/-- what a slot holds is changed where it stands -/
theorem RelEnv.chg {i : Nat} {v : V} {c c' : C} (r : RelEnv K σ H g) (e : g[i]? = some (some c)) (s : σ[i]? = some (some v)) (k : ∀ b o, H b = some o → b ∉ ow H v c → H' b = some o) (h : RelC K H' v c') (n : ∀ b ∈ ow H' v c', b ∈ ow H v c ∨ H b = none) (dm : ∀ b, H' b = none → H b = none) :
    RelEnv K σ H' (g.set i (some c')) ∧ ∀ fx : Nat → Bool, Step fx σ g H σ (g.set i (some c')) H' := by
  have x : Ex H H' := fun b o eb i' => k b o eb fun m => by
    obtain ⟨u, eu, fu⟩ := (r.at e s).there m
    rw [eb] at eu; cases eu; rw [fu] at i'; cases i'
  have hl : i < g.length := by
    rcases Nat.lt_or_ge i g.length with h | h
    · exact h
    · rw [List.getElem?_eq_none h] at e; cases e
  have kk : ∀ {j : Nat} {d : C} {w : V}, i ≠ j → g[j]? = some (some d) → σ[j]? = some (some w) → RelC K H' w d ∧ ow H' w d = ow H w d := fun {j d w} ne e1 s1 =>
    (r.at e1 s1).ex x fun b m => by
      obtain ⟨o, eo, _⟩ := (r.at e1 s1).there m
      rw [eo]
      exact k b o eo fun z => ne (r.sep i j b c d v w e s z e1 s1 m)
  have old : ∀ {j : Nat} {b : Addr} {d : C} {w : V}, (g.set i (some c'))[j]? = some (some d) → σ[j]? = some (some w) → b ∈ ow H' w d → (∃ d', g[j]? = some (some d') ∧ b ∈ ow H w d') ∨ (i = j ∧ H b = none) := fun {j b d w} e1 s1 m1 => by
    rcases set_at e1 with ⟨rfl, e1, _⟩ | ⟨hj, e1⟩
    · cases e1
      rw [s] at s1; cases s1
      rcases n b m1 with z | z
      · exact .inl ⟨c, e, z⟩
      · exact .inr ⟨rfl, z⟩
    · rw [(kk hj e1 s1).2] at m1
      exact .inl ⟨d, e1, m1⟩
  refine ⟨⟨by rw [List.length_set]; exact r.len, fun j d e1 => ?_, fun a j b c1 c2 v1 v2 e1 s1 m1 e2 s2 m2 => ?_⟩, fun fx => ⟨fun b o eb nm => ?_, fun b ⟨j, d, w, e1, s1, m1⟩ => ?_, fun _ _ => rfl, dm⟩⟩
  · rcases set_at e1 with ⟨rfl, e1, _⟩ | ⟨hj, e1⟩
    · cases e1; exact ⟨v, s, h⟩
    · obtain ⟨w, s1, _⟩ := r.val j d e1
      exact ⟨w, s1, (kk hj e1 s1).1⟩
  · rcases old e1 s1 m1 with ⟨d1, f1, z1⟩ | ⟨h1, z1⟩
    · rcases old e2 s2 m2 with ⟨d2, f2, z2⟩ | ⟨h2, z2⟩
      · exact r.sep a j b d1 d2 v1 v2 f1 s1 z1 f2 s2 z2
      · obtain ⟨o, eo, _⟩ := (r.at f1 s1).there z1
        rw [z2] at eo; cases eo
    · rcases old e2 s2 m2 with ⟨d2, f2, z2⟩ | ⟨h2, z2⟩
      · obtain ⟨o, eo, _⟩ := (r.at f2 s2).there z2
        rw [z1] at eo; cases eo
      · exact h1.symm.trans h2
  · exact k b o eb fun m => nm ⟨i, c, v, e, s, m⟩
  · rcases old e1 s1 m1 with ⟨d1, f1, z1⟩ | ⟨h1, z1⟩
    · exact .inl ⟨j, d1, w, f1, s1, z1⟩
    · exact .inr z1
end

/-- a list is no longer written: from now on it is known as it is -/
theorem frz_inv {X : Cx} {pins : List (Addr × Obj)} {σ : St} {H : Hp} {s : Shared} {a : Addr} {vs : List V} (I : Inv X pins σ H s) (e : H a = some (.lst vs)) : ∃ o, Inv X pins σ (upd H a (.frz o (.lst vs))) s := by
  obtain ⟨z, its, n, rv, ho⟩ := I.hok a _ e
  refine ⟨{ cls := .type "list", data := .seq its.toArray n }, I.ok, I.os, I.bare, ?_, I.loc, I.cell, ?_, ?_, ?_, ?_, I.len⟩
  · have B := I.base
    refine ⟨B.keep, B.slot, fun b o q n' hx => ?_, B.there, fun b xs q => ?_, fun b o u q => ?_, fun b ps q => ?_⟩
    · have f := B.free b o q n' hx
      rw [upd_ne (fun z => by subst z; rw [e] at f; cases f)]; exact f
    · have f := B.tups b xs q
      rw [upd_ne (fun z => by subst z; rw [e] at f; cases f)]; exact f
    · have f := B.frzs b o u q
      rw [upd_ne (fun z => by subst z; rw [e] at f; cases f)]; exact f
    · obtain ⟨more, f⟩ := B.tbls b ps q
      exact ⟨more, by rw [upd_ne (fun z => by subst z; rw [e] at f; cases f)]; exact f⟩
  · have f := I.free
    rw [upd_ne (fun z => by rw [z, e] at f; cases f)]; exact f
  · intro x c q
    have f := I.freeC x c q
    rw [upd_ne (fun z => by rw [z, e] at f; cases f)]; exact f
  · intro p hp
    obtain ⟨h1, h2, h3⟩ := I.pin p hp
    exact ⟨h1, by rw [upd_ne (fun z => by rw [z, e] at h2; cases h2)]; exact h2, h3⟩
  · intro b u q
    by_cases hb : b = a
    · subst hb
      rw [upd_same] at q; cases q
      exact ⟨ho, z, its, n, rv, ho⟩
    · rw [upd_ne hb] at q
      refine (I.hok b u q).stay (fun _ _ _ k => k) (fun c k => ?_) fun c xs k => ?_
      · rw [upd_ne (fun z => by subst z; rw [e] at k; cases k)]; exact k
      · rw [upd_ne (fun z => by subst z; rw [e] at k; cases k)]; exact k
/-- .. behind an expression -/
theorem pe_ghost {X : Cx} {e : Expr} {t : TE} (he : PE X e t) : PE X e (fun σ H Q => t σ H fun v H1 => Q v H1 ∨ ∃ a vs, H1 a = some (.lst vs) ∧ ∀ o, Q v (upd H1 a (.frz o (.lst vs)))) := by
  refine ⟨fun pins s σ H Q I h => ?_⟩
  refine thn (he.run pins s σ H _ I h) fun u s1 ⟨v, H1, I1, r1, q1⟩ => ?_
  rcases q1 with q1 | ⟨a, vs, ea, q1⟩
  · exact ⟨v, H1, I1, r1, q1⟩
  · obtain ⟨o, I2⟩ := frz_inv I1 ea
    exact ⟨v, _, I2, r1, q1 o⟩
/-- a new tuple -/
theorem ep_tup {X : Cx} {pins : List (Addr × Obj)} {σ : St} {H : Hp} {s : Shared} {vs : List V} {its : List Value} {tk : Nat} {Q : VK} (I : Inv X pins σ H s) (rv : Vals vs its) (z : vs.length ≤ sizeLine)
    (q : ∀ p o, H p = none → o.dict = none → Q (.ref p) (upd H p (.frz o (.tup vs)))) : EP X pins σ Q (.ref s.heap.objs.size) { s with heap := s.heap.push { cls := .type "tuple", data := .seq its.toArray }, toks := tk } := by
  have g : (s.heap.push { cls := .type "tuple", data := .seq its.toArray }).get? s.heap.objs.size = some { cls := .type "tuple", data := .seq its.toArray } := Heap.get?_push_size _ rfl
  refine ⟨.ref s.heap.objs.size, _, I.laid (t' := tk) (o := .frz { cls := .type "tuple", data := .seq its.toArray } (.tup vs)) (fun b u e => Heap.get?_push_of_some _ e) (Nat.le_refl _) ⟨g, z, its, rv, _, g, rfl, _, rfl⟩, rfl, q _ _ (I.hok.fresh (Nat.le_refl _)) rfl⟩
theorem PE.wk {X : Cx} {e : Expr} {t t' : TE} (h : PE X e t) (w : ∀ σ H Q, t' σ H Q → t σ H Q) : PE X e t' := ⟨fun pins s σ H Q I q => h.run pins s σ H Q I (w σ H Q q)⟩
theorem PT.wk {X : Cx} {e : Expr} {t t' : TT} (h : PT X e t) (w : ∀ σ H Q, t' σ H Q → t σ H Q) : PT X e t' := ⟨fun pins s σ H Q I q => h.run pins s σ H Q I (w σ H Q q)⟩
theorem PW.wk {X : Cx} {e : Expr} {t t' : TT} (h : PW X e t) (w : ∀ σ H Q, t' σ H Q → t σ H Q) : PW X e t' := ⟨fun wh pins s σ H Q I q => h.run wh pins s σ H Q I (w σ H Q q)⟩
theorem PA.wk {X : Cx} {e : List Expr} {t t' : TA} (h : PA X e t) (w : ∀ σ H Q, t' σ H Q → t σ H Q) : PA X e t' := ⟨fun p pins s σ H Q I q => h.run p pins s σ H Q I (w σ H Q q)⟩
theorem PS.wk {X : Cx} {e : Stmt} {t t' : TS} (h : PS X e t) (w : ∀ D σ H, t' D σ H → t D σ H) : PS X e t' := ⟨fun pins s σ H D I q => h.run pins s σ H D I (w D σ H q)⟩
theorem PSs.wk {X : Cx} {e : List Stmt} {t t' : TS} (h : PSs X e t) (w : ∀ D σ H, t' D σ H → t D σ H) : PSs X e t' := ⟨fun pins s σ H D I q => h.run pins s σ H D I (w D σ H q)⟩
end PL
/-! PLb: the plain language and what it computes -/
namespace PL
open PySem PySem.Spec PyProof.Rows L2

/-! ### plain operations -/
def dOk (d : D) : Bool := decide (d.depth ≤ 60)
def pAdd : D → D → Option D
  | .int i, .int j => some (.int (i + j))
  | .str a, .str b => if a.length + b.length ≤ sizeLine then some (.str (a ++ b)) else none
  | .tuple xs, .tuple ys => if xs.length + ys.length ≤ sizeLine then some (.tuple (xs ++ ys)) else none
  | _, _ => none
def pSub : D → D → Option D
  | .int i, .int j => some (.int (i - j))
  | _, _ => none
def mulOk (i j : Int) : Bool := decide (-(2 ^ 64) < i ∧ i < 2 ^ 64) || decide (-(2 ^ 64) < j ∧ j < 2 ^ 64) || decide (i.natAbs < 2 ^ 1000 ∧ j.natAbs < 2 ^ 1000)
def pMul : D → D → Option D
  | .int i, .int j => if mulOk i j then some (.int (i * j)) else none
  | .tuple xs, .int k => if decide (xs ≠ [] ∧ 2 ≤ k ∧ k ≤ 1000 ∧ xs.length ≤ 1000) then some (.tuple (List.replicate k.toNat xs).flatten) else none
  | _, _ => none
def pDiv : D → D → Option D
  | .int i, .int j => if decide (0 < j ∧ j.natAbs < 2 ^ 1000) then some (.int (i / j)) else none
  | _, _ => none
def pMod : D → D → Option D
  | .int i, .int j => if decide (0 < j) then some (.int (i % j)) else none
  | _, _ => none
def pPow : D → D → Option D
  | .int i, .int j => if decide (0 ≤ j ∧ j ≤ 1000 ∧ i.natAbs < 2 ^ 64) then some (.int (i ^ j.toNat)) else none
  | _, _ => none
def pShl : D → D → Option D
  | .int i, .int j => if decide (0 ≤ j ∧ j ≤ 1000 ∧ i.natAbs < 2 ^ 64) then some (.int (i * 2 ^ j.toNat)) else none
  | _, _ => none
def pShr : D → D → Option D
  | .int i, .int j => if decide (0 ≤ j) then some (.int (i / 2 ^ j.toNat)) else none
  | _, _ => none
def pAnd : D → D → Option D
  | .int i, .int j => some (.int (Builtin.bitAnd i j))
  | _, _ => none
def pBin (op : Operator) (x y : D) : Option D :=
  match op with
  | .Add => pAdd x y
  | .Sub => pSub x y
  | .Mult => pMul x y
  | .FloorDiv => pDiv x y
  | .Mod => pMod x y
  | .Pow => pPow x y
  | .LShift => pShl x y
  | .RShift => pShr x y
  | .BitAnd => pAnd x y
  | _ => none
/-- .. of lists: a new list -/
def pBinL (op : Operator) (x y : D) : Option (List D) :=
  match op, x, y with
  | .Add, .list xs, .list ys => if xs.length + ys.length ≤ sizeLine then some (xs ++ ys) else none
  | _, _, _ => none
def pBinX (op : Operator) (x y : D) : Option D :=
  match pBinL op x y with
  | some zs => some (.list zs)
  | none => pBin op x y
def pNeg : D → Option D
  | .int i => some (.int (-i))
  | _ => none
def pTru : D → Option Bool
  | .none => some false
  | .bool b => some b
  | .int i => some (i != 0)
  | .str x => if x.length ≤ sizeLine then some ((x.length : Int) != 0) else none
  | .list xs => some (!xs.isEmpty)
  | .tuple xs => some (!xs.isEmpty)
  | .dict _ => none
def pEq (x y : D) : Option Bool := if dOk x && dOk y then some (PyData.eqv x y) else none
def pLt : D → D → Option Bool
  | .int i, .int j => some (decide (i < j))
  | .tuple xs, .tuple ys => if PySem.W.alikeAll xs ys && dOk (.tuple xs) && dOk (.tuple ys) then some (PySem.W.dataLt (.tuple xs) (.tuple ys)) else none
  | _, _ => none
def pGt : D → D → Option Bool
  | .int i, .int j => some (decide (j < i))
  | _, _ => none
def pLe : D → D → Option Bool
  | .int i, .int j => some (decide (i ≤ j))
  | _, _ => none
def pGe : D → D → Option Bool
  | .int i, .int j => some (decide (j ≤ i))
  | _, _ => none
def pIn (x : D) : D → Option Bool
  | .list ys => if dOk x && dOk (.list ys) then some (ys.any fun y => PyData.eqv y x) else none
  | .tuple ys => if dOk x && dOk (.tuple ys) then some (ys.any fun y => PyData.eqv y x) else none
  | .str s => match x with
    | .str y => some (!(Builtin.Str.occurrences s y 0 s.length 1).isEmpty)
    | _ => none
  | _ => none
def pIs : D → D → Option Bool
  | .none, .none => some true
  | .bool _, .none => some false
  | .int _, .none => some false
  | .str _, .none => some false
  | .list _, .none => some false
  | .tuple _, .none => some false
  | .bool a, .bool b => some (decide (a = b))
  | _, _ => none
def pCmp (op : CmpOp) (x y : D) : Option Bool :=
  match op with
  | .Eq => pEq x y
  | .NotEq => (pEq x y).map (!·)
  | .Lt => pLt x y
  | .LtE => pLe x y
  | .Gt => pGt x y
  | .GtE => pGe x y
  | .In => pIn x y
  | .NotIn => (pIn x y).map (!·)
  | .Is => pIs x y
  | .IsNot => (pIs x y).map (!·)
def pIdx : D → D → Option D
  | .list xs, .int i => atI xs i
  | .tuple xs, .int i => atI xs i
  | .str s, .int i => if s.length ≤ sizeLine then (atI s.cps.toList i).map fun c => .str ⟨#[c]⟩ else none
  | _, _ => none
def cutD (xs : List D) (lo hi : Option Int) : List D := (xs.drop (HT.sIx xs.length 0 lo)).take (HT.sIx xs.length xs.length hi - HT.sIx xs.length 0 lo)
def pCut (lo hi : Option Int) : D → Option D
  | .tuple xs => some (.tuple (cutD xs lo hi))
  | .list xs => some (.list (cutD xs lo hi))
  | _ => none
/-- the values of keywords in the order of the parameters -/
def permN {α : Type} (perm : List Nat) (zs : List α) : List α := perm.filterMap fun j => zs[j]?
inductive Ty where
  | int | bool | str | list | tuple | non
  deriving DecidableEq
def Ty.name : Ty → String
  | .int => "int" | .bool => "bool" | .str => "str" | .list => "list" | .tuple => "tuple" | .non => "NoneType"
def pIsa1 (d : D) : Ty → Bool
  | .int => match d with | .int _ => true | .bool _ => true | _ => false
  | .bool => match d with | .bool _ => true | _ => false
  | .str => match d with | .str _ => true | _ => false
  | .list => match d with | .list _ => true | _ => false
  | .tuple => match d with | .tuple _ => true | _ => false
  | .non => match d with | .none => true | _ => false
def pIsa (d : D) (ts : List Ty) : Bool := ts.any (pIsa1 d)
def pLen : D → Option D
  | .list xs => some (.int xs.length)
  | .tuple xs => some (.int xs.length)
  | .str s => if s.length ≤ sizeLine then some (.int s.length) else none
  | _ => none
def pItems : D → Option (List D)
  | .list xs => some xs
  | .tuple xs => some xs
  | _ => none
def pBools : List D → Option (List Bool)
  | [] => some []
  | .bool b :: r => (pBools r).map (b :: ·)
  | _ :: _ => none
def pInts : List D → Option (List Int)
  | [] => some []
  | .int i :: r => (pInts r).map (i :: ·)
  | _ :: _ => none
def isLst : D → Option (List D)
  | .list xs => some xs
  | _ => none
def sortOk (xs : List D) : Bool := (xs.all fun x => match x with | .tuple (_ :: _) => true | _ => false) || (xs.all fun x => match x with | .none => false | .tuple _ => false | _ => true)
def pOrd (xs : List D) : Bool := dOk (.list xs) && xs.all fun x => xs.all fun y => PySem.W.alike x y && (match x with | .none => false | _ => true)
def pMin : List D → Option D
  | [] => none
  | x :: xs => if pOrd (x :: xs) then some (PySem.W.minD x xs) else none
def pMax : List D → Option D
  | [] => none
  | x :: xs => if pOrd (x :: xs) then some (PySem.W.maxD x xs) else none
def pSorted (xs : List D) : Option (List D) := if pOrd xs && sortOk xs then some (xs.mergeSort (PySem.W.dataLe false id)) else none
def pInt : D → Option D
  | .int i => some (.int i)
  | .bool b => some (.int (if b then 1 else 0))
  | _ => none
inductive Bi where
  | len | all | any | tuple | sum | min | max | min2 | max2 | int | str
  deriving DecidableEq
def Bi.name : Bi → Str
  | .len => "len" | .all => "all" | .any => "any" | .tuple => "tuple" | .sum => "sum" | .min => "min" | .max => "max" | .min2 => "min" | .max2 => "max" | .int => "int" | .str => "str"
def pBi (f : Bi) (as : List D) : Option D :=
  match f, as with
  | .len, [a] => pLen a
  | .all, [a] => ((isLst a).bind pBools).map fun bs => .bool (bs.all id)
  | .any, [a] => ((isLst a).bind pBools).map fun bs => .bool (bs.any id)
  | .tuple, [a] => (pItems a).map .tuple
  | .sum, [a] => ((isLst a).bind pInts).map fun ns => .int ns.sum
  | .min, [a] => (pItems a).bind pMin
  | .max, [a] => (pItems a).bind pMax
  | .min2, [.int i, .int j] => some (.int (if j < i then j else i))
  | .max2, [.int i, .int j] => some (.int (if j > i then j else i))
  | .int, [a] => pInt a
  | .str, [.int i] => if i.natAbs.log2 < 1920 then some (.str (toString i)) else none
  | _, _ => none
def rngOk (i : Int) : Bool := decide (-(2 ^ 62) ≤ i ∧ i < 2 ^ 62)
def rngL (lo hi : Int) : List D := (List.range (hi - lo).toNat).map fun (k : Nat) => .int (lo + (k : Int))
def pRng1 : D → Option (List D)
  | .int j => if rngOk j then some (rngL 0 j) else none
  | _ => none
def pRng2 : D → D → Option (List D)
  | .int i, .int j => if rngOk i && rngOk j then some (rngL i j) else none
  | _, _ => none
def rngL3 (lo hi c : Int) : List D := (List.range ((hi - lo + (c - 1)) / c).toNat).map fun (k : Nat) => .int (lo + (k : Int) * c)
def pRng3 : D → D → D → Option (List D)
  | .int i, .int j, .int c => if rngOk i && rngOk j && rngOk c && decide (0 < c) && decide (c < 1000000) then some (rngL3 i j c) else none
  | _, _, _ => none
def pZip : List D → List D → List D
  | a :: r, b :: s => .tuple [a, b] :: pZip r s
  | _, _ => []
def pEnum (k : Int) : List D → List D
  | [] => []
  | a :: r => .tuple [.int k, a] :: pEnum (k + 1) r
def pPlace (xs : List D) (d : D) : Option Nat := if dOk (.list xs) && dOk d then xs.findIdx? fun y => PyData.eqv y d else none

/-! ### results -/
inductive R (α : Type) where
  | ok (a : α) (g : Env)
  | exc (c : Str) (g : Env)
  | no
abbrev M (α : Type) := Env → R α
def R.bind {α β : Type} : R α → (α → Env → R β) → R β
  | .ok a g, f => f a g
  | .exc c g, _ => .exc c g
  | .no, _ => .no
@[simp] theorem R.bind_ok {α β : Type} (a : α) (g : Env) (f : α → Env → R β) : (R.ok a g).bind f = f a g := rfl
@[simp] theorem R.bind_exc {α β : Type} (c : Str) (g : Env) (f : α → Env → R β) : (R.exc c g : R α).bind f = .exc c g := rfl
@[simp] theorem R.bind_no {α β : Type} (f : α → Env → R β) : (R.no : R α).bind f = .no := rfl
def lft {α : Type} : Option α → M α
  | some a => fun g => .ok a g
  | none => fun _ => .no
@[simp] theorem lft_some {α : Type} (a : α) (g : Env) : lft (some a) g = .ok a g := rfl
@[simp] theorem lft_none {α : Type} (g : Env) : lft (none : Option α) g = .no := rfl
/-- no error may come -/
def R.calm {α : Type} : R α → R α
  | .ok a g => .ok a g
  | _ => .no
@[simp] theorem R.calm_ok {α : Type} (a : α) (g : Env) : (R.ok a g).calm = .ok a g := rfl

/-- slot i holds something -/
def bound {α : Type} (i : Nat) (g : Env) (r : R α) : R α := match g[i]? with
  | some (some _) => r
  | _ => .no
/-- slot i holds a list that may be written -/
def boundM {α : Type} (i : Nat) (g : Env) (r : R α) : R α := match g[i]? with
  | some (some (.ml _)) => r
  | _ => .no
/-- what a def answers, and what its arguments' slots then hold -/
inductive RF where
  | ok (r : C) (as : List (Option C))
  | exc (c : Str) (as : List (Option C))
  | no
abbrev FS := List C → RF
inductive AV where
  | d (d : D)
  | s (i : Nat)
def resolve (g : Env) : List AV → Option (List C)
  | [] => some []
  | .d d :: r => (resolve g r).map (.pu d :: ·)
  | .s i :: r => match g[i]? with
    | some (some c) => (resolve g r).map (c :: ·)
    | _ => none
def putBack : List AV → List (Option C) → Env → Env
  | .d _ :: r, _ :: cs, g => putBack r cs g
  | .s i :: r, c :: cs, g => putBack r cs (g.set i c)
  | _, _, g => g
def callF (F : FS) (avs : List AV) : M C := fun g =>
  match resolve g avs with
  | none => .no
  | some cs => match F cs with
    | .ok r as => .ok r (putBack avs as g)
    | .exc c as => .exc c (putBack avs as g)
    | .no => .no
def asD : C → Option D
  | .pu d => some d
  | .ml ds => some (.list ds)
  | _ => none
def asL : C → Option (List D)
  | .ml ds => some ds
  | _ => none

/-! ### the language -/
inductive Tg where
  | nm (i : Nat)
  | tp (l : List Nat)
  | tq (l : List (List Nat ⊕ Nat))
mutual
inductive E where
  | var (i : Nat)
  | con (d : D)
  | glob (x : Str) (d : D)
  | tup (as : A)
  | fz (f : F)
  | bin (op : Operator) (a b : E)
  | neg (a : E)
  | not (a : E)
  | and (l : EL)
  | or (l : EL)
  | cmp (op : CmpOp) (a b : E)
  | cmpL (op : CmpOp) (s : Nat) (b : E)
  | cmpR (op : CmpOp) (a : E) (s : Nat)
  | chain (op op' : CmpOp) (a b c : E)
  | ite (c : T) (a b : E)
  | call (k : Nat) (as : A)
  | callK (k : Nat) (ks : List Str) (perm : List Nat) (as : A)
  | bi (f : Bi) (as : A)
  | biS (f : Bi) (s : Nat)
  | isa (a : E) (ts : List Ty)
  | idx (a i : E)
  | idxS (s : Nat) (i : E)
  | slc (a : E) (lo hi : OE)
  | rev (a : E)
  | pop (s : Nat) (i : E)
  | popL (s : Nat)
  | index (a b : E)
  | indexS (s : Nat) (b : E)
  | tupR (r : RE)
  | app (s : Nat) (e : E)
  | ext (s : Nat) (e : E)
  | lenX (s : Nat)
  | atX (s : Nat) (i : E)
inductive RE where
  | one (a : E)
  | two (a b : E)
inductive OE where
  | no
  | e (a : E)
inductive EL where
  | one (a : E)
  | cons (a : E) (r : EL)
inductive T where
  | e (a : E)
  | cmp (op : CmpOp) (a b : E)
  | cmpL (op : CmpOp) (s : Nat) (b : E)
  | cmpR (op : CmpOp) (a : E) (s : Nat)
  | chain (op op' : CmpOp) (a b c : E)
  | and (l : TL)
  | or (l : TL)
  | not (a : T)
inductive TL where
  | one (a : T)
  | cons (a : T) (r : TL)
inductive OT where
  | no
  | t (a : T)
inductive A where
  | nil
  | cons (a : E) (r : A)
  | io (s : Nat) (r : A)
inductive It where
  | val (e : E)
  | slot (s : Nat)
  | rng1 (a : E)
  | rng2 (a b : E)
  | rng3 (a b c : E)
  | enum (e : E)
  | zip (a b : E)
inductive F where
  | lst (as : A)
  | comp (own : List Nat) (tg : Tg) (it : It) (ifs : OT) (elt : E)
  | comp2 (own own2 : List Nat) (tg : Tg) (it : It) (ifs : OT) (tg2 : Tg) (it2 : It) (ifs2 : OT) (elt : E)
  | copy (a : E)
  | copyS (s : Nat)
  | lrng (r : RE)
  | rep (f : F) (n : E)
  | cat (a b : E)
  | sorted (a : E)
  | slc (a : E) (lo hi : OE)
  | rev (a : E)
  | call (k : Nat) (as : A)
  | cutX (s : Nat) (lo hi : OE)
end

def setTs : List Nat → List D → Env → Option Env
  | [], [], g => some g
  | i :: r, d :: ds, g => setTs r ds (g.set i (some (.pu d)))
  | _, _, _ => none
def setTq : List (List Nat ⊕ Nat) → List D → Env → Option Env
  | [], [], g => some g
  | .inr i :: r, d :: ds, g => setTq r ds (g.set i (some (.pu d)))
  | .inl l :: r, .tuple es :: ds, g => match setTs l es g with
    | some g1 => setTq r ds g1
    | none => none
  | _, _, _ => none
def setTg : Tg → D → Env → Option Env
  | .nm i, d, g => some (g.set i (some (.pu d)))
  | .tp l, .tuple ds, g => setTs l ds g
  | .tq l, .tuple ds, g => setTq l ds g
  | _, _, _ => none
def wipeE (g : Env) : List Nat → Env
  | [] => g
  | v :: vs => (wipeE g vs).set v none
/-- behind a block: its own names as ahead -/
def backE : List Nat → Env → Env → Env
  | [], _, g' => g'
  | v :: vs, g, g' => (backE vs g g').set v (g[v]?).join
def compL (own : List Nat) (tg : Tg) (cond : M Bool) (elt : M D) : List D → M (List D)
  | [], g => .ok [] g
  | d :: ds, g => match setTg tg d g with
    | none => .no
    | some g1 => (cond g1).calm.bind fun b g2 => if b then (elt g2).calm.bind fun x g3 => (compL own tg cond elt ds (wipeE g3 own)).bind fun xs g4 => .ok (x :: xs) g4 else compL own tg cond elt ds (wipeE g2 own)
/-- over a list that may be written, as it stands at each turn -/
def compS (own : List Nat) (s : Nat) (tg : Tg) (cond : M Bool) (elt : M D) : Nat → Nat → M (List D)
  | 0, i, g => match g[s]? with
    | some (some (.ml ds)) => if ds.length ≤ i then .ok [] g else .no
    | _ => .no
  | n + 1, i, g => match g[s]? with
    | some (some (.ml ds)) => match ds[i]? with
      | none => .ok [] g
      | some d => match setTg tg d g with
        | none => .no
        | some g1 => (cond g1).calm.bind fun b g2 => if b then (elt g2).calm.bind fun x g3 => (compS own s tg cond elt n (i + 1) (wipeE g3 own)).bind fun xs g4 => .ok (x :: xs) g4 else compS own s tg cond elt n (i + 1) (wipeE g2 own)
    | _ => .no
def mlLen (g : Env) (s : Nat) : Nat := match g[s]? with
  | some (some (.ml ds)) => ds.length
  | _ => 0
/-- two clauses: the inner one -/
def compL2 (own own2 : List Nat) (tg : Tg) (cond : M Bool) (it2 : M (List D)) (inner : List D → M (List D)) : List D → M (List D)
  | [], g => .ok [] g
  | d :: ds, g => match setTg tg d g with
    | none => .no
    | some g1 => (cond g1).calm.bind fun b g2 => if b then (it2 g2).calm.bind fun es g3 => (inner es (wipeE g3 own2)).calm.bind fun xs g4 => (compL2 own own2 tg cond it2 inner ds (wipeE (backE own2 g3 g4) own)).bind fun ys g5 => .ok (xs ++ ys) g5 else compL2 own own2 tg cond it2 inner ds (wipeE g2 own)
def isBl : D → Option Bool
  | .bool b => some b
  | _ => none
def isIn : D → Option Int
  | .int i => some i
  | _ => none
section
variable (tb : List FS)
def fn (k : Nat) : FS := tb.getD k fun _ => .no
mutual
def ev : E → M D
  | .var i, g => match g[i]? with
    | some (some (.pu d)) => .ok d g
    | some (some (.ml ds)) => .ok (.list ds) (g.set i (some (.pu (.list ds))))
    | _ => .no
  | .con d, g => .ok d g
  | .glob _ d, g => .ok d g
  | .tup as, g => (evA as g).bind fun ds g1 => if ds.length ≤ sizeLine then .ok (.tuple ds) g1 else .no
  | .fz f, g => (evF f g).bind fun ds g1 => .ok (.list ds) g1
  | .bin op a b, g => (ev a g).bind fun x g1 => (ev b g1).bind fun y g2 => lft (pBinX op x y) g2
  | .neg a, g => (ev a g).bind fun x g1 => lft (pNeg x) g1
  | .not a, g => (ev a g).bind fun x g1 => (lft (pTru x) g1).bind fun b g2 => .ok (.bool (!b)) g2
  | .and l, g => evAnd l g
  | .or l, g => evOr l g
  | .cmp op a b, g => (ev a g).bind fun x g1 => (ev b g1).bind fun y g2 => (lft (pCmp op x y) g2).bind fun b g3 => .ok (.bool b) g3
  | .cmpL op s b, g => bound s g <| (ev b g).bind fun y g1 => match g1[s]? with
    | some (some (.ml ds)) => (lft (pCmp op (.list ds) y) g1).bind fun b g3 => .ok (.bool b) g3
    | _ => .no
  | .cmpR op a s, g => (ev a g).bind fun x g1 => match g1[s]? with
    | some (some (.ml ds)) => (lft (pCmp op x (.list ds)) g1).bind fun b g3 => .ok (.bool b) g3
    | _ => .no
  | .chain op op' a b c, g => (ev a g).bind fun x g1 => (ev b g1).bind fun y g2 => (lft (pCmp op x y) g2).bind fun k g3 =>
      if k then (ev c g3).bind fun z g4 => (lft (pCmp op' y z) g4).bind fun k' g5 => .ok (.bool k') g5 else .ok (.bool false) g3
  | .ite c a b, g => (evT c g).bind fun k g1 => if k then ev a g1 else ev b g1
  | .call k as, g => ((evV as g).bind fun avs g1 => callF (fn tb k) avs g1).bind fun c g2 => lft (asD c) g2
  | .callK k ks perm as, g => ((evA as g).bind fun ds g1 => if ds.length = ks.length ∧ (permN perm ds).length = perm.length then callF (fn tb k) ((permN perm ds).map .d) g1 else .no).bind fun c g2 => lft (asD c) g2
  | .bi f as, g => (evA as g).bind fun ds g1 => lft (pBi f ds) g1
  | .biS f s, g => match g[s]? with
    | some (some (.ml ds)) => lft (pBi f [.list ds]) g
    | _ => .no
  | .isa a ts, g => (ev a g).bind fun x g1 => .ok (.bool (pIsa x ts)) g1
  | .idx a i, g => (ev a g).bind fun x g1 => (ev i g1).bind fun y g2 => lft (pIdx x y) g2
  | .idxS s i, g => bound s g <| (ev i g).bind fun y g1 => match g1[s]? with
    | some (some (.ml ds)) => lft (pIdx (.list ds) y) g1
    | _ => .no
  | .slc a lo hi, g => (ev a g).bind fun x g1 => (evO lo g1).bind fun l g2 => (evO hi g2).bind fun h g3 => lft (pCut l h x) g3
  | .rev a, g => (ev a g).bind fun x g1 => match x with
    | .tuple xs => .ok (.tuple xs.reverse) g1
    | _ => .no
  | .pop s i, g => boundM s g <| (ev i g).bind fun y g1 => (lft (isIn y) g1).bind fun k g2 => match g2[s]? with
    | some (some (.ml ds)) => if 0 ≤ k ∧ k < 2 ^ 62 then (match ds[k.toNat]? with
      | some d => .ok d (g2.set s (some (.ml (ds.eraseIdx k.toNat))))
      | none => .no) else .no
    | _ => .no
  | .popL s, g => match g[s]? with
    | some (some (.ml ds)) => (match ds[ds.length - 1]? with
      | some d => .ok d (g.set s (some (.ml ds.dropLast)))
      | none => .no)
    | _ => .no
  | .index a b, g => (ev a g).bind fun x g1 => (ev b g1).bind fun y g2 => (lft (pItems x) g2).bind fun xs g3 => (lft (pPlace xs y) g3).bind fun j g4 => .ok (.int j) g4
  | .indexS s b, g => boundM s g <| (ev b g).bind fun y g1 => match g1[s]? with
    | some (some (.ml ds)) => (lft (pPlace ds y) g1).bind fun j g4 => .ok (.int j) g4
    | _ => .no
  | .app s e, g => boundM s g <| (ev e g).bind fun y g1 => match g1[s]? with
    | some (some (.ml ds)) => if ds.length < sizeLine then .ok .none (g1.set s (some (.ml (ds ++ [y])))) else .no
    | _ => .no
  | .ext s e, g => boundM s g <| (ev e g).bind fun y g1 => (lft (isLst y) g1).bind fun zs g2 => match g2[s]? with
    | some (some (.ml ds)) => if ds.length + zs.length ≤ sizeLine then .ok .none (g2.set s (some (.ml (ds ++ zs)))) else .no
    | _ => .no
  | .lenX s, g => match g[s]? with
    | some (some (.sl ds)) => .ok (.int ds.length) g
    | _ => .no
  | .atX s i, g => bound s g <| (ev i g).bind fun y g1 => match g1[s]? with
    | some (some (.sl ds)) => lft (pIdx (.list ds) y) g1
    | _ => .no
  | .tupR r, g => (evR r g).bind fun ij g1 => if rngOk ij.1 && rngOk ij.2 then (if (rngL ij.1 ij.2).length ≤ sizeLine then .ok (.tuple (rngL ij.1 ij.2)) g1 else .no) else .no
def evR : RE → M (Int × Int)
  | .one a, g => (ev a g).bind fun x g1 => (lft (isIn x) g1).bind fun i g2 => .ok (0, i) g2
  | .two a b, g => (ev a g).bind fun x g1 => (ev b g1).bind fun y g2 => (lft (isIn x) g2).bind fun i g3 => (lft (isIn y) g3).bind fun j g4 => .ok (i, j) g4
def evO : OE → M (Option Int)
  | .no, g => .ok none g
  | .e a, g => (ev a g).bind fun x g1 => (lft (isIn x) g1).bind fun i g2 => .ok (some i) g2
def evAnd : EL → M D
  | .one a, g => ev a g
  | .cons a r, g => (ev a g).bind fun x g1 => (lft (isBl x) g1).bind fun b g2 => if b then evAnd r g2 else .ok (.bool false) g2
def evOr : EL → M D
  | .one a, g => ev a g
  | .cons a r, g => (ev a g).bind fun x g1 => (lft (isBl x) g1).bind fun b g2 => if b then .ok (.bool true) g2 else evOr r g2
def evT : T → M Bool
  | .e a, g => (ev a g).bind fun x g1 => lft (pTru x) g1
  | .cmp op a b, g => (ev a g).bind fun x g1 => (ev b g1).bind fun y g2 => lft (pCmp op x y) g2
  | .cmpL op s b, g => bound s g <| (ev b g).bind fun y g1 => match g1[s]? with
    | some (some (.ml ds)) => lft (pCmp op (.list ds) y) g1
    | _ => .no
  | .cmpR op a s, g => (ev a g).bind fun x g1 => match g1[s]? with
    | some (some (.ml ds)) => lft (pCmp op x (.list ds)) g1
    | _ => .no
  | .chain op op' a b c, g => (ev a g).bind fun x g1 => (ev b g1).bind fun y g2 => (lft (pCmp op x y) g2).bind fun k g3 =>
      if k then (ev c g3).bind fun z g4 => lft (pCmp op' y z) g4 else .ok false g3
  | .and l, g => evTA l g
  | .or l, g => evTO l g
  | .not a, g => (evT a g).bind fun b g1 => .ok (!b) g1
def evTA : TL → M Bool
  | .one a, g => evT a g
  | .cons a r, g => (evT a g).bind fun b g1 => if b then evTA r g1 else .ok false g1
def evTO : TL → M Bool
  | .one a, g => evT a g
  | .cons a r, g => (evT a g).bind fun b g1 => if b then .ok true g1 else evTO r g1
def evOT : OT → M Bool
  | .no, g => .ok true g
  | .t a, g => evT a g
def evA : A → M (List D)
  | .nil, g => .ok [] g
  | .cons a r, g => (ev a g).bind fun x g1 => (evA r g1).bind fun xs g2 => .ok (x :: xs) g2
  | .io _ _, _ => .no
def evV : A → M (List AV)
  | .nil, g => .ok [] g
  | .cons a r, g => (ev a g).bind fun x g1 => (evV r g1).bind fun xs g2 => .ok (.d x :: xs) g2
  | .io s r, g => bound s g <| (evV r g).bind fun xs g2 => .ok (.s s :: xs) g2
def evI : It → M (List D)
  | .val e, g => (ev e g).bind fun x g1 => lft (pItems x) g1
  | .slot _, _ => .no
  | .rng1 a, g => (ev a g).bind fun x g1 => lft (pRng1 x) g1
  | .rng2 a b, g => (ev a g).bind fun x g1 => (ev b g1).bind fun y g2 => lft (pRng2 x y) g2
  | .rng3 a b c, g => (ev a g).bind fun x g1 => (ev b g1).bind fun y g2 => (ev c g2).bind fun z g3 => lft (pRng3 x y z) g3
  | .enum e, g => (ev e g).bind fun x g1 => (lft (pItems x) g1).bind fun xs g2 => .ok (pEnum 0 xs) g2
  | .zip a b, g => (ev a g).bind fun x g1 => (ev b g1).bind fun y g2 => (lft (pItems x) g2).bind fun xs g3 => (lft (pItems y) g3).bind fun ys g4 => .ok (pZip xs ys) g4
def evF : F → M (List D)
  | .lst as, g => (evA as g).bind fun ds g1 => if ds.length ≤ sizeLine then .ok ds g1 else .no
  | .comp own tg it ifs elt, g =>
    (evI it g).bind fun ds g1 => (compL own tg (evOT ifs) (ev elt) ds (wipeE g1 own)).bind fun xs g2 => if xs.length ≤ sizeLine then .ok xs (backE own g1 g2) else .no
  | .comp2 own own2 tg it ifs tg2 it2 ifs2 elt, g =>
    (evI it g).bind fun ds g1 => (compL2 own own2 tg (evOT ifs) (evI it2) (compL own2 tg2 (evOT ifs2) (ev elt)) ds (wipeE g1 own)).bind fun xs g2 => if xs.length ≤ sizeLine then .ok xs (backE own g1 g2) else .no
  | .copy a, g => (ev a g).bind fun x g1 => lft (pItems x) g1
  | .copyS s, g => match g[s]? with
    | some (some (.ml ds)) => .ok ds g
    | _ => .no
  | .lrng r, g => (evR r g).bind fun ij g1 => if rngOk ij.1 && rngOk ij.2 then (if (rngL ij.1 ij.2).length ≤ sizeLine then .ok (rngL ij.1 ij.2) g1 else .no) else .no
  | .rep f n, g => (evF f g).bind fun xs g1 => (ev n g1).bind fun y g2 => (lft (isIn y) g2).bind fun k g3 =>
      if decide (-(2 ^ 62) ≤ k ∧ k < 2 ^ 62 ∧ xs.length * k.toNat ≤ sizeLine) then .ok (List.replicate k.toNat xs).flatten g3 else .no
  | .cat a b, g => (ev a g).bind fun x g1 => (ev b g1).bind fun y g2 => match x, y with
    | .list xs, .list ys => if xs.length + ys.length ≤ sizeLine then .ok (xs ++ ys) g2 else .no
    | _, _ => .no
  | .sorted a, g => (ev a g).bind fun x g1 => (lft (isLst x) g1).bind fun xs g2 => lft (pSorted xs) g2
  | .slc a lo hi, g => (ev a g).bind fun x g1 => (evO lo g1).bind fun l g2 => (evO hi g2).bind fun h g3 => match x with
    | .list xs => .ok (cutD xs l h) g3
    | _ => .no
  | .rev a, g => (ev a g).bind fun x g1 => match x with
    | .list xs => .ok xs.reverse g1
    | _ => .no
  | .call k as, g => ((evV as g).bind fun avs g1 => callF (fn tb k) avs g1).bind fun c g2 => lft (asL c) g2
  | .cutX s lo hi, g => bound s g <| (evO lo g).bind fun l g2 => (evO hi g2).bind fun h g3 => match g3[s]? with
    | some (some (.sl ds)) => .ok (cutD ds l h) g3
    | _ => .no
end
end
end PL
/-! PLc: the operations by values -/
namespace PL
open PySem PySem.Spec PyProof.Rows L2

section
variable {K : PySem.W.Frag} {H : Hp}
mutual
theorem dp_plain : ∀ {d : D} {v : V}, Dp K H v d → d.plain = true
  | _, _, .non => rfl
  | _, _, .bl b => rfl
  | _, _, .int i => rfl
  | _, _, .str s => rfl
  | _, _, .lst h r => dpa_plain r
  | _, _, .tup h r => dpa_plain r
theorem dpa_plain : ∀ {ds : List D} {vs : List V}, DpAll K H vs ds → PyData.plainAll ds = true
  | _, _, .nil => rfl
  | _, _, .cons h r => by rw [PyData.plainAll, dp_plain h, dpa_plain r]; rfl
end
theorem dp_int {v : V} {i : Int} (h : Dp K H v (.int i)) : v = .int i := by cases h; rfl
theorem dp_bl {v : V} {i : Bool} (h : Dp K H v (.bool i)) : v = .bl i := by cases h; rfl
theorem dp_str {v : V} {i : Str} (h : Dp K H v (.str i)) : v = .str i := by cases h; rfl
theorem dp_non {v : V} (h : Dp K H v .none) : v = .non := by cases h; rfl
theorem dp_lst {v : V} {ds : List D} (h : Dp K H v (.list ds)) : ∃ a xs, v = .ref a ∧ SqL K H a xs ∧ DpAll K H xs ds := by cases h with | lst h r => exact ⟨_, _, rfl, h, r⟩
theorem dp_tup {v : V} {ds : List D} (h : Dp K H v (.tuple ds)) : ∃ a xs, v = .ref a ∧ SqT K H a xs ∧ DpAll K H xs ds := by cases h with | tup h r => exact ⟨_, _, rfl, h, r⟩
theorem rp_int {v : V} {i : Int} (h : Rp K H v (.int i)) : v = .int i := dp_int h.dp
theorem rp_bl {v : V} {i : Bool} (h : Rp K H v (.bool i)) : v = .bl i := dp_bl h.dp
theorem rp_str {v : V} {i : Str} (h : Rp K H v (.str i)) : v = .str i := dp_str h.dp
theorem rp_non {v : V} (h : Rp K H v .none) : v = .non := dp_non h.dp
theorem rp_lst {v : V} {ds : List D} (h : Rp K H v (.list ds)) : ∃ a o xs, v = .ref a ∧ H a = some (.frz o (.lst xs)) ∧ RpAll K H xs ds := by cases h with | lst h r => exact ⟨_, _, _, rfl, h, r⟩
theorem rp_tup {v : V} {ds : List D} (h : Rp K H v (.tuple ds)) : ∃ a xs, v = .ref a ∧ TupR K H a xs ∧ RpAll K H xs ds := by cases h with | tup h r => exact ⟨_, _, rfl, h, r⟩
theorem dpa_len : ∀ {ds : List D} {vs : List V}, DpAll K H vs ds → vs.length = ds.length
  | _, _, .nil => rfl
  | _, _, .cons _ r => by rw [List.length_cons, List.length_cons, dpa_len r]
end

section
variable {X : Cx}
/-! ### comparisons -/
def rCmpD (K : PySem.W.Frag) (op : CmpOp) : R2 := fun x y H Q => ∃ d e b, Dp K H x d ∧ Dp K H y e ∧ pCmp op d e = some b ∧ Q (.bl b) H
theorem pEq_some {x y : D} {b : Bool} (h : pEq x y = some b) : x.depth ≤ 60 ∧ y.depth ≤ 60 ∧ b = PyData.eqv x y := by
  unfold pEq dOk at h
  split at h
  · rename_i hc
    simp only [Bool.and_eq_true, decide_eq_true_eq] at hc
    cases h
    exact ⟨hc.1, hc.2, rfl⟩
  · cases h
theorem pIn_list {x : D} {ys : List D} {b : Bool} (h0 : pIn x (.list ys) = some b) : x.depth ≤ 60 ∧ (PyData.list ys).depth ≤ 60 ∧ b = ys.any fun y => PyData.eqv y x := by
  have h : (if (decide (x.depth ≤ 60) && decide ((PyData.list ys).depth ≤ 60)) = true then some (ys.any fun y => PyData.eqv y x) else none) = some b := h0
  split at h
  · rename_i hc
    simp only [Bool.and_eq_true, decide_eq_true_eq] at hc
    cases h
    exact ⟨hc.1, hc.2, rfl⟩
  · cases h
theorem pIn_tup {x : D} {ys : List D} {b : Bool} (h0 : pIn x (.tuple ys) = some b) : x.depth ≤ 60 ∧ (PyData.tuple ys).depth ≤ 60 ∧ b = ys.any fun y => PyData.eqv y x := by
  have h : (if (decide (x.depth ≤ 60) && decide ((PyData.tuple ys).depth ≤ 60)) = true then some (ys.any fun y => PyData.eqv y x) else none) = some b := h0
  split at h
  · rename_i hc
    simp only [Bool.and_eq_true, decide_eq_true_eq] at hc
    cases h
    exact ⟨hc.1, hc.2, rfl⟩
  · cases h
theorem op_ltD (hu : X.A.units + 64 < cLine) : OpR X (compareOp .Lt) (rCmpD X.K .Lt) := by
  intro pins s σ H x y v u Q I rx ry h
  obtain ⟨d, e, b, hd, he, hp, q⟩ := h
  have hp : pLt d e = some b := hp
  cases d with
  | int i =>
    cases e with
    | int j =>
      cases dp_int hd; cases dp_int he
      cases hp
      exact op_lt pins s σ H _ _ v u Q I rx ry ⟨i, j, rfl, rfl, q⟩
    | _ => cases hp
  | tuple xs =>
    cases e with
    | tuple ys =>
      have hp : (if (PySem.W.alikeAll xs ys && decide ((PyData.tuple xs).depth ≤ 60) && decide ((PyData.tuple ys).depth ≤ 60)) = true then some (PySem.W.dataLt (.tuple xs) (.tuple ys)) else none) = some b := hp
      split at hp
      · rename_i hc
        simp only [Bool.and_eq_true, decide_eq_true_eq] at hc
        obtain ⟨⟨h1, h2⟩, h3⟩ := hc
        cases hp
        obtain ⟨as, r1⟩ := Dp.reads I _ x v hd rx
        obtain ⟨bs, r2⟩ := Dp.reads I _ y u he ry
        exact PySem.W.lt_data r1 r2 h1 (by simp) (by omega) ⟨.bl _, H, I, rfl, q⟩
      · cases hp
    | _ => cases hp
  | _ => cases e <;> cases hp
theorem op_cmpD (op : CmpOp) (hu : X.A.units + 64 < cLine) : OpR X (compareOp op) (rCmpD X.K op) := by
  cases op with
  | Lt => exact op_ltD hu
  | Eq =>
    intro pins s σ H x y v u Q I rx ry h
    obtain ⟨d, e, b, hd, he, hp, q⟩ := h
    obtain ⟨h1, h2, rfl⟩ := pEq_some hp
    obtain ⟨as, r1⟩ := Dp.reads I d x v hd rx
    obtain ⟨bs, r2⟩ := Dp.reads I e y u he ry
    exact SeqAt.eq_plain r1 r2 (dp_plain hd) (dp_plain he) (by omega) ⟨.bl _, H, I, rfl, q⟩
  | NotEq =>
    intro pins s σ H x y v u Q I rx ry h
    obtain ⟨d, e, b, hd, he, hp, q⟩ := h
    obtain ⟨b', hp2, rfl⟩ := Option.map_eq_some_iff.mp (show (pEq d e).map (!·) = some b from hp)
    obtain ⟨h1, h2, rfl⟩ := pEq_some hp2
    obtain ⟨as, r1⟩ := Dp.reads I d x v hd rx
    obtain ⟨bs, r2⟩ := Dp.reads I e y u he ry
    exact SeqAt.ne_plain r1 r2 (dp_plain hd) (dp_plain he) (by omega) ⟨.bl _, H, I, rfl, q⟩
  | LtE =>
    intro pins s σ H x y v u Q I rx ry h
    obtain ⟨d, e, b, hd, he, hp, q⟩ := h
    have hp : pLe d e = some b := hp
    cases d <;> cases e <;> first | cases hp | skip
    cases dp_int hd; cases dp_int he
    exact op_le pins s σ H _ _ v u Q I rx ry ⟨_, _, rfl, rfl, q⟩
  | Gt =>
    intro pins s σ H x y v u Q I rx ry h
    obtain ⟨d, e, b, hd, he, hp, q⟩ := h
    have hp : pGt d e = some b := hp
    cases d <;> cases e <;> first | cases hp | skip
    cases dp_int hd; cases dp_int he
    exact op_gt pins s σ H _ _ v u Q I rx ry ⟨_, _, rfl, rfl, q⟩
  | GtE =>
    intro pins s σ H x y v u Q I rx ry h
    obtain ⟨d, e, b, hd, he, hp, q⟩ := h
    have hp : pGe d e = some b := hp
    cases d <;> cases e <;> first | cases hp | skip
    cases dp_int hd; cases dp_int he
    exact op_ge pins s σ H _ _ v u Q I rx ry ⟨_, _, rfl, rfl, q⟩
  | In =>
    intro pins s σ H x y v u Q I rx ry h
    obtain ⟨d, e, b, hd, he, hp, q⟩ := h
    have hp : pIn d e = some b := hp
    cases e with
    | list ys =>
      obtain ⟨h1, h2, rfl⟩ := pIn_list hp
      obtain ⟨as, r1⟩ := Dp.reads I d x v hd rx
      obtain ⟨bs, r2⟩ := Dp.reads I _ y u he ry
      have hz : PyData.depthAll ys ≤ 60 := by rw [PyData.depth] at h2; omega
      exact SeqAt.in_list_data r2 r1 (by have := dp_plain he; rwa [PyData.plain] at this) (dp_plain hd) (by omega) ⟨.bl _, H, I, rfl, q⟩
    | tuple ys =>
      obtain ⟨h1, h2, rfl⟩ := pIn_tup hp
      obtain ⟨as, r1⟩ := Dp.reads I d x v hd rx
      obtain ⟨bs, r2⟩ := Dp.reads I _ y u he ry
      have hz : PyData.depthAll ys ≤ 60 := by rw [PyData.depth] at h2; omega
      exact SeqAt.in_tuple_data r2 r1 (by have := dp_plain he; rwa [PyData.plain] at this) (dp_plain hd) (by omega) ⟨.bl _, H, I, rfl, q⟩
    | str t =>
      cases d with
      | str z =>
        cases dp_str hd; cases dp_str he
        cases hp
        exact op_in_str pins s σ H _ _ v u Q I rx ry ⟨_, _, rfl, rfl, q⟩
      | _ => cases hp
    | _ => cases hp
  | NotIn =>
    intro pins s σ H x y v u Q I rx ry h
    obtain ⟨d, e, b, hd, he, hp, q⟩ := h
    obtain ⟨b', hp2, rfl⟩ := Option.map_eq_some_iff.mp (show (pIn d e).map (!·) = some b from hp)
    cases e with
    | list ys =>
      obtain ⟨h1, h2, rfl⟩ := pIn_list hp2
      obtain ⟨as, r1⟩ := Dp.reads I d x v hd rx
      obtain ⟨bs, r2⟩ := Dp.reads I _ y u he ry
      have hz : PyData.depthAll ys ≤ 60 := by rw [PyData.depth] at h2; omega
      exact SeqAt.notIn_list_data r2 r1 (by have := dp_plain he; rwa [PyData.plain] at this) (dp_plain hd) (by omega) ⟨.bl _, H, I, rfl, q⟩
    | tuple ys =>
      obtain ⟨h1, h2, rfl⟩ := pIn_tup hp2
      obtain ⟨as, r1⟩ := Dp.reads I d x v hd rx
      obtain ⟨bs, r2⟩ := Dp.reads I _ y u he ry
      have hz : PyData.depthAll ys ≤ 60 := by rw [PyData.depth] at h2; omega
      exact SeqAt.notIn_tuple_data r2 r1 (by have := dp_plain he; rwa [PyData.plain] at this) (dp_plain hd) (by omega) ⟨.bl _, H, I, rfl, q⟩
    | str t =>
      cases d with
      | str z =>
        cases dp_str hd; cases dp_str he
        cases hp2
        exact op_notin_str pins s σ H _ _ v u Q I rx ry ⟨_, _, rfl, rfl, q⟩
      | _ => cases hp2
    | _ => cases hp2
  | Is =>
    intro pins s σ H x y v u Q I rx ry h
    obtain ⟨d, e, b, hd, he, hp, q⟩ := h
    have hp : pIs d e = some b := hp
    cases e with
    | none =>
      cases dp_non he
      refine op_isN pins s σ H _ _ v u Q I rx ry ⟨rfl, ?_⟩
      cases d with
      | none => cases dp_non hd; cases hp; exact q
      | bool c => cases dp_bl hd; cases hp; exact q
      | int c => cases dp_int hd; cases hp; exact q
      | str c => cases dp_str hd; cases hp; exact q
      | list c => obtain ⟨a, xs, rfl, _⟩ := dp_lst hd; cases hp; exact q
      | tuple c => obtain ⟨a, xs, rfl, _⟩ := dp_tup hd; cases hp; exact q
      | dict c => cases hp
    | bool c =>
      cases d with
      | bool c' =>
        cases dp_bl hd; cases dp_bl he
        cases hp
        exact op_is_bl pins s σ H _ _ v u Q I rx ry ⟨_, _, rfl, rfl, q⟩
      | _ => cases hp
    | _ => cases d <;> cases hp
  | IsNot =>
    intro pins s σ H x y v u Q I rx ry h
    obtain ⟨d, e, b, hd, he, hp, q⟩ := h
    obtain ⟨b', hp2, rfl⟩ := Option.map_eq_some_iff.mp (show (pIs d e).map (!·) = some b from hp)
    cases e with
    | none =>
      cases dp_non he
      refine op_notN pins s σ H _ _ v u Q I rx ry ⟨rfl, ?_⟩
      cases d with
      | none => cases dp_non hd; cases hp2; exact q
      | bool c => cases dp_bl hd; cases hp2; exact q
      | int c => cases dp_int hd; cases hp2; exact q
      | str c => cases dp_str hd; cases hp2; exact q
      | list c => obtain ⟨a, xs, rfl, _⟩ := dp_lst hd; cases hp2; exact q
      | tuple c => obtain ⟨a, xs, rfl, _⟩ := dp_tup hd; cases hp2; exact q
      | dict c => cases hp2
    | bool c =>
      cases d with
      | bool c' =>
        cases dp_bl hd; cases dp_bl he
        cases hp2
        exact op_isnot_bl pins s σ H _ _ v u Q I rx ry ⟨_, _, rfl, rfl, q⟩
      | _ => cases hp2
    | _ => cases d <;> cases hp2
end
end PL
/-! PLd: what makes values, by values -/
namespace PL
open PySem PySem.Spec PyProof.Rows L2

def Grow (H H' : Hp) : Prop := ∀ b o, H b = some o → H' b = some o
theorem Grow.refl {H : Hp} : Grow H H := fun _ _ e => e
theorem Grow.new {H : Hp} {p : Addr} {o : HO} (n : H p = none) : Grow H (upd H p o) := new_keeps n
theorem Grow.ex {H H' : Hp} (g : Grow H H') : Ex H H' := fun b o e _ => g b o e
/-- a value that stands for r, perhaps new -/
def Val (K : PySem.W.Frag) (H : Hp) (r : D) (Q : VK) : Prop := ∀ v H', Grow H H' → Rp K H' v r → Q v H'
theorem Val.here {K : PySem.W.Frag} {H : Hp} {r : D} {Q : VK} (h : Val K H r Q) {v : V} (e : Rp K H v r) : Q v H := h v H Grow.refl e
theorem rpa_flat {K : PySem.W.Frag} {H : Hp} {vs : List V} {ds : List D} (r : RpAll K H vs ds) : ∀ k : Nat, RpAll K H (List.replicate k vs).flatten (List.replicate k ds).flatten
  | 0 => .nil
  | k + 1 => by rw [List.replicate_succ, List.replicate_succ, List.flatten_cons, List.flatten_cons]; exact r.append (rpa_flat r k)
theorem tup_at {K : PySem.W.Frag} {H : Hp} {p : Addr} {o : Obj} {vs : List V} {ds : List D} (n : H p = none) (dn : o.dict = none) (r : RpAll K H vs ds) : Rp K (upd H p (.frz o (.tup vs))) (.ref p) (.tuple ds) :=
  .tup (.inl ⟨o, upd_same, dn⟩) (r.ex (Ex.new n))
theorem ep_tupD {X : Cx} {pins : List (Addr × Obj)} {σ : St} {H : Hp} {s : Shared} {vs : List V} {ds : List D} {its : List Value} {tk : Nat} {Q : VK} (I : Inv X pins σ H s) (rv : Vals vs its) (z : vs.length ≤ sizeLine) (r : RpAll X.K H vs ds)
    (q : Val X.K H (.tuple ds) Q) : EP X pins σ Q (.ref s.heap.objs.size) { s with heap := s.heap.push { cls := .type "tuple", data := .seq its.toArray }, toks := tk } :=
  ep_tup I rv z fun p o n dn => q _ _ (Grow.new n) (tup_at n dn r)
/-- tuple times int: as the library's rule, the new object told -/
def rRepF (K : PySem.W.Frag) : R2 := fun x y H Q => ∃ l k xs, x = .ref l ∧ y = .int k ∧ SqT K H l xs ∧ xs ≠ [] ∧ 2 ≤ k ∧ k ≤ 1000 ∧ xs.length ≤ 1000 ∧ ∀ p o, H p = none → o.dict = none → Q (.ref p) (upd H p (.frz o (.tup (List.replicate k.toNat xs).flatten)))
theorem vals_flat {vs : List V} {us : List Value} (r : Vals vs us) : ∀ k : Nat, Vals (List.replicate k vs).flatten (List.replicate k us).flatten
  | 0 => .nil
  | k + 1 => by rw [List.replicate_succ, List.replicate_succ, List.flatten_cons, List.flatten_cons]; exact r.append (vals_flat r k)
theorem op_repF {X : Cx} : OpR X (binaryOp .Mult) (rRepF X.K) := by
  intro pins s σ H x y v u Q I rx ry h
  obtain ⟨l, k, xs, rfl, rfl, hT, hne, h1, h2, hz, q⟩ := h
  cases rx
  obtain ⟨t, rfl⟩ := ry
  obtain ⟨its, rv, ⟨⟨cls, dd, data, sl⟩, ho, hc, n, hd⟩, hs⟩ := I.tuple hT
  simp only at hc hd
  subst hc hd
  have hle := rv.length
  have hi : its.toArray.isEmpty = false := by
    cases its with
    | nil => exact absurd (List.eq_nil_of_length_eq_zero (by rw [hle]; rfl)) hne
    | cons _ _ => rfl
  have hm : ((its.toArray.size : Nat) : Int) * k ≤ 1000000 := by
    rw [List.size_toArray, ← hle]
    have a1 : ((xs.length : Nat) : Int) * k ≤ 1000 * k := Int.mul_le_mul_of_nonneg_right (by omega) (by omega)
    omega
  have flen : (List.replicate k.toNat its).flatten.length ≤ sizeLine := by
    rw [PyProof.Rows.lm_len_rep_flat, ← hle, sizeLine_eq]
    exact Nat.le_trans (Nat.mul_le_mul (show k.toNat ≤ 1000 by omega) hz) (by decide)
  have c0 : (decide (k < -(2 ^ 63)) || decide (k ≥ 2 ^ 63)) = false := by rw [decide_eq_false (by omega), decide_eq_false (by omega)] <;> rfl
  have c1 : (its.toArray.isEmpty || k == 1) = false := by rw [hi, Bool.false_or]; exact beq_eq_false_iff_ne.mpr (by omega)
  have c2 : (decide (k ≤ 0) || its.toArray.isEmpty) = false := by rw [hi, Bool.or_false]; exact decide_eq_false (by omega)
  have c4 : Builtin.Tuple.tupleTooMany (((its.toArray.size : Nat) : Int) * k) = false := by
    unfold Builtin.Tuple.tupleTooMany
    rw [sizeLine_eq]
    exact decide_eq_false (by omega)
  refine wpAny_binaryOp_repeat_ref (T := "tuple") (U := "int") (by decide) ⟨_, ho, rfl⟩ (fun s' => typeIs_int s' k t) L2.noFill_tuple_mul PySem.F.fills_int_mul PySem.F.slot_int_rmul L2.repeat_tuple PySem.F.slot_int_index.lookup
    (call_meets PySem.F.slot_int_rmul (typeIs_int s k t) PySem.F.entry_int_rmul (PySem.F.args_int_rmul_2 _ _) (int_rmul_tuple k t l its.toArray n dd sl)
      ⟨ho, rfl, ⟨_, ho, rfl⟩, call_meets PySem.F.slot_tuple_mul ⟨_, ho, rfl⟩ PySem.F.entry_tuple_mul (PySem.F.args_tuple_mul_2 _ _) (tuple_mulW l its.toArray n dd sl k t c0 c1 c2 (by omega) c4 (by rw [size_rep, List.size_toArray]; exact flen)) ⟨ho, ?_⟩⟩)
  rw [size_rep]
  have vf := vals_flat rv k.toNat
  exact ep_tup I vf (by rw [vf.length]; exact flen) q
section
variable {X : Cx}
def rBinD (K : PySem.W.Frag) (op : Operator) : R2 := fun x y H Q => ∃ d e r, Rp K H x d ∧ Rp K H y e ∧ pBin op d e = some r ∧ Val K H r Q
theorem op_int {op : Operator} {f : Int → Int → Option Int} {C : Int → Int → Prop} {g : Int → Int → Int} (ho : OpR X (binaryOp op) (rI C fun i j => .int (g i j))) (hf : ∀ i j k, f i j = some k → C i j ∧ k = g i j)
    (pf : ∀ d e r, pBin op d e = some r → ∃ i j k, d = .int i ∧ e = .int j ∧ f i j = some k ∧ r = .int k) : OpR X (binaryOp op) (rBinD X.K op) := by
  intro pins s σ H x y v u Q I rx ry h
  obtain ⟨d, e, r, hd, he, hp, q⟩ := h
  obtain ⟨i, j, k, rfl, rfl, hk, rfl⟩ := pf d e r hp
  cases rp_int hd; cases rp_int he
  obtain ⟨hc, rfl⟩ := hf i j k hk
  exact ho pins s σ H _ _ v u Q I rx ry ⟨i, j, rfl, rfl, hc, q.here (.int _)⟩
theorem op_binD (op : Operator) : OpR X (binaryOp op) (rBinD X.K op) := by
  cases op with
  | Add =>
    intro pins s σ H x y v u Q I rx ry h
    obtain ⟨d, e, r, hd, he, hp, q⟩ := h
    have hp : pAdd d e = some r := hp
    cases d with
    | int i =>
      cases e with
      | int j =>
        cases rp_int hd; cases rp_int he
        cases hp
        exact op_add pins s σ H _ _ v u Q I rx ry ⟨i, j, rfl, rfl, q.here (.int _)⟩
      | _ => cases hp
    | str i =>
      cases e with
      | str j =>
        cases rp_str hd; cases rp_str he
        have hp : (if i.length + j.length ≤ sizeLine then some (PyData.str (i ++ j)) else none) = some r := hp
        split at hp
        · cases hp
          exact op_add_str pins s σ H _ _ v u Q I rx ry ⟨i, j, rfl, rfl, by assumption, q.here (.str _)⟩
        · cases hp
      | _ => cases hp
    | tuple ds =>
      cases e with
      | tuple es =>
        have hp : (if ds.length + es.length ≤ sizeLine then some (PyData.tuple (ds ++ es)) else none) = some r := hp
        split at hp
        · rename_i hz
          cases hp
          obtain ⟨a, xs, rfl, h1, r1⟩ := rp_tup hd
          obtain ⟨b, ys, rfl, h2, r2⟩ := rp_tup he
          have l1 := r1.len
          have l2 := r2.len
          cases rx
          cases ry
          obtain ⟨its, v1, p1, _⟩ := I.tuple h1.sq
          obtain ⟨its2, v2, p2, _⟩ := I.tuple h2.sq
          have m1 := v1.length
          have m2 := v2.length
          by_cases hx : xs = []
          · subst hx
            cases v1
            cases r1
            exact cat_tup0 p1 p2 ⟨.ref b, H, I, rfl, q.here he⟩
          · refine HT.cat_tup p1 p2 (fun z => hx (v1.nil_iff.mp z)) (fun z => ⟨.ref a, H, I, rfl, ?_⟩) (fun z => ?_) (by omega)
            · have e := v2.nil_iff.mp z
              subst e
              cases r2
              rw [List.append_nil] at q
              exact q.here hd
            · exact ep_tupD I (v1.append v2) (by rw [List.length_append]; omega) (r1.append r2) q
        · cases hp
      | _ => cases hp
    | _ => cases e <;> cases hp
  | Sub =>
    refine op_int (f := fun i j => some (i - j)) (g := fun i j => i - j) (C := fun _ _ => True) (fun pins s σ H x y v u Q I rx ry ⟨i, j, e1, e2, _, q⟩ => op_sub pins s σ H x y v u Q I rx ry ⟨i, j, e1, e2, q⟩) (fun i j k e => ?_) (fun d e r h => ?_)
    · cases e; exact ⟨trivial, rfl⟩
    · have h : pSub d e = some r := h
      cases d <;> cases e <;> first | cases h | skip
      exact ⟨_, _, _, rfl, rfl, rfl, rfl⟩
  | Mult =>
    intro pins s σ H x y v u Q I rx ry h
    obtain ⟨d, e, r, hd, he, hp, q⟩ := h
    have hp : pMul d e = some r := hp
    cases d with
    | int i =>
      cases e with
      | int j =>
        cases rp_int hd; cases rp_int he
        have hp : (if mulOk i j = true then some (PyData.int (i * j)) else none) = some r := hp
        split at hp
        · rename_i hz
          cases hp
          unfold mulOk at hz
          simp only [Bool.or_eq_true, decide_eq_true_eq] at hz
          rcases hz with (hz | hz) | hz
          · exact op_mul pins s σ H _ _ v u Q I rx ry ⟨i, j, rfl, rfl, .inl hz, q.here (.int _)⟩
          · exact op_mul pins s σ H _ _ v u Q I rx ry ⟨i, j, rfl, rfl, .inr hz, q.here (.int _)⟩
          · exact op_mulW pins s σ H _ _ v u Q I rx ry ⟨i, j, rfl, rfl, wide_mul hz.1 hz.2 (by decide) (by decide) (by decide), q.here (.int _)⟩
        · cases hp
      | _ => cases hp
    | tuple ds =>
      cases e with
      | int k =>
        cases rp_int he
        have hp : (if decide (ds ≠ [] ∧ 2 ≤ k ∧ k ≤ 1000 ∧ ds.length ≤ 1000) = true then some (PyData.tuple (List.replicate k.toNat ds).flatten) else none) = some r := hp
        split at hp
        · rename_i hz
          simp only [decide_eq_true_eq] at hz
          cases hp
          obtain ⟨a, xs, rfl, h1, r1⟩ := rp_tup hd
          have l1 := r1.len
          refine op_repF pins s σ H _ _ v u Q I rx ry ⟨a, k, xs, rfl, rfl, h1.sq, fun z => ?_, hz.2.1, hz.2.2.1, by omega, fun p o np dn => ?_⟩
          · subst z; cases r1; exact hz.1 rfl
          · exact q _ _ (Grow.new np) (tup_at np dn (rpa_flat r1 _))
        · cases hp
      | _ => cases hp
    | _ => cases e <;> cases hp
  | FloorDiv =>
    refine op_int (f := fun i j => if decide (0 < j ∧ j.natAbs < 2 ^ 1000) then some (i / j) else none) (g := fun i j => i / j) op_fdivW (fun i j k e => ?_) (fun d e r h => ?_)
    · split at e
      · rename_i hz
        simp only [decide_eq_true_eq] at hz
        cases e
        exact ⟨wide_div hz.1 hz.2 (by decide) (by decide), rfl⟩
      · cases e
    · replace h : pDiv d e = some r := h
      cases d <;> cases e <;> first | cases h | skip
      rename_i i j
      have h : (if decide (0 < j ∧ j.natAbs < 2 ^ 1000) = true then some (PyData.int (i / j)) else none) = some r := h
      split at h
      · rename_i hz
        cases h
        exact ⟨i, j, _, rfl, rfl, if_pos hz, rfl⟩
      · cases h
  | Mod =>
    refine op_int (f := fun i j => if decide (0 < j) then some (i % j) else none) (g := fun i j => i % j) op_mod (fun i j k e => ?_) (fun d e r h => ?_)
    · split at e
      · rename_i hz
        simp only [decide_eq_true_eq] at hz
        cases e
        exact ⟨hz, rfl⟩
      · cases e
    · replace h : pMod d e = some r := h
      cases d <;> cases e <;> first | cases h | skip
      rename_i i j
      have h : (if decide (0 < j) = true then some (PyData.int (i % j)) else none) = some r := h
      split at h
      · rename_i hz
        cases h
        exact ⟨i, j, _, rfl, rfl, if_pos hz, rfl⟩
      · cases h
  | Pow =>
    refine op_int (f := fun i j => if decide (0 ≤ j ∧ j ≤ 1000 ∧ i.natAbs < 2 ^ 64) then some (i ^ j.toNat) else none) (g := fun i j => i ^ j.toNat) op_pow (fun i j k e => ?_) (fun d e r h => ?_)
    · split at e
      · rename_i hz
        simp only [decide_eq_true_eq] at hz
        cases e
        exact ⟨⟨hz.1, by omega, hz.2.2⟩, rfl⟩
      · cases e
    · replace h : pPow d e = some r := h
      cases d <;> cases e <;> first | cases h | skip
      rename_i i j
      have h : (if decide (0 ≤ j ∧ j ≤ 1000 ∧ i.natAbs < 2 ^ 64) = true then some (PyData.int (i ^ j.toNat)) else none) = some r := h
      split at h
      · rename_i hz
        cases h
        exact ⟨i, j, _, rfl, rfl, if_pos hz, rfl⟩
      · cases h
  | LShift =>
    refine op_int (f := fun i j => if decide (0 ≤ j ∧ j ≤ 1000 ∧ i.natAbs < 2 ^ 64) then some (i * 2 ^ j.toNat) else none) (g := fun i j => i * 2 ^ j.toNat) op_shl (fun i j k e => ?_) (fun d e r h => ?_)
    · split at e
      · rename_i hz
        simp only [decide_eq_true_eq] at hz
        cases e
        exact ⟨⟨hz.1, by omega, hz.2.2⟩, rfl⟩
      · cases e
    · replace h : pShl d e = some r := h
      cases d <;> cases e <;> first | cases h | skip
      rename_i i j
      have h : (if decide (0 ≤ j ∧ j ≤ 1000 ∧ i.natAbs < 2 ^ 64) = true then some (PyData.int (i * 2 ^ j.toNat)) else none) = some r := h
      split at h
      · rename_i hz
        cases h
        exact ⟨i, j, _, rfl, rfl, if_pos hz, rfl⟩
      · cases h
  | RShift =>
    refine op_int (f := fun i j => if decide (0 ≤ j) then some (i / 2 ^ j.toNat) else none) (g := fun i j => i / 2 ^ j.toNat) op_shr (fun i j k e => ?_) (fun d e r h => ?_)
    · split at e
      · rename_i hz
        simp only [decide_eq_true_eq] at hz
        cases e
        exact ⟨hz, rfl⟩
      · cases e
    · replace h : pShr d e = some r := h
      cases d <;> cases e <;> first | cases h | skip
      rename_i i j
      have h : (if decide (0 ≤ j) = true then some (PyData.int (i / 2 ^ j.toNat)) else none) = some r := h
      split at h
      · rename_i hz
        cases h
        exact ⟨i, j, _, rfl, rfl, if_pos hz, rfl⟩
      · cases h
  | BitAnd =>
    refine op_int (f := fun i j => some (Builtin.bitAnd i j)) (g := fun i j => Builtin.bitAnd i j) (C := fun _ _ => True) (fun pins s σ H x y v u Q I rx ry ⟨i, j, e1, e2, _, q⟩ => op_and pins s σ H x y v u Q I rx ry ⟨i, j, e1, e2, q⟩) (fun i j k e => ?_) (fun d e r h => ?_)
    · cases e; exact ⟨trivial, rfl⟩
    · have h : pAnd d e = some r := h
      cases d <;> cases e <;> first | cases h | skip
      exact ⟨_, _, _, rfl, rfl, rfl, rfl⟩
  | _ =>
    intro pins s σ H x y v u Q I rx ry h
    obtain ⟨d, e, r, hd, he, hp, q⟩ := h
    cases hp

/-! ### items -/
theorem atI_rp {K : PySem.W.Frag} {H : Hp} {vs : List V} {ds : List D} (r : DpAll K H vs ds) (rr : ∀ (j : Nat) (d : D), ds[j]? = some d → ∃ v, vs[j]? = some v ∧ Rp K H v d) {i : Int} {d : D} (e : atI ds i = some d) : ∃ v, atI vs i = some v ∧ Rp K H v d := by
  unfold atI at e ⊢
  rw [dpa_len r]
  cases z : ixN ds.length i with
  | none => rw [z] at e; cases e
  | some j =>
    rw [z] at e
    exact rr j d e
def rIdxD (K : PySem.W.Frag) : R2 := fun x y H Q => ∃ d e r, Rp K H x d ∧ Rp K H y e ∧ pIdx d e = some r ∧ Val K H r Q
theorem ix_D : IxR X (rIdxD X.K) := by
  intro value slice pins s σ H x y v u Q I rx ry h hs
  obtain ⟨d, e, r, hd, he, hp, q⟩ := h
  cases d with
  | list ds =>
    cases e with
    | int i =>
      cases rp_int he
      obtain ⟨a, o, xs, rfl, h1, r1⟩ := rp_lst hd
      have hp : atI ds i = some r := hp
      obtain ⟨w, e1, e2⟩ := atI_rp r1.dp (fun _ _ z => r1.get z) hp
      exact ix_list value slice pins s σ H _ _ v u Q I rx ry ⟨a, xs, i, w, rfl, rfl, .inl (.inr ⟨o, h1⟩), e1, q.here e2⟩ hs
    | _ => cases hp
  | tuple ds =>
    cases e with
    | int i =>
      cases rp_int he
      obtain ⟨a, xs, rfl, h1, r1⟩ := rp_tup hd
      have hp : atI ds i = some r := hp
      obtain ⟨w, e1, e2⟩ := atI_rp r1.dp (fun _ _ z => r1.get z) hp
      exact ix_tup value slice pins s σ H _ _ v u Q I rx ry ⟨a, xs, i, w, rfl, rfl, h1.sq, e1, q.here e2⟩ hs
    | _ => cases hp
  | str z =>
    cases e with
    | int i =>
      cases rp_int he; cases rp_str hd
      have hp : (if z.length ≤ sizeLine then (atI z.cps.toList i).map (fun c => PyData.str ⟨#[c]⟩) else none) = some r := hp
      split at hp
      · rename_i hz
        obtain ⟨c, e1, rfl⟩ := Option.map_eq_some_iff.mp hp
        exact ix_str value slice pins s σ H _ _ v u Q I rx ry ⟨z, i, c, rfl, rfl, hz, e1, q.here (.str _)⟩ hs
      · cases hp
    | _ => cases hp
  | _ => cases e <;> cases hp
/-- of a list that may be written -/
def rIdxM (K : PySem.W.Frag) : R2 := fun x y H Q => ∃ a vs ds i d, x = .ref a ∧ y = .int i ∧ H a = some (.lst vs) ∧ RpAll K H vs ds ∧ atI ds i = some d ∧ Val K H d Q
theorem ix_M : IxR X (rIdxM X.K) := by
  intro value slice pins s σ H x y v u Q I rx ry h hs
  obtain ⟨a, vs, ds, i, d, rfl, rfl, h1, r1, hp, q⟩ := h
  obtain ⟨w, e1, e2⟩ := atI_rp r1.dp (fun _ _ z => r1.get z) hp
  exact ix_list value slice pins s σ H _ _ v u Q I rx ry ⟨a, vs, i, w, rfl, rfl, .inl (.inl h1), e1, q.here e2⟩ hs

/-! ### slices -/
theorem cut_rp {K : PySem.W.Frag} {H : Hp} {vs : List V} {ds : List D} (r : RpAll K H vs ds) (lo hi : Option Int) : RpAll K H (cutV vs lo hi) (cutD ds lo hi) := by
  unfold cutV cutD
  rw [r.len]
  exact (r.drop _).take _
theorem cut_len (ds : List D) (lo hi : Option Int) : (cutD ds lo hi).length ≤ ds.length := by
  unfold cutD
  rw [List.length_take, List.length_drop]
  omega
theorem cutD_whole {ds : List D} {lo hi : Option Int} (h : HT.sIx ds.length 0 lo = 0 ∧ HT.sIx ds.length ds.length hi = ds.length) : cutD ds lo hi = ds := by
  unfold cutD
  rw [h.1, h.2, List.drop_zero, Nat.sub_zero, List.take_length]
def rCutT (K : PySem.W.Frag) : V → Option Int → Option Int → Hp → VK → Prop := fun x lo hi H Q => ∃ ds, Rp K H x (.tuple ds) ∧ Val K H (.tuple (cutD ds lo hi)) Q
theorem sl_T : SlR X (rCutT X.K) := by
  intro pins s σ H x v vl vu lo hi sl Q I rx hs pl pu h
  obtain ⟨ds, hd, q⟩ := h
  obtain ⟨a, xs, rfl, h1, r1⟩ := rp_tup hd
  cases rx
  obtain ⟨its, rv, ht, hz⟩ := I.tuple h1.sq
  have hlen : its.toArray.size = xs.length := by rw [List.size_toArray]; exact rv.length.symm
  have lr := r1.len
  refine ⟨"tuple", _, PyProof.Rows.slot_tuple_getitem.lookup, ht.typeIs, ?_⟩
  by_cases hw : HT.sIx xs.length 0 lo = 0 ∧ HT.sIx xs.length xs.length hi = xs.length
  · refine getItem_tuple_whole ht hs pl pu (by rw [hlen]; exact hw) ⟨.ref a, H, I, rfl, ?_⟩
    rw [lr] at hw
    rw [cutD_whole hw] at q
    exact q.here hd
  · refine HT.getItem_tuple_cut ht hs pl pu (by rw [hlen]; exact hw) ?_ (by rw [hlen]; exact hz)
    rw [hlen]
    refine ep_tupD (vs := cutV xs lo hi) I ?_ (Nat.le_trans (cutV_length xs lo hi) hz) (cut_rp r1 lo hi) q
    exact (rv.drop (HT.sIx xs.length 0 lo)).take (HT.sIx xs.length xs.length hi - HT.sIx xs.length 0 lo)
/-- a new list -/
def NewL (K : PySem.W.Frag) (H : Hp) (ds : List D) (Q : VK) : Prop := ∀ p vs, H p = none → RpAll K H vs ds → Q (.ref p) (upd H p (.lst vs))
def rCutL (K : PySem.W.Frag) : V → Option Int → Option Int → Hp → VK → Prop := fun x lo hi H Q => ∃ ds, Dp K H x (.list ds) ∧ (∀ a xs, x = .ref a → SqL K H a xs → RpAll K H xs ds) ∧ NewL K H (cutD ds lo hi) Q
theorem sl_L : SlR X (rCutL X.K) := by
  intro pins s σ H x v vl vu lo hi sl Q I rx hs pl pu h
  obtain ⟨ds, hd, hr, q⟩ := h
  obtain ⟨a, xs, rfl, h1, r1⟩ := dp_lst hd
  exact sl_list pins s σ H _ v vl vu lo hi sl Q I rx hs pl pu ⟨a, xs, rfl, h1, fun p np => q p _ np (cut_rp (hr a xs rfl h1) lo hi)⟩
end

/-! ### lists -/
section
variable {X : Cx} {pins : List (Addr × Obj)} {σ : St} {H : Hp} {s : Shared}
theorem lstR {l : Addr} {xs : List V} (I : Inv X pins σ H s) (h : Rd H l (.lst xs)) : xs.length ≤ sizeLine ∧ ∃ (its : List Value) (n : Nat), Vals xs its ∧ xs.length = its.length ∧ s.heap.get? l = some { cls := .type "list", data := .seq its.toArray n } := by
  obtain ⟨z, its, n, r, e⟩ := h.ok I.hok
  exact ⟨z, its, n, r, r.length, e⟩
end
section
variable {X : Cx}
def rCatR : R2 := fun x y H Q => ∃ l b xs zs, x = .ref l ∧ y = .ref b ∧ Rd H l (.lst xs) ∧ Rd H b (.lst zs) ∧ xs.length + zs.length ≤ sizeLine ∧ ∀ p, H p = none → Q (.ref p) (upd H p (.lst (xs ++ zs)))
theorem op_catR : OpR X (binaryOp .Add) rCatR := by
  intro pins s σ H x y v u Q I rx ry h
  obtain ⟨l, b, xs, zs, rfl, rfl, hH, hB, hz, q⟩ := h
  cases rx
  cases ry
  obtain ⟨z, its, n, r, hl, e⟩ := lstR I hH
  obtain ⟨z2, its2, n2, r2, hl2, e2⟩ := lstR I hB
  refine PySem.P.add_list e e2 ?_ (by rw [List.size_toArray, List.size_toArray]; omega)
  have ea : its.toArray ++ its2.toArray = (its ++ its2).toArray := by simp
  rw [ea]
  exact ⟨.ref _, _, I.lnew (t' := s.toks) (r.append r2) (by rw [List.length_append]; omega), rfl, q _ I.fresh⟩
def rExtendR : V → List V → Hp → VK → Prop := fun x vs H Q => ∃ l b xs zs, x = .ref l ∧ vs = [.ref b] ∧ H l = some (.lst xs) ∧ Rd H b (.lst zs) ∧ xs.length + zs.length ≤ sizeLine ∧ Q .non (upd H l (.lst (xs ++ zs)))
theorem mt_extendR : MtM X "list.extend" rExtendR := by
  intro pins s σ H x vs v us Q I rx rv h
  obtain ⟨l, b, xs, zs, rfl, rfl, hH, hB, hz, q⟩ := h
  cases rx
  obtain ⟨u, rfl, ru⟩ := rv.one
  cases ru
  obtain ⟨z, its, n, r, hl, e⟩ := I.lstM hH
  obtain ⟨z2, its2, n2, r2, hl2, e2⟩ := lstR I hB
  have hsz : its.toArray.size + its2.toArray.size ≤ sizeLine := by rw [List.size_toArray, List.size_toArray]; omega
  have hlong : ¬ (!its.toArray.isEmpty && Builtin.List.listTooLong (its.toArray.size + its2.toArray.size)) = true := by
    rw [notLongL hsz, Bool.and_false]
    exact Bool.false_ne_true
  refine call_meets PySem.F.slot_list_extend ⟨_, e, rfl⟩ PySem.F.entry_list_extend (PySem.F.args_list_extend_2 _ _)
    (AutoSeq1.list_extend_list_list_0 l its.toArray n b its2.toArray n2 hlong (by rw [List.size_toArray]; omega) (by omega)) ⟨e, e2, ?_⟩
  refine ⟨.non, _, I.lset (its' := its ++ its2) hH e (by simp) (r.append r2) ?_, rfl, q⟩
  rw [List.length_append]
  omega
end
end PL
/-! PLe: built-in calls, by values -/
namespace PL
open PySem PySem.Spec PyProof.Rows L2

/-- v stands for d now: a list may be one that is written later -/
def Wp (K : PySem.W.Frag) (H : Hp) (v : V) (d : D) : Prop := Rp K H v d ∨ ∃ a vs ds, v = .ref a ∧ d = .list ds ∧ H a = some (.lst vs) ∧ RpAll K H vs ds
theorem Wp.dp {K : PySem.W.Frag} {H : Hp} {v : V} {d : D} (h : Wp K H v d) : Dp K H v d := by
  rcases h with h | ⟨a, vs, ds, rfl, rfl, e, r⟩
  · exact h.dp
  · exact .lst (.inl (.inl e)) r.dp
theorem Wp.lst {K : PySem.W.Frag} {H : Hp} {v : V} {ds : List D} (h : Wp K H v (.list ds)) : ∃ a vs, v = .ref a ∧ Rd H a (.lst vs) ∧ RpAll K H vs ds := by
  rcases h with h | ⟨a, vs, ds', rfl, e, h, r⟩
  · obtain ⟨a, o, xs, rfl, h1, r1⟩ := rp_lst h
    exact ⟨a, xs, rfl, .inr ⟨o, h1⟩, r1⟩
  · cases e; exact ⟨a, vs, rfl, .inl h, r⟩
theorem Wp.tup {K : PySem.W.Frag} {H : Hp} {v : V} {ds : List D} (h : Wp K H v (.tuple ds)) : ∃ a vs, v = .ref a ∧ TupR K H a vs ∧ RpAll K H vs ds := by
  rcases h with h | ⟨a, vs, ds', rfl, e, h, r⟩
  · exact rp_tup h
  · cases e
/-- the items, and what holds them -/
theorem Wp.items {K : PySem.W.Frag} {H : Hp} {v : V} {d : D} {ds : List D} (h : Wp K H v d) (e : pItems d = some ds) : ∃ a vs, v = .ref a ∧ ((Rd H a (.lst vs) ∧ d = .list ds) ∨ (TupR K H a vs ∧ d = .tuple ds)) ∧ RpAll K H vs ds := by
  cases d with
  | list xs =>
    cases e
    obtain ⟨a, vs, e1, e2, e3⟩ := h.lst
    exact ⟨a, vs, e1, .inl ⟨e2, rfl⟩, e3⟩
  | tuple xs =>
    cases e
    obtain ⟨a, vs, e1, e2, e3⟩ := h.tup
    exact ⟨a, vs, e1, .inr ⟨e2, rfl⟩, e3⟩
  | _ => cases e
inductive WpAll (K : PySem.W.Frag) (H : Hp) : List V → List D → Prop
  | nil : WpAll K H [] []
  | cons {v : V} {vs : List V} {d : D} {ds : List D} : Wp K H v d → WpAll K H vs ds → WpAll K H (v :: vs) (d :: ds)
theorem RpAll.wp {K : PySem.W.Frag} {H : Hp} : ∀ {vs : List V} {ds : List D}, RpAll K H vs ds → WpAll K H vs ds
  | _, _, .nil => .nil
  | _, _, .cons h r => .cons (.inl h) r.wp
theorem WpAll.one {K : PySem.W.Frag} {H : Hp} {vs : List V} {d : D} (h : WpAll K H vs [d]) : ∃ v, vs = [v] ∧ Wp K H v d := by
  cases h with
  | cons h r => cases r; exact ⟨_, rfl, h⟩
theorem WpAll.two {K : PySem.W.Frag} {H : Hp} {vs : List V} {d e : D} (h : WpAll K H vs [d, e]) : ∃ v w, vs = [v, w] ∧ Wp K H v d ∧ Wp K H w e := by
  cases h with
  | cons h r => cases r with | cons h2 r => cases r; exact ⟨_, _, rfl, h, h2⟩
theorem wp_int {K : PySem.W.Frag} {H : Hp} {v : V} {i : Int} (h : Wp K H v (.int i)) : v = .int i := dp_int h.dp

theorem SqL.or {K : PySem.W.Frag} {H : Hp} {a : Addr} {xs : List V} (h : Rd H a (.lst xs)) : SqL K H a xs := .inl h
theorem depth_mem : ∀ {ds : List D} {d : D}, d ∈ ds → d.depth ≤ PyData.depthAll ds
  | x :: xs, d, h => by
    rw [PyData.depthAll]
    rcases List.mem_cons.mp h with rfl | h
    · exact Nat.le_max_left _ _
    · exact Nat.le_trans (depth_mem h) (Nat.le_max_right _ _)
def rBi (K : PySem.W.Frag) (f : Bi) : List V → Hp → VK → Prop := fun xs H Q => ∃ ds r, WpAll K H xs ds ∧ pBi f ds = some r ∧ Val K H r Q
theorem bools_of : ∀ {ds : List D} {bs : List Bool} {K : PySem.W.Frag} {H : Hp} {vs : List V}, pBools ds = some bs → RpAll K H vs ds → vs = bs.map V.bl
  | [], _, _, _, _, e, r => by cases e; cases r; rfl
  | d :: ds, bs, _, _, _, e, r => by
    cases r with
    | cons h r =>
      cases d with
      | bool b =>
        have e : (pBools ds).map (b :: ·) = some bs := e
        obtain ⟨cs, e1, rfl⟩ := Option.map_eq_some_iff.mp e
        rw [rp_bl h, bools_of e1 r]; rfl
      | _ => cases e
theorem ints_of : ∀ {ds : List D} {bs : List Int} {K : PySem.W.Frag} {H : Hp} {vs : List V}, pInts ds = some bs → RpAll K H vs ds → vs = bs.map V.int
  | [], _, _, _, _, e, r => by cases e; cases r; rfl
  | d :: ds, bs, _, _, _, e, r => by
    cases r with
    | cons h r =>
      cases d with
      | int b =>
        have e : (pInts ds).map (b :: ·) = some bs := e
        obtain ⟨cs, e1, rfl⟩ := Option.map_eq_some_iff.mp e
        rw [rp_int h, ints_of e1 r]; rfl
      | _ => cases e
section
variable {X : Cx}
theorem cr_len : CallR X (.builtin "len") (rBi X.K .len) := by
  intro pins s σ H vs us Q I r h
  obtain ⟨ds, d, hw, hp, q⟩ := h
  cases hw with
  | nil => cases hp
  | cons h1 hr =>
    cases hr with
    | cons _ _ => cases hp
    | nil =>
      rename_i v d1
      have hp : pLen d1 = some d := hp
      cases d1 with
      | list xs =>
        cases hp
        obtain ⟨a, vs, rfl, h2, r1⟩ := h1.lst
        have l := r1.len
        exact call_len pins s σ H _ us Q I r ⟨_, xs.length, rfl, .inl ⟨vs, .inl h2, l.symm⟩, q.here (.int _)⟩
      | tuple xs =>
        cases hp
        obtain ⟨a, vs, rfl, h2, r1⟩ := h1.tup
        have l := r1.len
        exact call_len pins s σ H _ us Q I r ⟨_, xs.length, rfl, .inr ⟨vs, h2.sq, l.symm⟩, q.here (.int _)⟩
      | str z =>
        have hp : (if z.length ≤ sizeLine then some (PyData.int z.length) else none) = some d := hp
        split at hp
        · cases hp
          cases dp_str h1.dp
          exact call_len pins s σ H _ us Q I r ⟨_, z.length, rfl, ⟨by assumption, rfl⟩, q.here (.int _)⟩
        · cases hp
      | _ => cases hp
theorem cr_anyD (hc : X.calm = true) : CallR X (.builtin "any") (rBi X.K .any) := by
  intro pins s σ H vs us Q I r h
  obtain ⟨ds, d, hw, hp, q⟩ := h
  cases hw with
  | nil => cases hp
  | cons h1 hr =>
    cases hr with
    | cons _ _ => cases hp
    | nil =>
      rename_i v d1
      cases d1 with
      | list xs =>
        have hp : (pBools xs).map (fun bs => PyData.bool (bs.any id)) = some d := hp
        obtain ⟨bs, e1, rfl⟩ := Option.map_eq_some_iff.mp hp
        obtain ⟨a, vs, rfl, h2, r1⟩ := h1.lst
        have e2 := bools_of e1 r1
        subst e2
        exact L2.cr_any hc pins s σ H _ us Q I r ⟨a, bs, rfl, .inl h2, q.here (.bl _)⟩
      | _ => cases hp
theorem cr_allD (hc : X.calm = true) : CallR X (.builtin "all") (rBi X.K .all) := by
  intro pins s σ H vs us Q I r h
  obtain ⟨ds, d, hw, hp, q⟩ := h
  cases hw with
  | nil => cases hp
  | cons h1 hr =>
    cases hr with
    | cons _ _ => cases hp
    | nil =>
      rename_i v d1
      cases d1 with
      | list xs =>
        have hp : (pBools xs).map (fun bs => PyData.bool (bs.all id)) = some d := hp
        obtain ⟨bs, e1, rfl⟩ := Option.map_eq_some_iff.mp hp
        obtain ⟨a, vs, rfl, h2, r1⟩ := h1.lst
        have e2 := bools_of e1 r1
        subst e2
        exact L2.cr_all hc pins s σ H _ us Q I r ⟨a, bs, rfl, .inl h2, q.here (.bl _)⟩
      | _ => cases hp
theorem cr_sumD (hc : X.calm = true) : CallR X (.builtin "sum") (rBi X.K .sum) := by
  intro pins s σ H vs us Q I r h
  obtain ⟨ds, d, hw, hp, q⟩ := h
  cases hw with
  | nil => cases hp
  | cons h1 hr =>
    cases hr with
    | cons _ _ => cases hp
    | nil =>
      rename_i v d1
      cases d1 with
      | list xs =>
        have hp : (pInts xs).map (fun bs => PyData.int bs.sum) = some d := hp
        obtain ⟨bs, e1, rfl⟩ := Option.map_eq_some_iff.mp hp
        obtain ⟨a, vs, rfl, h2, r1⟩ := h1.lst
        have e2 := ints_of e1 r1
        subst e2
        exact cr_sum hc pins s σ H _ us Q I r ⟨a, bs, rfl, .inl h2, q.here (.int _)⟩
      | _ => cases hp
theorem cr_tupleD : CallR X (.type "tuple") (rBi X.K .tuple) := by
  intro pins s σ H vs us Q I r h
  obtain ⟨ds, d, hw, hp, q⟩ := h
  cases hw with
  | nil => cases hp
  | cons h1 hr =>
    cases hr with
    | cons _ _ => cases hp
    | nil =>
      rename_i v d1
      obtain ⟨u, rfl, ru⟩ := vals1 r
      have hp : (pItems d1).map PyData.tuple = some d := hp
      obtain ⟨xs, e1, rfl⟩ := Option.map_eq_some_iff.mp hp
      cases d1 with
      | list xs' =>
        cases e1
        obtain ⟨a, vs, rfl, h2, r1⟩ := h1.lst
        cases (show u = Value.ref a from ru)
        obtain ⟨its, rv, pl, hz⟩ := I.list (SqL.or h2)
        refine call_tuple_list pl.isList (fun h' hk => ?_) (by rw [List.size_toArray, ← rv.length]; exact hz)
        exact ep_tupD (s := { s with heap := h' }) (tk := s.toks) (I.kept (t' := s.toks) hk) rv hz r1 q
      | tuple xs' =>
        cases e1
        obtain ⟨a, vs, rfl, h2, r1⟩ := h1.tup
        exact rl_tuple pins s σ H _ u Q I ru (.inr ⟨a, vs, rfl, h2.sq, q.here (.tup h2 r1)⟩)
      | _ => cases e1
theorem pOrd_alike {xs : List D} (h : pOrd xs = true) : PySem.W.AlikeAll xs ∧ PyData.depthAll xs ≤ 60 := by
  unfold pOrd dOk at h
  rw [Bool.and_eq_true, decide_eq_true_eq, List.all_eq_true] at h
  obtain ⟨h1, h2⟩ := h
  have k : ∀ x ∈ xs, ∀ y ∈ xs, PySem.W.alike x y = true ∧ x ≠ .none := fun x hx y hy => by
    have z := List.all_eq_true.mp (h2 x hx) y hy
    rw [Bool.and_eq_true] at z
    refine ⟨z.1, fun e => ?_⟩
    subst e
    cases z.2
  refine ⟨⟨fun x hx y hy => (k x hx y hy).1, fun x hx => (k x hx x hx).2⟩, ?_⟩
  rw [PyData.depth] at h1
  omega
theorem readsAll_of {pins : List (Addr × Obj)} {s : Shared} {σ : St} {H : Hp} (I : Inv X pins σ H s) {vs : List V} {us : List Value} {ds : List D} (r : RpAll X.K H vs ds) (rv : Vals vs us) : ∃ as, ReadsAll s.heap us ds as := Dp.readsAll I ds vs us r.dp rv
/-- what reads as d is what stands for d -/
theorem one_of {pins : List (Addr × Obj)} {s : Shared} {σ : St} {H : Hp} (I : Inv X pins σ H s) {h' : Heap} (hk : ∀ b o, s.heap.get? b = some o → h'.get? b = some o) {vs : List V} {us : List Value} {ds : List D} (r : RpAll X.K H vs ds) (rv : Vals vs us) {i : Nat} {u : Value} {d : D} {as : List Addr} (hi : us[i]? = some u) (hr : Reads h' u d as) :
    ∃ v, RelV v u ∧ Rp X.K H v d := by
  have hl : i < vs.length := by
    rw [rv.length]
    rcases Nat.lt_or_ge i us.length with h | h
    · exact h
    · rw [List.getElem?_eq_none h] at hi; cases hi
  obtain ⟨e, e1, e2⟩ := r.getv (i := i) (v := vs[i]) (by simp [hl])
  obtain ⟨w, e3, e4⟩ := rv.get (i := i) (x := vs[i]) (by simp [hl])
  rw [hi] at e3; cases e3
  obtain ⟨bs, q⟩ := Dp.reads I e vs[i] u e2.dp e4
  have q' := PyProof.Rows.Reads.keeps hk q
  have z := SeqAt.plain_unique e d u _ _ (dp_plain e2.dp) q' hr
  subst z
  exact ⟨_, e4, e2⟩
theorem cr_minD (hc : X.calm = true) (hu : X.A.units + 64 < cLine) : CallR X (.builtin "min") (rBi X.K .min) := by
  intro pins s σ H vs us Q I r h
  obtain ⟨ds, d, hw, hp, q⟩ := h
  cases hw with
  | nil => cases hp
  | cons h1 hr =>
    cases hr with
    | cons _ _ => cases hp
    | nil =>
      rename_i v d1
      have hp : (pItems d1).bind pMin = some d := hp
      obtain ⟨xs, e1, e2⟩ := Option.bind_eq_some_iff.mp hp
      cases xs with
      | nil => cases e2
      | cons x xs =>
        have e2 : (if pOrd (x :: xs) = true then some (PySem.W.minD x xs) else none) = some d := e2
        split at e2
        · rename_i ho
          cases e2
          obtain ⟨ha, hd⟩ := pOrd_alike ho
          obtain ⟨u, rfl, ru⟩ := vals1 r
          obtain ⟨a, vs, rfl, hh, rr⟩ := h1.items e1
          cases (show u = Value.ref a from ru)
          rcases hh with ⟨hh, _⟩ | ⟨hh, _⟩
          · obtain ⟨its, rv, hl, _⟩ := I.list (SqL.or hh)
            obtain ⟨as, hra⟩ := readsAll_of I rr rv
            exact PySem.W.min_list_data (I.ok.hd hc) hl.isList (by simpa using hra) ha (by omega) fun i w h' tk bs hi hr' hk => by
              obtain ⟨y, ry, py⟩ := one_of I hk rr rv (by simpa using hi) hr'
              exact ⟨y, H, I.kept hk, ry, q.here py⟩
          · obtain ⟨its, rv, hl, _⟩ := I.tuple hh.sq
            obtain ⟨as, hra⟩ := readsAll_of I rr rv
            exact PySem.W.min_tuple_data (I.ok.hd hc) hl (by simpa using hra) ha (by omega) fun i w h' tk bs hi hr' hk => by
              obtain ⟨y, ry, py⟩ := one_of I hk rr rv (by simpa using hi) hr'
              exact ⟨y, H, I.kept hk, ry, q.here py⟩
        · cases e2
theorem cr_maxD (hc : X.calm = true) (hu : X.A.units + 64 < cLine) : CallR X (.builtin "max") (rBi X.K .max) := by
  intro pins s σ H vs us Q I r h
  obtain ⟨ds, d, hw, hp, q⟩ := h
  cases hw with
  | nil => cases hp
  | cons h1 hr =>
    cases hr with
    | cons _ _ => cases hp
    | nil =>
      rename_i v d1
      have hp : (pItems d1).bind pMax = some d := hp
      obtain ⟨xs, e1, e2⟩ := Option.bind_eq_some_iff.mp hp
      cases xs with
      | nil => cases e2
      | cons x xs =>
        have e2 : (if pOrd (x :: xs) = true then some (PySem.W.maxD x xs) else none) = some d := e2
        split at e2
        · rename_i ho
          cases e2
          obtain ⟨ha, hd⟩ := pOrd_alike ho
          obtain ⟨u, rfl, ru⟩ := vals1 r
          obtain ⟨a, vs, rfl, hh, rr⟩ := h1.items e1
          cases (show u = Value.ref a from ru)
          rcases hh with ⟨hh, _⟩ | ⟨hh, _⟩
          · obtain ⟨its, rv, hl, _⟩ := I.list (SqL.or hh)
            obtain ⟨as, hra⟩ := readsAll_of I rr rv
            exact PySem.W.max_list_data (I.ok.hd hc) hl.isList (by simpa using hra) ha (by omega) fun i w h' tk bs hi hr' hk => by
              obtain ⟨y, ry, py⟩ := one_of I hk rr rv (by simpa using hi) hr'
              exact ⟨y, H, I.kept hk, ry, q.here py⟩
          · obtain ⟨its, rv, hl, _⟩ := I.tuple hh.sq
            obtain ⟨as, hra⟩ := readsAll_of I rr rv
            exact PySem.W.max_tuple_data (I.ok.hd hc) hl (by simpa using hra) ha (by omega) fun i w h' tk bs hi hr' hk => by
              obtain ⟨y, ry, py⟩ := one_of I hk rr rv (by simpa using hi) hr'
              exact ⟨y, H, I.kept hk, ry, q.here py⟩
        · cases e2
theorem cr_min2D (hc : X.calm = true) : CallR X (.builtin "min") (rBi X.K .min2) := by
  intro pins s σ H vs us Q I r h
  obtain ⟨ds, d, hw, hp, q⟩ := h
  match ds, hw, hp with
  | [.int i, .int j], hw, hp =>
    cases hp
    obtain ⟨v, w, rfl, h1, h2⟩ := hw.two
    cases wp_int h1; cases wp_int h2
    exact call_min2 hc pins s σ H _ us Q I r ⟨i, j, rfl, q.here (.int _)⟩
theorem cr_max2D (hc : X.calm = true) : CallR X (.builtin "max") (rBi X.K .max2) := by
  intro pins s σ H vs us Q I r h
  obtain ⟨ds, d, hw, hp, q⟩ := h
  match ds, hw, hp with
  | [.int i, .int j], hw, hp =>
    cases hp
    obtain ⟨v, w, rfl, h1, h2⟩ := hw.two
    cases wp_int h1; cases wp_int h2
    exact call_max2 hc pins s σ H _ us Q I r ⟨i, j, rfl, q.here (.int _)⟩
theorem cr_intD : CallR X (.type "int") (rBi X.K .int) := by
  intro pins s σ H vs us Q I r h
  obtain ⟨ds, d, hw, hp, q⟩ := h
  cases hw with
  | nil => cases hp
  | cons h1 hr =>
    cases hr with
    | cons _ _ => cases hp
    | nil =>
      rename_i v d1
      have hp : pInt d1 = some d := hp
      cases d1 with
      | int i => cases hp; cases wp_int h1; exact call_int1 pins s σ H _ us Q I r (.inl ⟨i, rfl, q.here (.int _)⟩)
      | bool i => cases hp; cases dp_bl h1.dp; exact call_int1 pins s σ H _ us Q I r (.inr ⟨i, rfl, q.here (.int _)⟩)
      | _ => cases hp
theorem cr_strD : CallR X (.type "str") (rBi X.K .str) := by
  intro pins s σ H vs us Q I r h
  obtain ⟨ds, d, hw, hp, q⟩ := h
  match ds, hw, hp with
  | [.int i], hw, hp =>
    have hp : (if i.natAbs.log2 < 1920 then some (PyData.str (toString i)) else none) = some d := hp
    split at hp
    · cases hp
      obtain ⟨v, rfl, h1⟩ := hw.one
      cases wp_int h1
      exact call_str_int pins s σ H _ us Q I r ⟨i, rfl, by assumption, q.here (.str _)⟩
    · cases hp
/-- sorted(xs): a new list -/
def rSortD (K : PySem.W.Frag) : List V → Hp → VK → Prop := fun vs H Q => ∃ v ds r, vs = [v] ∧ Wp K H v (.list ds) ∧ pSorted ds = some r ∧ NewL K H r Q
theorem each_of_vals {K : PySem.W.Frag} {H : Hp} : ∀ {vs : List V} {us : List Value} {ds : List D}, Vals vs us → RpAll K H vs ds → PySem.W.EachIs (fun u d => ∃ v, RelV v u ∧ Rp K H v d) us ds
  | _, _, _, .nil, .nil => .nil
  | _, _, _, .cons h r, .cons h' r' => .cons ⟨_, h, h'⟩ (each_of_vals r r')
theorem vals_of_each {K : PySem.W.Frag} {H : Hp} : ∀ {us : List Value} {ds : List D}, PySem.W.EachIs (fun u d => ∃ v, RelV v u ∧ Rp K H v d) us ds → ∃ vs, Vals vs us ∧ RpAll K H vs ds
  | _, _, .nil => ⟨[], .nil, .nil⟩
  | _, _, .cons ⟨v, h, h'⟩ r => by
    obtain ⟨vs, a, b⟩ := vals_of_each r
    exact ⟨v :: vs, .cons h a, .cons h' b⟩
theorem cr_sortD (hu : X.A.units + 64 < cLine) : CallR X (.builtin "sorted") (rSortD X.K) := by
  intro pins s σ H vs us Q I r h
  obtain ⟨v, ds, rr, rfl, hw, hp, q⟩ := h
  unfold pSorted at hp
  split at hp
  · rename_i ho
    cases hp
    rw [Bool.and_eq_true] at ho
    obtain ⟨ho, hsrt⟩ := ho
    obtain ⟨ha, hd⟩ := pOrd_alike ho
    obtain ⟨u, rfl, ru⟩ := vals1 r
    obtain ⟨a, vs, rfl, hh, hr⟩ := hw.lst
    cases (show u = Value.ref a from ru)
    obtain ⟨its, rv, hl, hz⟩ := I.list (SqL.or hh)
    obtain ⟨as, hra⟩ := readsAll_of I hr rv
    have lv := hr.len
    refine PySem.W.sorted_data (β := D) (enc := id) (R := fun u d => ∃ v, RelV v u ∧ Rp X.K H v d) (bs := ds) hl.isList (each_of_vals rv hr) (PySem.W.readsAll_each id (by rw [List.map_id]; exact hra)) (by rw [List.map_id]; exact fun d hd d' hd' => ha.1 d hd d' hd') ?_ (by omega) (fun b hb => ?_) fun out hlen hout => ?_
    · rw [List.map_id]
      unfold sortOk at hsrt
      rw [Bool.or_eq_true, List.all_eq_true, List.all_eq_true] at hsrt
      rcases hsrt with z | z
      · refine .inl fun d hd => ?_
        have z := z d hd
        cases d with
        | tuple l => cases l with
          | nil => cases z
          | cons x r => exact ⟨x, r, rfl⟩
        | _ => cases z
      · refine .inr fun d hd => ?_
        have z := z d hd
        cases d with
        | tuple l => cases z
        | none => cases z
        | _ => exact ⟨by simp, by simp⟩
    · have := PySem.W.readsAll_each id (vs := its) (bs := ds) (by rw [List.map_id]; exact hra)
      have hb' : (id b : D).depth ≤ PyData.depthAll ds := depth_mem hb
      omega
    · obtain ⟨ep, he'⟩ := PyProof.Rows.sortedAll_at s.heap its (List.toArray out)
      obtain ⟨ws, rv2, rr2⟩ := vals_of_each hout
      refine ⟨.ref _, upd H (s.heap.objs.size + 1) (.lst ws), I.laid (t' := s.toks) (fun _ _ => PyProof.Rows.sortedAll_old) (Nat.le_succ _) ⟨?_, out, ep, rv2, he'⟩, rfl, q _ ws (I.hok.fresh (Nat.le_succ _)) rr2⟩
      rw [rv2.length, hlen]; omega
  · cases hp
end
end PL
/-! PLf: expressions, each by its parts -/
namespace PL
open PySem PySem.Spec PyProof.Rows L2

/-- what a run's result asks -/
def Run (K : PySem.W.Frag) (mg : Str → Option Value) (fx : Nat → Bool) (W : WX) {α : Type} (r : R α) (σ : St) (g : Env) (H : Hp) (P : α → Env → Prop) : Prop :=
  match r with
  | .ok a g' => P a g'
  | .exc c g' => ∀ C H', mg c = some (.ref C) → RelEnv K σ H' g' → Step fx σ g H σ g' H' → W (.ref C) none σ H'
  | .no => False
section
variable {K : PySem.W.Frag} {mg : Str → Option Value} {fx : Nat → Bool} {W : WX} {α β : Type}
theorem Run.mono {r : R α} {σ : St} {g : Env} {H : Hp} {P P' : α → Env → Prop} (h : Run K mg fx W r σ g H P) (k : ∀ a g', P a g' → P' a g') : Run K mg fx W r σ g H P' := by
  cases r with
  | ok a g' => exact k a g' h
  | exc c g' => exact h
  | no => exact h
/-- seen from a later state -/
theorem Run.later {r : R α} {σ : St} {g g1 : Env} {H H1 : Hp} {P : α → Env → Prop} (h : Run K mg fx W r σ g H P) (s : Step fx σ g H σ g1 H1) : Run K mg fx W r σ g1 H1 P := by
  cases r with
  | ok a g' => exact h
  | exc c g' => exact fun C H' e r1 s1 => h C H' e r1 (s.trans s1)
  | no => exact h
theorem Run.bind {r : R α} {k : α → Env → R β} {σ : St} {g : Env} {H : Hp} {P : β → Env → Prop} (h : Run K mg fx W (r.bind k) σ g H P) :
    Run K mg fx W r σ g H (fun a g' => ∀ H', RelEnv K σ H' g' → Step fx σ g H σ g' H' → Run K mg fx W (k a g') σ g' H' P) := by
  cases r with
  | ok a g' => exact fun H' _ s => Run.later (g := g) (H := H) h s
  | exc c g' => exact h
  | no => exact h
theorem Run.lft {o : Option α} {σ : St} {g : Env} {H : Hp} {P : α → Env → Prop} (h : Run K mg fx W (lft o g) σ g H P) : ∃ a, o = some a ∧ P a g := by
  cases o with
  | some a => exact ⟨a, rfl, h⟩
  | none => exact h.elim
theorem Run.ite {c : Bool} {r : R α} {σ : St} {g : Env} {H : Hp} {P : α → Env → Prop} (h : Run K mg fx W (if c = true then r else .no) σ g H P) : c = true ∧ Run K mg fx W r σ g H P := by
  cases c with
  | true => exact ⟨rfl, h⟩
  | false => exact h.elim
theorem Run.ifp {c : Prop} [Decidable c] {r : R α} {σ : St} {g : Env} {H : Hp} {P : α → Env → Prop} (h : Run K mg fx W (if c then r else .no) σ g H P) : c ∧ Run K mg fx W r σ g H P := by
  by_cases e : c
  · rw [if_pos e] at h; exact ⟨e, h⟩
  · rw [if_neg e] at h; exact h.elim
end
theorem Run.bound {K : PySem.W.Frag} {mg : Str → Option Value} {fx : Nat → Bool} {W : WX} {α : Type} {i : Nat} {r : R α} {σ : St} {g : Env} {H : Hp} {P : α → Env → Prop} (h : Run K mg fx W (bound i g r) σ g H P) (re : RelEnv K σ H g) :
    (∃ v, σ[i]? = some (some v)) ∧ Run K mg fx W r σ g H P := by
  unfold PL.bound at h
  split at h
  · rename_i c e
    obtain ⟨v, s, _⟩ := re.val i c e
    exact ⟨⟨v, s⟩, h⟩
  · exact h.elim
theorem Run.boundM {K : PySem.W.Frag} {mg : Str → Option Value} {fx : Nat → Bool} {W : WX} {α : Type} {i : Nat} {r : R α} {σ : St} {g : Env} {H : Hp} {P : α → Env → Prop} (h : Run K mg fx W (boundM i g r) σ g H P) (re : RelEnv K σ H g) :
    (∃ a vs, σ[i]? = some (some (.ref a)) ∧ H a = some (.lst vs)) ∧ Run K mg fx W r σ g H P := by
  unfold PL.boundM at h
  split at h
  · rename_i ds e
    obtain ⟨v, s, a, vs, rfl, e2, _⟩ := re.val i _ e
    exact ⟨⟨a, vs, s, e2⟩, h⟩
  · exact h.elim
/-- the readings: what stands behind, by a relation of what is handed on -/
def tX (K : PySem.W.Frag) (mg : Str → Option Value) (fx : Nat → Bool) (W : WX) {α β : Type} (Rl : St → Hp → Env → Hp → Env → β → α → Prop) (m : M α) : St → Hp → (β → Hp → Prop) → Prop := fun σ H Q =>
  ∃ g, RelEnv K σ H g ∧ Run K mg fx W (m g) σ g H fun a g' => ∀ b H', RelEnv K σ H' g' → Step fx σ g H σ g' H' → Rl σ H g H' g' b a → Q b H'
section
variable (K : PySem.W.Frag) (mg : Str → Option Value) (fx : Nat → Bool) (W : WX)
abbrev rV : St → Hp → Env → Hp → Env → V → D → Prop := fun _ _ _ H' _ v d => Rp K H' v d
abbrev rB : St → Hp → Env → Hp → Env → Bool → Bool → Prop := fun _ _ _ _ _ b a => b = a
abbrev rA : St → Hp → Env → Hp → Env → List V → List D → Prop := fun _ _ _ H' _ vs ds => RpAll K H' vs ds
/-- an argument: a value, or what a slot holds -/
inductive AvOk (σ : St) (H : Hp) : V → AV → Prop
  | d {v : V} {d : D} : Rp K H v d → AvOk σ H v (.d d)
  | s {v : V} {i : Nat} : σ[i]? = some (some v) → AvOk σ H v (.s i)
abbrev rN : St → Hp → Env → Hp → Env → List V → List AV → Prop := fun σ _ _ H' _ vs as => Paired (AvOk K σ H') vs as
abbrev rI : St → Hp → Env → Hp → Env → Option Int → Option Int → Prop := fun _ _ _ _ _ b a => b = a
/-- a new list, nobody else's -/
abbrev rF : St → Hp → Env → Hp → Env → V → List D → Prop := fun σ H g H' g' v ds => ∃ a vs, v = .ref a ∧ H' a = some (.lst vs) ∧ RpAll K H' vs ds ∧ (H a = none ∨ MAd σ g H a) ∧ ¬ MAd σ g' H' a
abbrev tE (m : M D) : TE := tX K mg fx W (rV K) m
abbrev tT (m : M Bool) : TT := tX K mg fx W rB m
abbrev tA (m : M (List D)) : TA := tX K mg fx W (rA K) m
abbrev tN (m : M (List AV)) : TA := tX K mg fx W (rN K) m
abbrev tO (m : M (Option Int)) : TO := tX K mg fx W rI m
abbrev tF (m : M (List D)) : TE := tX K mg fx W (rF K) m
end
section
variable {K : PySem.W.Frag} {mg : Str → Option Value} {fx : Nat → Bool} {W : WX} {α β γ : Type}
theorem tX.one {Rl : St → Hp → Env → Hp → Env → β → α → Prop} {m : M α} {σ : St} {H : Hp} {g : Env} {Q : β → Hp → Prop} (r : RelEnv K σ H g)
    (h : Run K mg fx W (m g) σ g H fun a g' => ∀ b H', RelEnv K σ H' g' → Step fx σ g H σ g' H' → Rl σ H g H' g' b a → Q b H') : tX K mg fx W Rl m σ H Q := ⟨g, r, h⟩
/-- a part, then the rest -/
theorem tX.seq {Rl : St → Hp → Env → Hp → Env → β → α → Prop} {m : M α} {k : α → Env → R γ} {σ : St} {H : Hp} {g : Env} {Q : β → Hp → Prop} {P : γ → Env → Prop} (r : RelEnv K σ H g)
    (h : Run K mg fx W ((m g).bind k) σ g H P) (n : ∀ a g' b H', RelEnv K σ H' g' → Step fx σ g H σ g' H' → Rl σ H g H' g' b a → Run K mg fx W (k a g') σ g' H' P → Q b H') : tX K mg fx W Rl m σ H Q :=
  ⟨g, r, h.bind.mono fun a g' z b H' r' s' q => n a g' b H' r' s' q (z H' r' s')⟩
/-- .. and what was handed on came of it -/
theorem tX.seqE {Rl : St → Hp → Env → Hp → Env → β → α → Prop} {m : M α} {k : α → Env → R γ} {σ : St} {H : Hp} {g : Env} {Q : β → Hp → Prop} {P : γ → Env → Prop} (r : RelEnv K σ H g)
    (h : Run K mg fx W ((m g).bind k) σ g H P) (n : ∀ a g' b H', m g = .ok a g' → RelEnv K σ H' g' → Step fx σ g H σ g' H' → Rl σ H g H' g' b a → Run K mg fx W (k a g') σ g' H' P → Q b H') : tX K mg fx W Rl m σ H Q := by
  have h := h.bind
  refine ⟨g, r, ?_⟩
  cases em : m g with
  | ok a g' =>
    rw [em] at h
    exact fun b H' r' s' q => n a g' b H' em r' s' q (h H' r' s')
  | exc c g' => rw [em] at h; exact h
  | no => rw [em] at h; exact h
end

/-! ### the context -/
structure Fe where
  name : Str
  io : List Bool
  kws : List (List Str × List Nat) := []
structure Gm where
  N : List Str
  fns : List Fe
  cons : List (Str × D)
def visB (sc : Scope) (x : Str) : Bool := match sc.names.lookup x with | some .local => true | some .cell => true | some .free => true | _ => false
def gloB (sc : Scope) (x : Str) : Bool := match sc.names.lookup x with | some .globalImplicit => true | _ => false
def locB (sc : Scope) (x : Str) : Bool := match sc.names.lookup x with | some .local => true | some .cell => true | _ => false
def lclB (sc : Scope) (x : Str) : Bool := match sc.names.lookup x with | some .local => true | _ => false
def cfB (sc : Scope) (x : Str) : Bool := match sc.names.lookup x with | some .cell => true | some .free => true | _ => false
def okN (x : Str) : Bool := !(x == ("__debug__" : Str)) && !(x == ("__classdict__" : Str)) && !decide (x = "__name__")
theorem okN_1 {x : Str} (h : okN x = true) : (x == ("__debug__" : Str)) = false := by unfold okN at h; simp only [Bool.and_eq_true, Bool.not_eq_true'] at h; exact h.1.1
theorem okN_2 {x : Str} (h : okN x = true) : (x == ("__classdict__" : Str)) = false := by unfold okN at h; simp only [Bool.and_eq_true, Bool.not_eq_true'] at h; exact h.1.2
theorem okN_3 {x : Str} (h : okN x = true) : x ≠ "__name__" := by unfold okN at h; simp only [Bool.and_eq_true, Bool.not_eq_true', decide_eq_false_iff_not] at h; exact h.2
def bnames : List Str := ["isinstance", "int", "bool", "str", "list", "tuple", "len", "range", "all", "any", "sum", "min", "max", "sorted", "enumerate", "zip"]

/-- what a def answers: a plain value, or a new list -/
def ResC (K : PySem.W.Frag) (H : Hp) (σ0 : St) (g : Env) (σ : St) (g' : Env) (H' : Hp) (v : V) : C → Prop
  | .pu d => Rp K H' v d
  | .ml ds => ∃ a vs, v = .ref a ∧ H' a = some (.lst vs) ∧ RpAll K H' vs ds ∧ (H a = none ∨ MAd σ0 g H a) ∧ ¬ MAd σ g' H' a
  | _ => False
/-- the promise of a def, by its plain function -/
def spF (K : PySem.W.Frag) (mg : Str → Option Value) (n : Nat) (F : FS) : Sp := fun vs H Q E =>
  vs.length = n ∧ ∃ cs : List C, cs.length = n ∧ RelEnv K (vs.map some) H (cs.map some) ∧
    match F cs with
    | .ok r as => ∀ v H', RelEnv K (vs.map some) H' as → Step (fun _ => false) (vs.map some) (cs.map some) H (vs.map some) as H' → ResC K H (vs.map some) (cs.map some) (vs.map some) as H' v r → Q v H'
    | .exc c as => ∀ C H', mg c = some (.ref C) → RelEnv K (vs.map some) H' as → Step (fun _ => false) (vs.map some) (cs.map some) H (vs.map some) as H' → E (.ref C) none H'
    | .no => False
/-- a def that may be called -/
def FnAt (X : Cx) (k : Nat) (e : Fe) (F : FS) : Prop := ∃ (f : Addr) (fd : FuncData) (ps : List Str) (j : Nat), X.mg e.name = some (.ref f) ∧ PySem.W.keepIn X.K (.ref f) = true ∧
  FnOk X.prog X.w X.K X.mg X.base (L2.CX X.prog X.w) j f fd ps (spF X.K X.mg e.io.length F) ∧ j ≤ k ∧ Binds X.K fd ps [] ∧ ps.length = e.io.length ∧
  ∀ q, q ∈ e.kws → KBn X.K fd ps 0 q.1 (fun _ ws => permN q.2 ws) (fun _ zs => permN q.2 zs) ∧ q.2.length = e.io.length
structure Cok (Γ : Gm) (tb : List FS) (sc : Scope) (k : Nat) (W : WX) (X : Cx) : Prop where
  calm : X.calm = true
  N : X.N = Γ.N
  nd : Γ.N.Nodup
  room : Room k X.A
  vis : ∀ x, visB sc x = true → Vis X.env.scope x
  glo : ∀ x, gloB sc x = true → Gl X x
  loc : ∀ x, locB sc x = true → Loc X.env.scope x ∧ (X.fn x = true ∨ X.env.scope.names.lookup x = some .local)
  lcl : ∀ x, lclB sc x = true → X.env.scope.names.lookup x = some .local
  cf : ∀ x, cfB sc x = true → X.env.scope.names.lookup x = some .cell ∨ X.env.scope.names.lookup x = some .free
  blt : ∀ x, x ∈ bnames → X.mg x = none
  tk : Takes X W
  con : ∀ p, p ∈ Γ.cons → ∃ v u, X.mg p.1 = some u ∧ RelV v u ∧ ∀ H, Rp X.K H v p.2
  fns : ∀ (j : Nat) (e : Fe), Γ.fns[j]? = some e → FnAt X k e (fn tb j)
theorem Cok.un {Γ : Gm} {tb : List FS} {sc : Scope} {k : Nat} {W : WX} {X : Cx} (c : Cok Γ tb sc k W X) : X.A.units + 64 < cLine := c.room.units

/-! ### each form by its parts -/
section
variable {X : Cx} {fx : Nat → Bool} {W : WX} {a b c : Expr} {ma mb mc : M D} {pos : Pos}
theorem me_neg (ha : PE X a (tE X.K X.mg fx W ma)) : PE X (.UnaryOp .USub a pos) (tE X.K X.mg fx W fun g => (ma g).bind fun x g1 => lft (pNeg x) g1) := by
  refine PE.wk (pe_un un_neg ha) fun σ H Q ⟨g, r, h⟩ => ?_
  refine tX.seq r h fun x g1 v H1 r1 s1 p1 h1 => ?_
  obtain ⟨d, e, q⟩ := h1.lft
  cases x with
  | int i =>
    cases rp_int p1
    cases e
    exact ⟨i, rfl, q _ H1 r1 s1 (.int _)⟩
  | _ => cases e
theorem tru_of {K : PySem.W.Frag} {H : Hp} {v : V} {d : D} {k : Bool} (h : Rp K H v d) (e : pTru d = some k) : TruV K v H k := by
  cases d with
  | none => cases rp_non h; cases e; rfl
  | bool b => cases rp_bl h; cases e; rfl
  | int i => cases rp_int h; cases e; rfl
  | str z =>
    cases rp_str h
    have e : (if z.length ≤ sizeLine then some ((z.length : Int) != 0) else none) = some k := e
    split at e
    · cases e; exact ⟨by assumption, rfl⟩
    · cases e
  | list xs =>
    obtain ⟨a, o, vs, rfl, h1, r1⟩ := rp_lst h
    cases e
    refine .inl ⟨vs, .inl (.inr ⟨o, h1⟩), ?_⟩
    cases r1 <;> rfl
  | tuple xs =>
    obtain ⟨a, vs, rfl, h1, r1⟩ := rp_tup h
    cases e
    refine .inr (.inl ⟨vs, h1.sq, ?_⟩)
    cases r1 <;> rfl
  | dict kvs => cases e
/-- not x -/
theorem me_not (ha : PE X a (tE X.K X.mg fx W ma)) : PE X (.UnaryOp .Not a pos) (tE X.K X.mg fx W fun g => (ma g).bind fun x g1 => (lft (pTru x) g1).bind fun b g2 => .ok (.bool (!b)) g2) := by
  refine ⟨fun pins s σ H Q I ⟨g, r, h⟩ => ?_⟩
  refine UnaryOp_ (thn (ha.run pins s σ H (fun v H1 => ∃ k, TruV X.K v H1 k ∧ Q (.bl (!k)) H1) I (tX.seq r h fun x g1 v H1 r1 s1 p1 h1 => ?_)) fun u s1 ⟨v, H1, I1, rv, k, tv, q⟩ => ?_)
  · obtain ⟨k, e, q⟩ := h1.bind.lft
    exact ⟨k, tru_of p1 e, q H1 r1 Step.refl _ H1 r1 s1 (.bl _)⟩
  · exact not_of (thn (tru_ok pins s1 σ H1 v u (fun c H2 => Q (.bl (!c)) H2) I1 rv ⟨k, tv, q⟩) fun c s2 ⟨H2, I2, q2⟩ => ⟨.bl (!c), H2, I2, rfl, q2⟩)
theorem me_cmp {op : CmpOp} (hu : X.A.units + 64 < cLine) (hm : behindInMarks op b = false) (ha : PE X a (tE X.K X.mg fx W ma)) (hb : PE X b (tE X.K X.mg fx W mb)) :
    PE X (.Compare a [op] [b] pos) (tE X.K X.mg fx W fun g => (ma g).bind fun x g1 => (mb g1).bind fun y g2 => (lft (pCmp op x y) g2).bind fun b g3 => .ok (.bool b) g3) := by
  refine PE.wk (pe_cmpR (op_cmpD op hu) ha hb hm) fun σ H Q ⟨g, r, h⟩ => ?_
  refine tX.seq r h fun x g1 v H1 r1 s1 p1 h1 => ?_
  refine tX.seq r1 h1 fun y g2 w H2 r2 s2 p2 h2 => ?_
  obtain ⟨k, e, q⟩ := h2.bind.lft
  exact ⟨x, y, k, (p1.ex (s2.ex r1)).dp, p2.dp, e, q H2 r2 Step.refl _ H2 r2 (s1.trans s2) (.bl _)⟩
theorem mt_cmp {op : CmpOp} (hu : X.A.units + 64 < cLine) (hm : behindInMarks op b = false) (ha : PE X a (tE X.K X.mg fx W ma)) (hb : PE X b (tE X.K X.mg fx W mb)) :
    PT X (.Compare a [op] [b] pos) (tT X.K X.mg fx W fun g => (ma g).bind fun x g1 => (mb g1).bind fun y g2 => lft (pCmp op x y) g2) := by
  refine PT.wk (pt_cmpR (op_cmpD op hu) ha hb hm) fun σ H Q ⟨g, r, h⟩ => ?_
  refine tX.seq r h fun x g1 v H1 r1 s1 p1 h1 => ?_
  refine tX.seq r1 h1 fun y g2 w H2 r2 s2 p2 h2 => ?_
  obtain ⟨k, e, q⟩ := h2.lft
  exact ⟨x, y, k, (p1.ex (s2.ex r1)).dp, p2.dp, e, k, rfl, q _ H2 r2 (s1.trans s2) rfl⟩
theorem me_chain {op op' : CmpOp} (hu : X.A.units + 64 < cLine) (ha : PE X a (tE X.K X.mg fx W ma)) (hb : PE X b (tE X.K X.mg fx W mb)) (hc : PE X c (tE X.K X.mg fx W mc)) (hm : lastMarks [op, op'] [b, c] = false) (hm1 : behindInMarks op b = false) :
    PE X (.Compare a [op, op'] [b, c] pos) (tE X.K X.mg fx W fun g => (ma g).bind fun x g1 => (mb g1).bind fun y g2 => (lft (pCmp op x y) g2).bind fun k g3 =>
      if k then (mc g3).bind fun z g4 => (lft (pCmp op' y z) g4).bind fun k' g5 => .ok (.bool k') g5 else .ok (.bool false) g3) := by
  refine PE.wk (pe_chain (op_cmpD op hu) (op_cmpD op' hu) ha hb hc (by first | exact hm | assumption)) fun σ H Q ⟨g, r, h⟩ => ?_
  refine tX.seq r h fun x g1 v H1 r1 s1 p1 h1 => ?_
  refine tX.seq r1 h1 fun y g2 w H2 r2 s2 p2 h2 => ?_
  obtain ⟨k, e, q⟩ := h2.bind.lft
  refine ⟨x, y, k, (p1.ex (s2.ex r1)).dp, p2.dp, e, k, rfl, ?_⟩
  have q := q H2 r2 Step.refl
  cases k with
  | false => exact q _ H2 r2 (s1.trans s2) (.bl _)
  | true =>
    refine tX.seq r2 q fun z g4 u H4 r4 s4 p4 h4 => ?_
    obtain ⟨k', e', q'⟩ := h4.bind.lft
    exact ⟨y, z, k', (p2.ex (s4.ex r2)).dp, p4.dp, e', q' H4 r4 Step.refl _ H4 r4 ((s1.trans s2).trans s4) (.bl _)⟩
theorem mt_chain {op op' : CmpOp} (hu : X.A.units + 64 < cLine) (ha : PE X a (tE X.K X.mg fx W ma)) (hb : PE X b (tE X.K X.mg fx W mb)) (hc : PE X c (tE X.K X.mg fx W mc)) (hm : lastMarks [op, op'] [b, c] = false) (hm1 : behindInMarks op b = false) :
    PT X (.Compare a [op, op'] [b, c] pos) (tT X.K X.mg fx W fun g => (ma g).bind fun x g1 => (mb g1).bind fun y g2 => (lft (pCmp op x y) g2).bind fun k g3 =>
      if k then (mc g3).bind fun z g4 => lft (pCmp op' y z) g4 else .ok false g3) := by
  refine PT.wk (pt_chain (op_cmpD op hu) (op_cmpD op' hu) ha hb hc (by first | exact hm | assumption)) fun σ H Q ⟨g, r, h⟩ => ?_
  refine tX.seq r h fun x g1 v H1 r1 s1 p1 h1 => ?_
  refine tX.seq r1 h1 fun y g2 w H2 r2 s2 p2 h2 => ?_
  obtain ⟨k, e, q⟩ := h2.bind.lft
  refine ⟨x, y, k, (p1.ex (s2.ex r1)).dp, p2.dp, e, k, rfl, ?_⟩
  have q := q H2 r2 Step.refl
  cases k with
  | false => exact ⟨false, rfl, q _ H2 r2 (s1.trans s2) rfl⟩
  | true =>
    refine tX.seq r2 q fun z g4 u H4 r4 s4 p4 h4 => ?_
    obtain ⟨k', e', q'⟩ := h4.lft
    exact ⟨y, z, k', (p2.ex (s4.ex r2)).dp, p4.dp, e', k', rfl, q' _ H4 r4 ((s1.trans s2).trans s4) rfl⟩
end
end PL
/-! PLg: expressions, each by its parts, more -/
namespace PL
open PySem PySem.Spec PyProof.Rows L2

/-! ### what stands in the text -/
def isStar : Expr → Bool
  | .Starred _ _ => true
  | _ => false
theorem star_ok {e : Expr} {es : List Expr} {env : PySem.Env} (h : isStar e = false) : starEach (e :: es) env = (false, eval e env) :: starEach es env := by
  cases e <;> first | rfl | cases h
theorem stars_ok {pos : Pos} {env : PySem.Env} : ∀ {es : List Expr}, es.all (fun e => !isStar e) = true → (backTo pos (starEach es env)).any (·.1) = false
  | [], _ => rfl
  | e :: es, h => by
    rw [List.all_cons, Bool.and_eq_true] at h
    rw [star_ok (by simpa using h.1)]
    have ih := stars_ok (pos := pos) (env := env) h.2
    unfold backTo at ih ⊢
    rw [List.map_cons, List.any_cons, ih]
    rfl
theorem stars_all {pos : Pos} {env : PySem.Env} : ∀ {es : List Expr}, es.all (fun e => !isStar e) = true → (backTo pos (starEach es env)).all (fun x => !x.1) = true
  | [], _ => rfl
  | e :: es, h => by
    rw [List.all_cons, Bool.and_eq_true] at h
    rw [star_ok (by simpa using h.1)]
    have ih := stars_all (pos := pos) (env := env) h.2
    unfold backTo at ih ⊢
    rw [List.map_cons, List.all_cons, ih]
    rfl
def isSlice : Expr → Bool
  | .Slice _ _ _ _ => true
  | _ => false
theorem plainIx {b : Expr} (h : isSlice b = false) : PlainIx b := by
  intro o i
  cases b <;> first | rfl | cases h
def isCall0 : Expr → Bool
  | .Call _ [] [] _ => true
  | _ => false
theorem attr_ok {o : Expr} {name : Str} {env : PySem.Env} {w : Sem Value} (h : isCall0 o = false) : attributeBase o name env w = w := by
  cases o with
  | Call f args kws pos =>
    cases args with
    | nil => cases kws with
      | nil => cases h
      | cons _ _ => cases f <;> rfl
    | cons _ _ => cases f <;> rfl
  | _ => rfl
/-- its test is its value's truth -/
def plainT : Expr → Bool
  | .UnaryOp .Not _ _ => false
  | .BoolOp _ _ _ => false
  | .IfExp _ _ _ _ => false
  | .Compare _ _ _ _ => false
  | _ => true
theorem plainT_ok {e : Expr} {env : PySem.Env} (h : plainT e = true) (whole : Sem Value) : isTrue e env whole = (do let v ← whole; standAt e.pos; holding [v] (truthy v)) := by
  cases e with
  | UnaryOp op x pos => cases op <;> first | rfl | cases h
  | _ => first | rfl | cases h

section
variable {X : Cx} {fx : Nat → Bool} {W : WX} {a b c : Expr} {ma mb mc : M D} {pos : Pos}

/-! ### names, constants -/
theorem me_var {i : Nat} {x : Str} (hN : X.N[i]? = some x) (hv : Vis X.env.scope x) (hx : okN x = true) :
    PE X (.Name x pos) (tE X.K X.mg fx W fun g => match g[i]? with
      | some (some (.pu d)) => .ok d g
      | some (some (.ml ds)) => .ok (.list ds) (g.set i (some (.pu (.list ds))))
      | _ => .no) := by
  refine PE.wk (pe_ghost (pe_var hN hv (okN_1 hx) (okN_2 hx))) fun σ H Q ⟨g, r, h⟩ => ?_
  cases e : g[i]? with
  | none => simp only [e] at h; exact h.elim
  | some o =>
    cases o with
    | none => simp only [e] at h; exact h.elim
    | some c =>
      obtain ⟨v, s, q⟩ := r.val i c e
      refine ⟨v, s, ?_⟩
      cases c with
      | pu d => simp only [e] at h; exact .inl (h v H r Step.refl q)
      | ml ds =>
        simp only [e] at h
        obtain ⟨p, vs, rfl, hp, rr⟩ := q
        refine .inr ⟨p, vs, hp, fun o => ?_⟩
        have x : Ex H (upd H p (.frz o (.lst vs))) := Ex.put hp rfl
        have rp : Rp X.K (upd H p (.frz o (.lst vs))) (.ref p) (.list ds) := .lst upd_same (rr.ex x)
        obtain ⟨r2, s2⟩ := r.chg (H' := upd H p (.frz o (.lst vs))) (c' := .pu (.list ds)) e s (fun b u eb nb => by rw [upd_ne (fun z => nb (by subst z; simp [ow, vRef]))]; exact eb) rp (fun b hb => nomatch hb) (fun b hb => by
          by_cases z : b = p
          · subst z; rw [upd_same] at hb; cases hb
          · rw [upd_ne z] at hb; exact hb)
        exact h _ _ r2 (s2 fx) rp
      | _ => simp only [e] at h; exact h.elim
/-- as it stands, not shown to others -/
theorem pe_slot {i : Nat} {x : Str} (hN : X.N[i]? = some x) (hv : Vis X.env.scope x) (hx : okN x = true) : PE X (.Name x pos) (tVar i) := pe_var hN hv (okN_1 hx) (okN_2 hx)
theorem me_con {e : Expr} {v : V} {d : D} (he : PE X e (tC v)) (hr : ∀ H, Rp X.K H v d) : PE X e (tE X.K X.mg fx W fun g => .ok d g) :=
  PE.wk he fun σ H Q ⟨g, r, h⟩ => h v H r Step.refl (hr H)

/-! ### lists of parts -/
theorem ma_nil : PA X [] (tA X.K X.mg fx W fun g => .ok [] g) := PA.wk pa_nil fun σ H Q ⟨g, r, h⟩ => h [] H r Step.refl .nil
theorem ma_cons {es : List Expr} {mr : M (List D)} (hs : isStar a = false) (ha : PE X a (tE X.K X.mg fx W ma)) (hr : PA X es (tA X.K X.mg fx W mr)) :
    PA X (a :: es) (tA X.K X.mg fx W fun g => (ma g).bind fun x g1 => (mr g1).bind fun xs g2 => .ok (x :: xs) g2) := by
  refine PA.wk (pa_cons ha hr (star_ok hs)) fun σ H Q ⟨g, r, h⟩ => ?_
  refine tX.seq r h fun x g1 v H1 r1 s1 p1 h1 => ?_
  refine tX.seq r1 h1 fun xs g2 vs H2 r2 s2 p2 h2 => ?_
  exact h2 (v :: vs) H2 r2 (s1.trans s2) (.cons (p1.ex (s2.ex r1)) p2)
theorem mn_nil : PA X [] (tN X.K X.mg fx W fun g => .ok [] g) := PA.wk pa_nil fun σ H Q ⟨g, r, h⟩ => h [] H r Step.refl .nil
theorem AvOk.ex {K : PySem.W.Frag} {σ : St} {H H' : Hp} (x : Ex H H') {v : V} {a : AV} (h : AvOk K σ H v a) : AvOk K σ H' v a := by
  cases h with
  | d h => exact .d (h.ex x)
  | s h => exact .s h
theorem mn_cons {es : List Expr} {mr : M (List AV)} (hs : isStar a = false) (ha : PE X a (tE X.K X.mg fx W ma)) (hr : PA X es (tN X.K X.mg fx W mr)) :
    PA X (a :: es) (tN X.K X.mg fx W fun g => (ma g).bind fun x g1 => (mr g1).bind fun xs g2 => .ok (.d x :: xs) g2) := by
  refine PA.wk (pa_cons ha hr (star_ok hs)) fun σ H Q ⟨g, r, h⟩ => ?_
  refine tX.seq r h fun x g1 v H1 r1 s1 p1 h1 => ?_
  refine tX.seq r1 h1 fun xs g2 vs H2 r2 s2 p2 h2 => ?_
  exact h2 (v :: vs) H2 r2 (s1.trans s2) (.cons (.d (p1.ex (s2.ex r1))) p2)
theorem mn_io {i : Nat} {es : List Expr} {mr : M (List AV)} (hs : isStar a = false) (ha : PE X a (tVar i)) (hr : PA X es (tN X.K X.mg fx W mr)) :
    PA X (a :: es) (tN X.K X.mg fx W fun g => bound i g <| (mr g).bind fun xs g2 => .ok (.s i :: xs) g2) := by
  refine PA.wk (pa_cons ha hr (star_ok hs)) fun σ H Q ⟨g, r, h⟩ => ?_
  obtain ⟨⟨v, s⟩, h⟩ := h.bound r
  refine ⟨v, s, ?_⟩
  refine tX.seq r h fun xs g2 vs H2 r2 s2 p2 h2 => ?_
  exact h2 (v :: vs) H2 r2 s2 (.cons (.s s) p2)

/-! ### displays -/
theorem me_tup {es : List Expr} {k : Nat} {mr : M (List D)} (ha : PA X es (tA X.K X.mg fx W mr)) :
    PE X (.Tuple es k pos) (tE X.K X.mg fx W fun g => (mr g).bind fun ds g1 => if ds.length ≤ sizeLine then .ok (.tuple ds) g1 else .no) := by
  refine ⟨fun pins s σ H Q I ⟨g, r, h⟩ => ?_⟩
  refine wpAny_Tuple_spliced (thn (ha.run pos pins s σ H (fun vs H1 => vs.length ≤ sizeLine ∧ ∃ ds, RpAll X.K H1 vs ds ∧ Val X.K H1 (.tuple ds) Q) I (tX.seq r h fun ds g1 vs H1 r1 s1 p1 h1 => ?_)) fun us s1 ⟨vs, H1, I1, rv, z, ds, p, q⟩ => ⟨by rw [← rv.length]; exact z, ?_⟩)
  · obtain ⟨z, q⟩ := h1.ifp
    refine ⟨by rw [p1.len]; exact z, ds, p1, fun v H2 gr e => ?_⟩
    exact q v H2 (r1.ex gr).1 (s1.trans (r1.grow gr)) e
  · exact ep_tupD (tk := s1.toks) I1 rv z p q
/-- a new list behind the parts -/
theorem newF {K : PySem.W.Frag} {σ : St} {H H1 : Hp} {g g1 : Env} {p : Addr} {vs : List V} {ds : List D} (r1 : RelEnv K σ H1 g1) (s1 : Step fx σ g H σ g1 H1) (n : H1 p = none) (rp : RpAll K H1 vs ds) :
    RelEnv K σ (upd H1 p (.lst vs)) g1 ∧ Step fx σ g H σ g1 (upd H1 p (.lst vs)) ∧ rF K σ H g (upd H1 p (.lst vs)) g1 (.ref p) ds := by
  have gr : Grow H1 (upd H1 p (.lst vs)) := Grow.new n
  refine ⟨r1.new n, s1.trans (r1.grow gr), p, vs, rfl, upd_same, rp.ex (Ex.new n), .inl (s1.dom p n), fun m => ?_⟩
  obtain ⟨o, e, _⟩ := r1.mad (((r1.ex gr).2 p).mp m)
  rw [n] at e; cases e
theorem mf_lst {es : List Expr} {mr : M (List D)} (ha : PA X es (tA X.K X.mg fx W mr)) :
    PE X (.List es pos) (tF X.K X.mg fx W fun g => (mr g).bind fun ds g1 => if ds.length ≤ sizeLine then .ok ds g1 else .no) := by
  refine PE.wk (pe_lst ha) fun σ H Q ⟨g, r, h⟩ => ?_
  refine tX.seq r h fun ds g1 vs H1 r1 s1 p1 h1 => ?_
  obtain ⟨z, q⟩ := h1.ifp
  refine ⟨by rw [p1.len]; exact z, fun p n => ?_⟩
  obtain ⟨r2, s2, f⟩ := newF r1 s1 n p1
  exact q _ _ r2 s2 f
/-- a new list that nobody writes from now on -/
theorem frz_step {K : PySem.W.Frag} {σ : St} {H H1 : Hp} {g g1 : Env} {p : Addr} {vs : List V} {ds : List D} (r1 : RelEnv K σ H1 g1) (s1 : Step fx σ g H σ g1 H1) (hp : H1 p = some (.lst vs)) (rr : RpAll K H1 vs ds) (hn : H p = none ∨ MAd σ g H p) (hm : ¬ MAd σ g1 H1 p) (o : Obj) :
    RelEnv K σ (upd H1 p (.frz o (.lst vs))) g1 ∧ Step fx σ g H σ g1 (upd H1 p (.frz o (.lst vs))) ∧ Rp K (upd H1 p (.frz o (.lst vs))) (.ref p) (.list ds) := by
  have x : Ex H1 (upd H1 p (.frz o (.lst vs))) := Ex.put hp rfl
  obtain ⟨r2, m2⟩ := r1.but (H' := upd H1 p (.frz o (.lst vs))) x (fun b mb => upd_ne fun z => hm (by subst z; exact mb))
  refine ⟨r2, ⟨fun b u e n => ?_, fun b mb => s1.mad b ((m2 b).mp mb), s1.fix, fun b hb => s1.dom b ?_⟩, .lst upd_same (rr.ex x)⟩
  · rw [upd_ne]
    · exact s1.keep b u e n
    · intro z; subst z; rcases hn with hn | hn
      · rw [hn] at e; cases e
      · exact n hn
  · by_cases z : b = p
    · subst z; rw [upd_same] at hb; cases hb
    · rw [upd_ne z] at hb; exact hb
/-- a new list as a value: nobody writes it -/
theorem me_fz {e : Expr} {mf : M (List D)} (he : PE X e (tF X.K X.mg fx W mf)) : PE X e (tE X.K X.mg fx W fun g => (mf g).bind fun ds g1 => .ok (.list ds) g1) := by
  refine PE.wk (pe_ghost he) fun σ H Q ⟨g, r, h⟩ => ?_
  refine tX.seq r h fun ds g1 v H1 r1 s1 ⟨p, vs, ev, hp, rr, hn, hm⟩ h1 => ?_
  subst ev
  refine .inr ⟨p, vs, hp, fun o => ?_⟩
  obtain ⟨r2, s2, k⟩ := frz_step r1 s1 hp rr hn hm o
  exact h1 _ _ r2 s2 k

/-! ### two operands -/
theorem pBinL_inv {op : Operator} {x y : D} {zs : List D} (h : pBinL op x y = some zs) : op = .Add ∧ ∃ xs ys, x = .list xs ∧ y = .list ys ∧ xs.length + ys.length ≤ sizeLine ∧ zs = xs ++ ys := by
  unfold pBinL at h
  split at h
  · split at h
    · cases h; exact ⟨rfl, _, _, rfl, rfl, by assumption, rfl⟩
    · cases h
  · cases h
theorem me_bin {op : Operator} (ha : PE X a (tE X.K X.mg fx W ma)) (hb : PE X b (tE X.K X.mg fx W mb)) :
    PE X (.BinOp a op b pos) (tE X.K X.mg fx W fun g => (ma g).bind fun x g1 => (mb g1).bind fun y g2 => lft (pBinX op x y) g2) := by
  have ho : OpR X (binaryOp op) (fun x y H Q => rBinD X.K op x y H Q ∨ (op = .Add ∧ rCatR x y H Q)) := by
    intro pins s σ H x y v u Q I rx ry h
    rcases h with h | ⟨e, h⟩
    · exact op_binD op pins s σ H x y v u Q I rx ry h
    · subst e
      exact op_catR pins s σ H x y v u Q I rx ry h
  refine PE.wk (pe_ghost (pe_op ho ha hb)) fun σ H Q ⟨g, r, h⟩ => ?_
  refine tX.seq r h fun x g1 v H1 r1 s1 p1 h1 => ?_
  refine tX.seq r1 h1 fun y g2 w H2 r2 s2 p2 h2 => ?_
  obtain ⟨d, e, q⟩ := h2.lft
  unfold pBinX at e
  split at e
  · rename_i zs ez
    cases e
    obtain ⟨eo, xs, ys, rfl, rfl, hz, rfl⟩ := pBinL_inv ez
    obtain ⟨a1, o1, vs1, rfl, e1, q1⟩ := rp_lst (p1.ex (s2.ex r1))
    obtain ⟨a2, o2, vs2, rfl, e2, q2⟩ := rp_lst p2
    refine .inr ⟨eo, a1, a2, vs1, vs2, rfl, rfl, .inr ⟨o1, e1⟩, .inr ⟨o2, e2⟩, by rw [q1.len, q2.len]; exact hz, fun l n => .inr ⟨l, _, upd_same, fun o => ?_⟩⟩
    obtain ⟨r3, s3, ⟨p', ws, ev, hp, rr, hn, hm⟩⟩ := newF r2 (s1.trans s2) n (q1.append q2)
    cases ev
    rw [upd_same] at hp
    cases hp
    obtain ⟨r4, s4, k⟩ := frz_step r3 s3 upd_same rr hn hm o
    exact q _ _ r4 s4 k
  · exact .inl ⟨x, y, d, p1.ex (s2.ex r1), p2, e, fun z H3 gr rz => .inl (q z H3 (r2.ex gr).1 ((s1.trans s2).trans (r2.grow gr)) rz)⟩

/-! ### choices -/
theorem me_ite {mt : M Bool} (hc : PT X c (tT X.K X.mg fx W mt)) (ha : PE X a (tE X.K X.mg fx W ma)) (hb : PE X b (tE X.K X.mg fx W mb)) :
    PE X (.IfExp c a b pos) (tE X.K X.mg fx W fun g => (mt g).bind fun k g1 => if k then ma g1 else mb g1) := by
  refine PE.wk (pe_ifExp hc ha hb) fun σ H Q ⟨g, r, h⟩ => ?_
  refine tX.seq r h fun k g1 v H1 r1 s1 p1 h1 => ?_
  subst p1
  cases v with
  | true => exact ⟨g1, r1, h1.mono fun d g2 q w H2 r2 s2 rp => q w H2 r2 (s1.trans s2) rp⟩
  | false => exact ⟨g1, r1, h1.mono fun d g2 q w H2 r2 s2 rp => q w H2 r2 (s1.trans s2) rp⟩
theorem me_one {op : BoolOp} (ha : PE X a (tE X.K X.mg fx W ma)) : PE X (.BoolOp op [a] pos) (tE X.K X.mg fx W ma) := pe_one ha
theorem me_and {rest : List Expr} (ha : PE X a (tE X.K X.mg fx W ma)) (hb : PE X (.BoolOp .And (b :: rest) pos) (tE X.K X.mg fx W mb)) :
    PE X (.BoolOp .And (a :: b :: rest) pos) (tE X.K X.mg fx W fun g => (ma g).bind fun x g1 => (lft (isBl x) g1).bind fun k g2 => if k then mb g2 else .ok (.bool false) g2) := by
  refine PE.wk (pe_and ha hb) fun σ H Q ⟨g, r, h⟩ => ?_
  refine tX.seq r h fun x g1 v H1 r1 s1 p1 h1 => ?_
  obtain ⟨k, e, q⟩ := h1.bind.lft
  have q := q H1 r1 Step.refl
  cases x with
  | bool k' =>
    cases e
    refine ⟨k, rp_bl p1, ?_⟩
    cases k with
    | true => exact ⟨g1, r1, Run.mono q fun d g2 q w H2 r2 s2 rp => q w H2 r2 (s1.trans s2) rp⟩
    | false => exact q _ H1 r1 s1 (.bl _)
  | _ => cases e
theorem me_or {rest : List Expr} (ha : PE X a (tE X.K X.mg fx W ma)) (hb : PE X (.BoolOp .Or (b :: rest) pos) (tE X.K X.mg fx W mb)) :
    PE X (.BoolOp .Or (a :: b :: rest) pos) (tE X.K X.mg fx W fun g => (ma g).bind fun x g1 => (lft (isBl x) g1).bind fun k g2 => if k then .ok (.bool true) g2 else mb g2) := by
  refine PE.wk (pe_or ha hb) fun σ H Q ⟨g, r, h⟩ => ?_
  refine tX.seq r h fun x g1 v H1 r1 s1 p1 h1 => ?_
  obtain ⟨k, e, q⟩ := h1.bind.lft
  have q := q H1 r1 Step.refl
  cases x with
  | bool k' =>
    cases e
    refine ⟨k, rp_bl p1, ?_⟩
    cases k with
    | false => exact ⟨g1, r1, Run.mono q fun d g2 q w H2 r2 s2 rp => q w H2 r2 (s1.trans s2) rp⟩
    | true => exact q _ H1 r1 s1 (.bl _)
  | _ => cases e

/-! ### tests -/
theorem mt_e (he : plainT a = true) (ha : PE X a (tE X.K X.mg fx W ma)) : PT X a (tT X.K X.mg fx W fun g => (ma g).bind fun x g1 => lft (pTru x) g1) := by
  refine PT.wk (pt_truth ha (plainT_ok he)) fun σ H Q ⟨g, r, h⟩ => ?_
  refine tX.seq r h fun x g1 v H1 r1 s1 p1 h1 => ?_
  obtain ⟨k, e, q⟩ := h1.lft
  exact ⟨k, tru_of p1 e, q k H1 r1 s1 rfl⟩
theorem mt_not {mt : M Bool} (ha : PT X a (tT X.K X.mg fx W mt)) : PT X (.UnaryOp .Not a pos) (tT X.K X.mg fx W fun g => (mt g).bind fun b g1 => .ok (!b) g1) := by
  refine PT.wk (pt_not ha) fun σ H Q ⟨g, r, h⟩ => ?_
  refine tX.seq r h fun k g1 v H1 r1 s1 p1 h1 => ?_
  subst p1
  exact h1 _ H1 r1 s1 rfl
theorem mw_and1 {mt : M Bool} (ha : PT X a (tT X.K X.mg fx W mt)) : PW X (.BoolOp .And [a] pos) (tT X.K X.mg fx W mt) := pw_and1 ha
theorem mw_or1 {mt : M Bool} (ha : PT X a (tT X.K X.mg fx W mt)) : PW X (.BoolOp .Or [a] pos) (tT X.K X.mg fx W mt) := pw_or1 ha
theorem mw_and {rest : List Expr} {mt mu : M Bool} (ha : PT X a (tT X.K X.mg fx W mt)) (hb : PW X (.BoolOp .And (b :: rest) pos) (tT X.K X.mg fx W mu)) :
    PW X (.BoolOp .And (a :: b :: rest) pos) (tT X.K X.mg fx W fun g => (mt g).bind fun b g1 => if b then mu g1 else .ok false g1) := by
  refine PW.wk (pw_and ha hb) fun σ H Q ⟨g, r, h⟩ => ?_
  refine tX.seq r h fun k g1 v H1 r1 s1 p1 h1 => ?_
  subst p1
  cases v with
  | true => exact ⟨g1, r1, h1.mono fun d g2 q w H2 r2 s2 rp => q w H2 r2 (s1.trans s2) rp⟩
  | false => exact h1 _ H1 r1 s1 rfl
theorem mw_or {rest : List Expr} {mt mu : M Bool} (ha : PT X a (tT X.K X.mg fx W mt)) (hb : PW X (.BoolOp .Or (b :: rest) pos) (tT X.K X.mg fx W mu)) :
    PW X (.BoolOp .Or (a :: b :: rest) pos) (tT X.K X.mg fx W fun g => (mt g).bind fun b g1 => if b then .ok true g1 else mu g1) := by
  refine PW.wk (pw_or ha hb) fun σ H Q ⟨g, r, h⟩ => ?_
  refine tX.seq r h fun k g1 v H1 r1 s1 p1 h1 => ?_
  subst p1
  cases v with
  | false => exact ⟨g1, r1, h1.mono fun d g2 q w H2 r2 s2 rp => q w H2 r2 (s1.trans s2) rp⟩
  | true => exact h1 _ H1 r1 s1 rfl

/-! ### items, slices -/
theorem me_idx (hs : isSlice b = false) (ha : PE X a (tE X.K X.mg fx W ma)) (hb : PE X b (tE X.K X.mg fx W mb)) :
    PE X (.Subscript a b pos) (tE X.K X.mg fx W fun g => (ma g).bind fun x g1 => (mb g1).bind fun y g2 => lft (pIdx x y) g2) := by
  refine PE.wk (pe_ix ix_D ha hb (plainIx hs)) fun σ H Q ⟨g, r, h⟩ => ?_
  refine tX.seq r h fun x g1 v H1 r1 s1 p1 h1 => ?_
  refine tX.seq r1 h1 fun y g2 w H2 r2 s2 p2 h2 => ?_
  obtain ⟨d, e, q⟩ := h2.lft
  exact ⟨x, y, d, p1.ex (s2.ex r1), p2, e, fun z H3 gr rz => q z H3 (r2.ex gr).1 ((s1.trans s2).trans (r2.grow gr)) rz⟩
/-- what a slot holds that may be written -/
theorem slot_of {K : PySem.W.Frag} {σ : St} {H : Hp} {g : Env} {i : Nat} {v : V} {ds : List D} (r : RelEnv K σ H g) (s : σ[i]? = some (some v)) (e : g[i]? = some (some (.ml ds))) : ∃ a vs, v = .ref a ∧ H a = some (.lst vs) ∧ RpAll K H vs ds := r.at e s
theorem me_idxS {i : Nat} (hs : isSlice b = false) (ha : PE X a (tVar i)) (hb : PE X b (tE X.K X.mg fx W mb)) :
    PE X (.Subscript a b pos) (tE X.K X.mg fx W fun g => bound i g <| (mb g).bind fun y g1 => match g1[i]? with
      | some (some (.ml ds)) => lft (pIdx (.list ds) y) g1
      | _ => .no) := by
  refine PE.wk (pe_ix ix_M ha hb (plainIx hs)) fun σ H Q ⟨g, r, h⟩ => ?_
  obtain ⟨⟨v, hv⟩, h⟩ := h.bound r
  refine ⟨v, hv, tX.seq r h fun y g1 w H1 r1 s1 p1 h1 => ?_⟩
  split at h1
  · rename_i ds e
    obtain ⟨d, e2, q⟩ := h1.lft
    obtain ⟨p, vs, rfl, hp, rr⟩ := slot_of r1 hv e
    cases y with
    | int k =>
      cases rp_int p1
      exact ⟨p, vs, ds, k, d, rfl, rfl, hp, rr, e2, fun z H3 gr rz => q z H3 (r1.ex gr).1 (s1.trans (r1.grow gr)) rz⟩
    | _ => cases e2
  · exact h1.elim
/-- comparisons with what a slot holds -/
theorem me_cmpL {op : CmpOp} {i : Nat} (hu : X.A.units + 64 < cLine) (hm : behindInMarks op b = false) (ha : PE X a (tVar i)) (hb : PE X b (tE X.K X.mg fx W mb)) :
    PE X (.Compare a [op] [b] pos) (tE X.K X.mg fx W fun g => bound i g <| (mb g).bind fun y g1 => match g1[i]? with
      | some (some (.ml ds)) => (lft (pCmp op (.list ds) y) g1).bind fun b g3 => .ok (.bool b) g3
      | _ => .no) := by
  refine PE.wk (pe_cmpR (op_cmpD op hu) ha hb hm) fun σ H Q ⟨g, r, h⟩ => ?_
  obtain ⟨⟨v, hv⟩, h⟩ := h.bound r
  refine ⟨v, hv, tX.seq r h fun y g1 w H1 r1 s1 p1 h1 => ?_⟩
  split at h1
  · rename_i ds e
    obtain ⟨k, e2, q⟩ := h1.bind.lft
    obtain ⟨p, vs, rfl, hp, rr⟩ := slot_of r1 hv e
    exact ⟨.list ds, y, k, .lst (SqL.of hp) rr.dp, p1.dp, e2, q H1 r1 Step.refl _ H1 r1 s1 (.bl _)⟩
  · exact h1.elim
theorem mt_cmpL {op : CmpOp} {i : Nat} (hu : X.A.units + 64 < cLine) (hm : behindInMarks op b = false) (ha : PE X a (tVar i)) (hb : PE X b (tE X.K X.mg fx W mb)) :
    PT X (.Compare a [op] [b] pos) (tT X.K X.mg fx W fun g => bound i g <| (mb g).bind fun y g1 => match g1[i]? with
      | some (some (.ml ds)) => lft (pCmp op (.list ds) y) g1
      | _ => .no) := by
  refine PT.wk (pt_cmpR (op_cmpD op hu) ha hb hm) fun σ H Q ⟨g, r, h⟩ => ?_
  obtain ⟨⟨v, hv⟩, h⟩ := h.bound r
  refine ⟨v, hv, tX.seq r h fun y g1 w H1 r1 s1 p1 h1 => ?_⟩
  split at h1
  · rename_i ds e
    obtain ⟨k, e2, q⟩ := h1.lft
    obtain ⟨p, vs, rfl, hp, rr⟩ := slot_of r1 hv e
    exact ⟨.list ds, y, k, .lst (SqL.of hp) rr.dp, p1.dp, e2, k, rfl, q _ H1 r1 s1 rfl⟩
  · exact h1.elim
theorem me_cmpR {op : CmpOp} {i : Nat} (hu : X.A.units + 64 < cLine) (hm : behindInMarks op b = false) (ha : PE X a (tE X.K X.mg fx W ma)) (hb : PE X b (tVar i)) :
    PE X (.Compare a [op] [b] pos) (tE X.K X.mg fx W fun g => (ma g).bind fun x g1 => match g1[i]? with
      | some (some (.ml ds)) => (lft (pCmp op x (.list ds)) g1).bind fun b g3 => .ok (.bool b) g3
      | _ => .no) := by
  refine PE.wk (pe_cmpR (op_cmpD op hu) ha hb hm) fun σ H Q ⟨g, r, h⟩ => ?_
  refine tX.seq r h fun x g1 v H1 r1 s1 p1 h1 => ?_
  split at h1
  · rename_i ds e
    obtain ⟨k, e2, q⟩ := h1.bind.lft
    obtain ⟨w, hw, _⟩ := r1.val i _ e
    obtain ⟨p, vs, rfl, hp, rr⟩ := slot_of r1 hw e
    exact ⟨_, hw, x, .list ds, k, p1.dp, .lst (SqL.of hp) rr.dp, e2, q H1 r1 Step.refl _ H1 r1 s1 (.bl _)⟩
  · exact h1.elim
theorem mt_cmpR {op : CmpOp} {i : Nat} (hu : X.A.units + 64 < cLine) (hm : behindInMarks op b = false) (ha : PE X a (tE X.K X.mg fx W ma)) (hb : PE X b (tVar i)) :
    PT X (.Compare a [op] [b] pos) (tT X.K X.mg fx W fun g => (ma g).bind fun x g1 => match g1[i]? with
      | some (some (.ml ds)) => lft (pCmp op x (.list ds)) g1
      | _ => .no) := by
  refine PT.wk (pt_cmpR (op_cmpD op hu) ha hb hm) fun σ H Q ⟨g, r, h⟩ => ?_
  refine tX.seq r h fun x g1 v H1 r1 s1 p1 h1 => ?_
  split at h1
  · rename_i ds e
    obtain ⟨k, e2, q⟩ := h1.lft
    obtain ⟨w, hw, _⟩ := r1.val i _ e
    obtain ⟨p, vs, rfl, hp, rr⟩ := slot_of r1 hw e
    exact ⟨_, hw, x, .list ds, k, p1.dp, .lst (SqL.of hp) rr.dp, e2, k, rfl, q _ H1 r1 s1 rfl⟩
  · exact h1.elim

/-! ### slices -/
theorem mo_no : PO X none (tO X.K X.mg fx W fun g => .ok none g) := ⟨fun pins s σ H Q I ⟨g, r, h⟩ => (po_none).run pins s σ H Q I (h none H r Step.refl rfl)⟩
theorem mo_e (ha : PE X a (tE X.K X.mg fx W ma)) : PO X (some a) (tO X.K X.mg fx W fun g => (ma g).bind fun x g1 => (lft (isIn x) g1).bind fun i g2 => .ok (some i) g2) := by
  refine ⟨fun pins s σ H Q I ⟨g, r, h⟩ => (po_some ha).run pins s σ H Q I ?_⟩
  refine tX.seq r h fun x g1 v H1 r1 s1 p1 h1 => ?_
  obtain ⟨i, e, q⟩ := h1.bind.lft
  cases x with
  | int k =>
    cases e
    exact ⟨i, rp_int p1, q H1 r1 Step.refl _ H1 r1 s1 rfl⟩
  | _ => cases e
theorem me_slc {lo hi : Option Expr} {ml mh : M (Option Int)} {p2 : Pos} (ha : PE X a (tE X.K X.mg fx W ma)) (hl : PO X lo (tO X.K X.mg fx W ml)) (hh : PO X hi (tO X.K X.mg fx W mh)) :
    PE X (.Subscript a (.Slice lo hi none p2) pos) (tE X.K X.mg fx W fun g => (ma g).bind fun x g1 => (ml g1).bind fun l g2 => (mh g2).bind fun h g3 => lft (pCut l h x) g3) := by
  refine PE.wk (pe_ghost (pe_slice (L2.SlR.or sl_T sl_list) ha hl hh)) fun σ H Q ⟨g, r, h⟩ => ?_
  refine tX.seq r h fun x g1 v H1 r1 s1 p1 h1 => ?_
  refine tX.seq r1 h1 fun l g2 l' H2 r2 s2 p2 h2 => ?_
  subst p2
  refine tX.seq r2 h2 fun u g3 u' H3 r3 s3 p3 h3 => ?_
  subst p3
  obtain ⟨d, e, q⟩ := h3.lft
  cases x with
  | tuple ds =>
    cases e
    exact .inl ⟨ds, (p1.ex (s2.ex r1)).ex (s3.ex r2), fun z H4 gr rz => .inl (q z H4 (r3.ex gr).1 (((s1.trans s2).trans s3).trans (r3.grow gr)) rz)⟩
  | list ds =>
    cases e
    obtain ⟨p, o, vs, rfl, hp, rr⟩ := rp_lst ((p1.ex (s2.ex r1)).ex (s3.ex r2))
    refine .inr ⟨p, vs, rfl, .inl (.inr ⟨o, hp⟩), fun p' n => .inr ⟨p', _, upd_same, fun o' => ?_⟩⟩
    obtain ⟨r4, s4, ⟨p'', ws, ev, hp', rr', hn, hm⟩⟩ := newF r3 ((s1.trans s2).trans s3) n (cut_rp rr l' u')
    cases ev
    rw [upd_same] at hp'
    cases hp'
    obtain ⟨r5, s5, k⟩ := frz_step r4 s4 upd_same rr' hn hm o'
    exact q _ _ r5 s5 k
  | _ => cases e
theorem mf_slc {lo hi : Option Expr} {ml mh : M (Option Int)} {p2 : Pos} (ha : PE X a (tE X.K X.mg fx W ma)) (hl : PO X lo (tO X.K X.mg fx W ml)) (hh : PO X hi (tO X.K X.mg fx W mh)) :
    PE X (.Subscript a (.Slice lo hi none p2) pos) (tF X.K X.mg fx W fun g => (ma g).bind fun x g1 => (ml g1).bind fun l g2 => (mh g2).bind fun h g3 => match x with
      | .list xs => .ok (cutD xs l h) g3
      | _ => .no) := by
  refine PE.wk (pe_slice sl_list ha hl hh) fun σ H Q ⟨g, r, h⟩ => ?_
  refine tX.seq r h fun x g1 v H1 r1 s1 p1 h1 => ?_
  refine tX.seq r1 h1 fun l g2 l' H2 r2 s2 p2 h2 => ?_
  subst p2
  refine tX.seq r2 h2 fun u g3 u' H3 r3 s3 p3 h3 => ?_
  subst p3
  cases x with
  | list ds =>
    obtain ⟨p, o, vs, rfl, hp, rr⟩ := rp_lst ((p1.ex (s2.ex r1)).ex (s3.ex r2))
    refine ⟨p, vs, rfl, .inl (.inr ⟨o, hp⟩), fun p' n => ?_⟩
    obtain ⟨r4, s4, f⟩ := newF r3 ((s1.trans s2).trans s3) n (cut_rp rr l' u')
    exact h3 _ _ r4 s4 f
  | _ => exact h3.elim
end
end PL
/-! PLh: calls -/
namespace PL
open PySem PySem.Spec PyProof.Rows L2

/-! ### a def is called -/
theorem resolve_at {g : Env} : ∀ {as : List AV} {cs : List C}, resolve g as = some cs → as.length = cs.length ∧ ∀ (j : Nat) (c : C), cs[j]? = some c → (∃ d, as[j]? = some (.d d) ∧ c = .pu d) ∨ ∃ i, as[j]? = some (.s i) ∧ g[i]? = some (some c)
  | [], cs, h => by cases h; exact ⟨rfl, fun j c e => by simp at e⟩
  | .d d :: r, cs, h => by
    obtain ⟨cs', h', rfl⟩ := Option.map_eq_some_iff.mp (show (resolve g r).map (C.pu d :: ·) = some cs from h)
    obtain ⟨l, k⟩ := resolve_at h'
    refine ⟨by rw [List.length_cons, List.length_cons, l], fun j c e => ?_⟩
    cases j with
    | zero => simp at e; subst e; exact .inl ⟨d, rfl, rfl⟩
    | succ j => simpa using k j c (by simpa using e)
  | .s i :: r, cs, h => by
    unfold resolve at h
    split at h
    · rename_i c0 e0
      obtain ⟨cs', h', rfl⟩ := Option.map_eq_some_iff.mp h
      obtain ⟨l, k⟩ := resolve_at h'
      refine ⟨by rw [List.length_cons, List.length_cons, l], fun j c e => ?_⟩
      cases j with
      | zero => simp at e; subst e; exact .inr ⟨i, rfl, e0⟩
      | succ j => simpa using k j c (by simpa using e)
    · cases h
theorem avok_at {K : PySem.W.Frag} {σ : St} {H : Hp} : ∀ {vs : List V} {as : List AV}, Paired (AvOk K σ H) vs as → vs.length = as.length ∧ ∀ (j : Nat) (v : V) (a : AV), vs[j]? = some v → as[j]? = some a → AvOk K σ H v a
  | _, _, .nil => ⟨rfl, fun j v a e => by simp at e⟩
  | _, _, .cons h r => by
    obtain ⟨l, k⟩ := avok_at r
    refine ⟨by rw [List.length_cons, List.length_cons, l], fun j v a e e' => ?_⟩
    cases j with
    | zero => simp at e e'; subst e; subst e'; exact h
    | succ j => exact k j v a (by simpa using e) (by simpa using e')
def slotsOf : List AV → List Nat
  | [] => []
  | .d _ :: r => slotsOf r
  | .s i :: r => i :: slotsOf r
theorem slots_mem {i : Nat} : ∀ {as : List AV} {j : Nat}, as[j]? = some (.s i) → i ∈ slotsOf as
  | [], _, e => by simp at e
  | .d _ :: r, 0, e => by simp at e
  | .s k :: r, 0, e => by simp at e; subst e; exact List.mem_cons_self
  | .d _ :: r, j + 1, e => slots_mem (as := r) (j := j) (by simpa using e)
  | .s _ :: r, j + 1, e => List.mem_cons_of_mem _ (slots_mem (as := r) (j := j) (by simpa using e))
theorem slots_inj {i : Nat} : ∀ {as : List AV} {j k : Nat}, (slotsOf as).Nodup → as[j]? = some (.s i) → as[k]? = some (.s i) → j = k
  | [], _, _, _, e, _ => by simp at e
  | .d _ :: r, 0, _, _, e, _ => by simp at e
  | .d _ :: r, _ + 1, 0, _, _, e => by simp at e
  | .d _ :: r, j + 1, k + 1, n, e, e' => by rw [slots_inj (as := r) (j := j) (k := k) n (by simpa using e) (by simpa using e')]
  | .s m :: r, 0, 0, _, _, _ => rfl
  | .s m :: r, 0, k + 1, n, e, e' => by
    simp at e; subst e
    exact absurd (slots_mem (as := r) (j := k) (by simpa using e')) (List.nodup_cons.mp n).1
  | .s m :: r, j + 1, 0, n, e, e' => by
    simp at e'; subst e'
    exact absurd (slots_mem (as := r) (j := j) (by simpa using e)) (List.nodup_cons.mp n).1
  | .s m :: r, j + 1, k + 1, n, e, e' => by rw [slots_inj (as := r) (j := j) (k := k) (List.nodup_cons.mp n).2 (by simpa using e) (by simpa using e')]
theorem putBack_len : ∀ {as : List AV} {cs : List (Option C)} {g : Env}, (putBack as cs g).length = g.length
  | [], [], _ => rfl
  | [], _ :: _, _ => rfl
  | .d _ :: r, [], _ => rfl
  | .s _ :: r, [], _ => rfl
  | .d _ :: r, _ :: cs, g => putBack_len (as := r) (cs := cs)
  | .s i :: r, c :: cs, g => by
    show (putBack r cs (g.set i c)).length = g.length
    rw [putBack_len (as := r) (cs := cs), List.length_set]
theorem putBack_at {k : Nat} {c : C} : ∀ {as : List AV} {cs : List (Option C)} {g : Env}, (slotsOf as).Nodup → as.length = cs.length → (putBack as cs g)[k]? = some (some c) →
    (∃ j : Nat, as[j]? = some (.s k) ∧ cs[j]? = some (some c)) ∨ (k ∉ slotsOf as ∧ g[k]? = some (some c))
  | [], [], _, _, _, e => .inr ⟨by simp [slotsOf], e⟩
  | [], _ :: _, _, _, l, _ => by simp at l
  | .d _ :: r, [], _, _, l, _ => by simp at l
  | .s _ :: r, [], _, _, l, _ => by simp at l
  | .d _ :: r, c' :: cs, g, n, l, e => by
    rcases putBack_at (as := r) (cs := cs) (g := g) n (by simpa using l) e with ⟨j, h1, h2⟩ | h
    · exact .inl ⟨j + 1, by simpa using h1, by simpa using h2⟩
    · exact .inr h
  | .s i :: r, c' :: cs, g, n, l, e => by
    have n' := List.nodup_cons.mp n
    rcases putBack_at (as := r) (cs := cs) (g := g.set i c') n'.2 (by simpa using l) e with ⟨j, h1, h2⟩ | ⟨h1, h2⟩
    · exact .inl ⟨j + 1, by simpa using h1, by simpa using h2⟩
    · rcases set_at h2 with ⟨rfl, rfl, _⟩ | ⟨ne, h2⟩
      · exact .inl ⟨0, rfl, rfl⟩
      · exact .inr ⟨fun m => (List.mem_cons.mp m).elim (fun z => ne z.symm) h1, h2⟩
section
variable {K : PySem.W.Frag} {σ : St} {H : Hp} {g : Env} {vs : List V} {as : List AV} {cs : List C}
theorem map_some_at {α : Type} {l : List α} {i : Nat} {x : α} (e : (l.map some)[i]? = some (some x)) : l[i]? = some x := by
  rw [List.getElem?_map] at e
  cases z : l[i]? with
  | none => rw [z] at e; cases e
  | some y => rw [z] at e; cases e; rfl
theorem at_map_some {α : Type} {l : List α} {i : Nat} {x : α} (e : l[i]? = some x) : (l.map some)[i]? = some (some x) := by rw [List.getElem?_map, e]; rfl
/-- what the arguments are, as slots of their own -/
theorem args_env (r : RelEnv K σ H g) (pv : Paired (AvOk K σ H) vs as) (hr : resolve g as = some cs) (nd : (slotsOf as).Nodup) :
    vs.length = cs.length ∧ RelEnv K (vs.map some) H (cs.map some) ∧ ∀ (j : Nat) (v : V) (c : C) (b : Addr), vs[j]? = some v → cs[j]? = some c → b ∈ ow H v c → ∃ i, as[j]? = some (.s i) ∧ g[i]? = some (some c) ∧ σ[i]? = some (some v) := by
  obtain ⟨l1, k1⟩ := avok_at pv
  obtain ⟨l2, k2⟩ := resolve_at hr
  have own : ∀ (j : Nat) (v : V) (c : C) (b : Addr), vs[j]? = some v → cs[j]? = some c → b ∈ ow H v c → ∃ i, as[j]? = some (.s i) ∧ g[i]? = some (some c) ∧ σ[i]? = some (some v) := fun j v c b ev ec m => by
    rcases k2 j c ec with ⟨d, _, rfl⟩ | ⟨i, ea, eg⟩
    · exact nomatch m
    · refine ⟨i, ea, eg, ?_⟩
      cases k1 j v _ ev ea with
      | s h => exact h
  refine ⟨by omega, ⟨by rw [List.length_map, List.length_map]; omega, fun j c e => ?_, fun j j' b c c' v v' e1 s1 m1 e2 s2 m2 => ?_⟩, own⟩
  · have ec := map_some_at e
    have hj : j < vs.length := by
      have := (List.getElem?_eq_some_iff.mp ec).1
      omega
    refine ⟨vs[j], at_map_some (List.getElem?_eq_getElem hj), ?_⟩
    rcases k2 j c ec with ⟨d, ea, rfl⟩ | ⟨i, ea, eg⟩
    · cases k1 j _ _ (List.getElem?_eq_getElem hj) ea with
      | d h => exact h
    · cases k1 j _ _ (List.getElem?_eq_getElem hj) ea with
      | s h => exact r.at eg h
  · obtain ⟨i, a1, g1, t1⟩ := own j v c b (map_some_at s1) (map_some_at e1) m1
    obtain ⟨i', a2, g2, t2⟩ := own j' v' c' b (map_some_at s2) (map_some_at e2) m2
    have z := r.sep i i' b c c' v v' g1 t1 m1 g2 t2 m2
    subst z
    exact slots_inj nd a1 a2
/-- behind the call: the slots of the arguments hold what the def left -/
theorem after_env {fx : Nat → Bool} {H' : Hp} {ns : List (Option C)} (r : RelEnv K σ H g) (pv : Paired (AvOk K σ H) vs as) (hr : resolve g as = some cs) (nd : (slotsOf as).Nodup)
    (r' : RelEnv K (vs.map some) H' ns) (s' : Step (fun _ => false) (vs.map some) (cs.map some) H (vs.map some) ns H') :
    RelEnv K σ H' (putBack as ns g) ∧ Step fx σ g H σ (putBack as ns g) H' ∧ ∀ b, (H b = none ∨ MAd (vs.map some) (cs.map some) H b) → ¬ MAd (vs.map some) ns H' b → (H b = none ∨ MAd σ g H b) ∧ ¬ MAd σ (putBack as ns g) H' b := by
  obtain ⟨l, ra, own⟩ := args_env r pv hr nd
  obtain ⟨l1, k1⟩ := avok_at pv
  have ll : as.length = ns.length := by have := r'.len; rw [List.length_map] at this; omega
  -- what an argument may write, its slot may write
  have up : ∀ b, MAd (vs.map some) (cs.map some) H b → ∃ i c v, i ∈ slotsOf as ∧ g[i]? = some (some c) ∧ σ[i]? = some (some v) ∧ b ∈ ow H v c := fun b ⟨j, c, v, e, s, m⟩ => by
    obtain ⟨i, ea, eg, es⟩ := own j v c b (map_some_at s) (map_some_at e) m
    exact ⟨i, c, v, slots_mem ea, eg, es, m⟩
  have upM : ∀ b, MAd (vs.map some) (cs.map some) H b → MAd σ g H b := fun b m => by
    obtain ⟨i, c, v, _, h1, h2, h3⟩ := up b m
    exact ⟨i, c, v, h1, h2, h3⟩
  have x : Ex H H' := s'.ex ra
  -- another slot
  have oth : ∀ {k : Nat} {c : C} {v : V}, k ∉ slotsOf as → g[k]? = some (some c) → σ[k]? = some (some v) → RelC K H' v c ∧ ow H' v c = ow H v c := fun {k c v} nk e s => (r.at e s).ex x fun b m => by
    obtain ⟨o, eo, _⟩ := (r.at e s).there m
    rw [eo]
    refine s'.keep b o eo fun z => ?_
    obtain ⟨i, c', v', hi, h1, h2, h3⟩ := up b z
    have := r.sep i k b c' c v' v h1 h2 h3 e s m
    subst this
    exact nk hi
  have at' : ∀ {k : Nat} {c : C} {v : V}, (putBack as ns g)[k]? = some (some c) → σ[k]? = some (some v) → (∃ j : Nat, as[j]? = some (AV.s k) ∧ ns[j]? = some (some c) ∧ vs[j]? = some v) ∨ (k ∉ slotsOf as ∧ g[k]? = some (some c)) := fun {k c v} e s => by
    rcases putBack_at nd ll e with ⟨j, h1, h2⟩ | h
    · have hj : j < vs.length := by have := (List.getElem?_eq_some_iff.mp h1).1; omega
      cases k1 j _ _ (List.getElem?_eq_getElem hj) h1 with
      | s h => rw [s] at h; cases h; exact .inl ⟨j, h1, h2, List.getElem?_eq_getElem hj⟩
    · exact .inr h
  have val : ∀ {k : Nat} {c : C}, (putBack as ns g)[k]? = some (some c) → ∃ v, σ[k]? = some (some v) ∧ RelC K H' v c := fun {k c} e => by
    rcases putBack_at nd ll e with ⟨j, h1, h2⟩ | ⟨h1, h2⟩
    · have hj : j < vs.length := by have := (List.getElem?_eq_some_iff.mp h1).1; omega
      cases k1 j _ _ (List.getElem?_eq_getElem hj) h1 with
      | s h => exact ⟨_, h, r'.at h2 (at_map_some (List.getElem?_eq_getElem hj))⟩
    · obtain ⟨v, s, _⟩ := r.val k c h2
      exact ⟨v, s, (oth h1 h2 s).1⟩
  -- an argument's cell is not another slot's
  have apart : ∀ {k : Nat} {c c' : C} {v v' : V} {b : Addr} {j : Nat}, ns[j]? = some (some c) → vs[j]? = some v → b ∈ ow H' v c → k ∉ slotsOf as → g[k]? = some (some c') → σ[k]? = some (some v') → b ∈ ow H' v' c' → False := fun {k c c' v v' b j} e1 s1 m1 nk e2 s2 m2 => by
    rw [(oth nk e2 s2).2] at m2
    obtain ⟨o, eo, _⟩ := (r.at e2 s2).there m2
    rcases s'.mad b ⟨j, c, v, e1, at_map_some s1, m1⟩ with z | z
    · obtain ⟨i, c0, v0, hi, h1, h2, h3⟩ := up b z
      have := r.sep i k b c0 c' v0 v' h1 h2 h3 e2 s2 m2
      subst this
      exact nk hi
    · rw [z] at eo; cases eo
  refine ⟨⟨by rw [putBack_len]; exact r.len, fun k c e => val e, fun k k' b c c' v v' e1 t1 m1 e2 t2 m2 => ?_⟩, ⟨fun b o e n => s'.keep b o e fun z => n (upM b z), fun b ⟨k, c, v, e, s, m⟩ => ?_, fun _ _ => rfl, s'.dom⟩, fun b hb nm => ⟨hb.imp id (upM b), fun ⟨k, c, v, e, s, m⟩ => ?_⟩⟩
  · rcases at' e1 t1 with ⟨j, a1, n1, w1⟩ | ⟨h1, h2⟩
    · rcases at' e2 t2 with ⟨j', a2, n2, w2⟩ | ⟨h3, h4⟩
      · have z := r'.sep j j' b c c' v v' n1 (at_map_some w1) m1 n2 (at_map_some w2) m2
        subst z
        rw [a1] at a2; cases a2; rfl
      · exact (apart n1 w1 m1 h3 h4 t2 m2).elim
    · rcases at' e2 t2 with ⟨j', a2, n2, w2⟩ | ⟨h3, h4⟩
      · exact (apart n2 w2 m2 h1 h2 t1 m1).elim
      · rw [(oth h1 h2 t1).2] at m1
        rw [(oth h3 h4 t2).2] at m2
        exact r.sep k k' b c c' v v' h2 t1 m1 h4 t2 m2
  · rcases at' e s with ⟨j, a1, n1, w1⟩ | ⟨h1, h2⟩
    · rcases s'.mad b ⟨j, c, v, n1, at_map_some w1, m⟩ with z | z
      · exact .inl (upM b z)
      · exact .inr z
    · rw [(oth h1 h2 s).2] at m
      exact .inl ⟨k, c, v, h2, s, m⟩
  · rcases at' e s with ⟨j, a1, n1, w1⟩ | ⟨h1, h2⟩
    · exact nm ⟨j, c, v, n1, at_map_some w1, m⟩
    · rw [(oth h1 h2 s).2] at m
      obtain ⟨o, eo, _⟩ := (r.at h2 s).there m
      rcases hb with hb | hb
      · rw [hb] at eo; cases eo
      · obtain ⟨i, c', v', hi, g1, t1, m1⟩ := up b hb
        have := r.sep i k b c' c v' v g1 t1 m1 h2 s m
        subst this
        exact h1 hi
end
/-- what a call answers, in the caller's sight -/
abbrev rC (K : PySem.W.Frag) : St → Hp → Env → Hp → Env → V → C → Prop := fun σ H g H' g' v c => ResC K H σ g σ g' H' v c
section
variable {X : Cx} {fx : Nat → Bool} {W : WX} {pos p : Pos}
theorem call_core {F : FS} {n : Nat} {σ : St} {H : Hp} {g : Env} {vs : List V} {as : List AV} {Q : VK} {P : C → Env → Prop} (r : RelEnv X.K σ H g) (pv : Paired (AvOk X.K σ H) vs as) (nd : (slotsOf as).Nodup) (hn : as.length = n)
    (h : Run X.K X.mg fx W (callF F as g) σ g H P) (q : ∀ c g' v H', P c g' → RelEnv X.K σ H' g' → Step fx σ g H σ g' H' → ResC X.K H σ g σ g' H' v c → Q v H') : spF X.K X.mg n F vs H Q (WE W σ) := by
  unfold callF at h
  cases hr : resolve g as with
  | none => simp only [hr] at h; exact h.elim
  | some cs =>
    simp only [hr] at h
    obtain ⟨l, ra, _⟩ := args_env r pv hr nd
    obtain ⟨l1, _⟩ := avok_at pv
    refine ⟨by omega, cs, by omega, ra, ?_⟩
    cases hF : F cs with
    | ok c ns =>
      simp only [hF] at h ⊢
      intro v H' r' s' res
      obtain ⟨r2, s2, k⟩ := after_env (fx := fx) r pv hr nd r' s'
      refine q c _ v H' h r2 s2 ?_
      cases c with
      | pu d => exact res
      | ml ds =>
        obtain ⟨a, ws, e1, e2, e3, e4, e5⟩ := res
        exact ⟨a, ws, e1, e2, e3, (k a e4 e5).1, (k a e4 e5).2⟩
      | _ => exact res
    | exc c ns =>
      simp only [hF] at h ⊢
      intro Ca H' e r' s'
      obtain ⟨r2, s2, _⟩ := after_env (fx := fx) r pv hr nd r' s'
      exact h Ca H' e r2 s2
    | no => simp only [hF] at h; exact h.elim
theorem mc_call {a : Expr} {es : List Expr} {x : Str} {k : Nat} {e : Fe} {F : FS} {mr : M (List AV)} (tk : Takes X W) (hr : Room k X.A) (f : FnAt X k e F) (hx : x = e.name) (hg : Gl X x) (hok : okN x = true)
    (hs : isStar a = false) (hss : es.all (fun e => !isStar e) = true) (ha : PA X (a :: es) (tN X.K X.mg fx W mr)) (nd : ∀ g as g', mr g = .ok as g' → (slotsOf as).Nodup ∧ as.length = e.io.length) :
    PE X (.Call (.Name x p) (a :: es) [] pos) (tX X.K X.mg fx W (rC X.K) fun g => (mr g).bind fun as g1 => callF F as g1) := by
  obtain ⟨fa, fd, ps, j, h1, h2, h3, h4, h5, h6⟩ := f
  subst hx
  refine PE.wk (pe_callS (h3.mono h4) hr hg h1 h2 h5 (fun σ => passAt tk σ) ha (okN_1 hok) (star_ok hs) (stars_ok hss)) fun σ H Q ⟨g, r, h⟩ => ?_
  refine tX.seqE r h fun as g1 vs H1 em r1 s1 p1 h1 => ?_
  obtain ⟨n1, n2⟩ := nd g as g1 em
  refine call_core r1 p1 n1 n2 h1 fun c g2 v H2 q r2 s2 res => q v H2 r2 (s1.trans s2) ?_
  cases c with
  | pu d => exact res
  | ml ds =>
    obtain ⟨a, ws, e1, e2, e3, e4, e5⟩ := res
    exact ⟨a, ws, e1, e2, e3, e4.elim (fun z => .inl (s1.dom a z)) (fun z => (s1.mad a z).symm), e5⟩
  | _ => exact res
theorem mc_call0 {x : Str} {k : Nat} {e : Fe} {F : FS} (tk : Takes X W) (hr : Room k X.A) (f : FnAt X k e F) (hx : x = e.name) (hg : Gl X x) (hok : okN x = true) (nd : 0 = e.io.length) :
    PE X (.Call (.Name x p) [] [] pos) (tX X.K X.mg fx W (rC X.K) fun g => callF F [] g) := by
  obtain ⟨fa, fd, ps, j, h1, h2, h3, h4, h5, h6⟩ := f
  subst hx
  refine ⟨fun pins s σ H Q I ⟨g, r, h⟩ => ?_⟩
  refine wpAny_Call_Name_kw (ld_glob I hg h1 ?_ (okN_1 hok))
  refine PySem.W.callWith_K0 I.kIn h2 (run_fnS (us := []) (vs := []) (h3.mono h4) hr h5 (passAt tk σ) I .nil ?_)
  exact call_core r .nil List.nodup_nil nd h fun c g2 v H2 q r2 s2 res => q v H2 r2 s2 res
/-! ### keywords -/
theorem PK.wk {kws : List Keyword} {t t' : TA} (h : PK X kws t) (w : ∀ σ H Q, t' σ H Q → t σ H Q) : PK X kws t' := ⟨fun pos pins s σ H Q I q => h.run pos pins s σ H Q I (w σ H Q q)⟩
theorem mk_nil : PK X [] (tA X.K X.mg fx W fun g => .ok [] g) := PK.wk pk_nil fun σ H Q ⟨g, r, h⟩ => h [] H r Step.refl .nil
theorem mk_cons {a : Expr} {kws : List Keyword} {nm : Option Str} {kpos : Pos} {ma : M D} {mr : M (List D)} (ha : PE X a (tE X.K X.mg fx W ma)) (hr : PK X kws (tA X.K X.mg fx W mr)) :
    PK X (⟨nm, a, kpos⟩ :: kws) (tA X.K X.mg fx W fun g => (ma g).bind fun x g1 => (mr g1).bind fun xs g2 => .ok (x :: xs) g2) := by
  refine PK.wk (pk_cons ha hr) fun σ H Q ⟨g, r, h⟩ => ?_
  refine tX.seq r h fun x g1 v H1 r1 s1 p1 h1 => ?_
  refine tX.seq r1 h1 fun xs g2 vs H2 r2 s2 p2 h2 => ?_
  exact h2 (v :: vs) H2 r2 (s1.trans s2) (.cons (p1.ex (s2.ex r1)) p2)
theorem kw_names {pos : Pos} {env : PySem.Env} : ∀ {kws : List Keyword}, (backToKw pos (keywordEach kws env)).map (·.1) = kws.map (·.arg)
  | [] => rfl
  | ⟨nm, e, kp⟩ :: kws => by
    have ih := kw_names (pos := pos) (env := env) (kws := kws)
    show nm :: (backToKw pos (keywordEach kws env)).map (·.1) = nm :: kws.map (·.arg)
    rw [ih]
theorem perm_av {K : PySem.W.Frag} {σ : St} {H : Hp} {zs : List V} {ds : List D} (r : RpAll K H zs ds) : ∀ perm : List Nat, Paired (AvOk K σ H) (permN perm zs) ((permN perm ds).map AV.d)
  | [] => .nil
  | j :: perm => by
    have ih := perm_av (σ := σ) r perm
    unfold permN at ih ⊢
    rw [List.filterMap_cons, List.filterMap_cons]
    cases e : ds[j]? with
    | none =>
      have : zs[j]? = none := by rw [List.getElem?_eq_none_iff] at e ⊢; rw [r.len]; exact e
      rw [this]
      exact ih
    | some d =>
      obtain ⟨v, ev, rv⟩ := r.get e
      rw [ev]
      exact .cons (.d rv) ih
theorem slots_d : ∀ ds : List D, slotsOf (ds.map AV.d) = []
  | [] => rfl
  | d :: ds => slots_d ds
theorem mc_callK {kws : List Keyword} {x : Str} {k : Nat} {e : Fe} {F : FS} {q : List Str × List Nat} {mr : M (List D)} (tk : Takes X W) (hr : Room k X.A) (f : FnAt X k e F) (hx : x = e.name) (hg : Gl X x) (hok : okN x = true) (hq : q ∈ e.kws) (hn : kws.map (·.arg) = q.1.map some)
    (ha : PK X kws (tA X.K X.mg fx W mr)) : PE X (.Call (.Name x p) [] kws pos) (tX X.K X.mg fx W (rC X.K) fun g => (mr g).bind fun ds g1 => if ds.length = q.1.length ∧ (permN q.2 ds).length = q.2.length then callF F ((permN q.2 ds).map AV.d) g1 else .no) := by
  obtain ⟨fa, fd, ps, j, h1, h2, h3, h4, h5, h6, h7⟩ := f
  subst hx
  obtain ⟨kb, hl⟩ := h7 q hq
  have nm := (kw_names (pos := pos) (env := X.env) (kws := kws)).trans hn
  have hall : (backToKw pos (keywordEach kws X.env)).all (·.1.isSome) = true := by
    have : ((backToKw pos (keywordEach kws X.env)).map (·.1)).all (·.isSome) = true := by
      rw [nm, List.all_map]
      exact List.all_eq_true.mpr fun _ _ => rfl
    rw [List.all_map] at this
    exact this
  have hks : (backToKw pos (keywordEach kws X.env)).filterMap (·.1) = q.1 := by
    have : ((backToKw pos (keywordEach kws X.env)).map (·.1)).filterMap id = q.1 := by
      rw [nm, List.filterMap_map]
      exact List.filterMap_some
    rw [List.filterMap_map] at this
    exact this
  have hany : (backToKw pos (keywordEach kws X.env)).any (·.1.isNone) = false := by
    have : ((backToKw pos (keywordEach kws X.env)).map (·.1)).any (·.isNone) = false := by
      rw [nm, List.any_map]
      exact List.any_eq_false.mpr fun _ _ => by simp
    rw [List.any_map] at this
    exact this
  refine ⟨fun pins s σ H Q I ⟨g, r, h⟩ => ?_⟩
  refine wpAny_Call_Name_kw (ld_glob I hg h1 ?_ (okN_1 hok))
  refine PySem.W.callWith_KW0 (h₀ := X.base) I.ok.mod.kin h2 hall ?_ (by rw [hany]; rfl)
  refine thn (ha.run pos pins s σ H (fun zs H2 => zs.length = q.1.length ∧ spF X.K X.mg e.io.length F (permN q.2 zs) H2 Q (WE W σ)) I (tX.seq r h fun ds g1 zs H1 r1 s1 p1 h1 => ?_)) fun ws s2 ⟨zs, H2, I2, rz, l2, q2⟩ => ⟨I2.kIn, ?_⟩
  · obtain ⟨⟨z1, z2⟩, h1⟩ := h1.ifp
    refine ⟨by rw [p1.len]; exact z1, ?_⟩
    refine call_core r1 (perm_av p1 q.2) (by rw [slots_d]; exact List.nodup_nil) (by rw [List.length_map, z2, hl]) h1 fun c g2 v H2 qq r2 s2 res => qq v H2 r2 (s1.trans s2) ?_
    cases c with
    | pu d => exact res
    | ml ds =>
      obtain ⟨a, ws, e1, e2, e3, e4, e5⟩ := res
      exact ⟨a, ws, e1, e2, e3, e4.elim (fun z => .inl (s1.dom a z)) (fun z => (s1.mad a z).symm), e5⟩
    | _ => exact res
  · rw [hks]
    refine wpAny_call (codeAny_mono ((h3.mono h4).run X.A X.stack s2 H2 ⟨[], q.1.zip ws⟩ (permN q.2 ws) (permN q.2 zs) Q (WE W σ) hr I2.env0 (kb.to s2 [] ws I2.kIn rfl (rz.length.symm.trans l2)) (kb.rel .nil rz) q2) fun r s' hq => ?_)
    cases r with
    | error e => exact passAt tk σ _ _ _ e s' I2 hq
    | ok fl =>
      cases fl with
      | ret u => exact I2.after hq
      | next => exact False.elim hq
      | brk => exact False.elim hq
      | cont => exact False.elim hq
/-- its answer as a value -/
theorem me_ofC {e : Expr} {mc : M C} (he : PE X e (tX X.K X.mg fx W (rC X.K) mc)) : PE X e (tE X.K X.mg fx W fun g => (mc g).bind fun c g1 => lft (asD c) g1) := by
  refine PE.wk (pe_ghost he) fun σ H Q ⟨g, r, h⟩ => ?_
  refine tX.seq r h fun c g1 v H1 r1 s1 res h1 => ?_
  obtain ⟨d, e, q⟩ := h1.lft
  cases c with
  | pu d' => cases e; exact .inl (q v H1 r1 s1 res)
  | ml ds =>
    cases e
    obtain ⟨p, vs, rfl, hp, rr, hn, hm⟩ := res
    refine .inr ⟨p, vs, hp, fun o => ?_⟩
    obtain ⟨r2, s2, k⟩ := frz_step r1 s1 hp rr hn hm o
    exact q _ _ r2 s2 k
  | _ => cases e
/-- .. as a new list -/
theorem mf_ofC {e : Expr} {mc : M C} (he : PE X e (tX X.K X.mg fx W (rC X.K) mc)) : PE X e (tF X.K X.mg fx W fun g => (mc g).bind fun c g1 => lft (asL c) g1) := by
  refine PE.wk he fun σ H Q ⟨g, r, h⟩ => ?_
  refine tX.seq r h fun c g1 v H1 r1 s1 res h1 => ?_
  obtain ⟨d, e, q⟩ := h1.lft
  cases c with
  | ml ds => cases e; exact q v H1 r1 s1 res
  | _ => cases e

/-! ### built-in calls -/
theorem me_bi {f : Bi} {a : Expr} {es : List Expr} {mr : M (List D)} {id : String} (hid : CallR X (.builtin id) (rBi X.K f)) (hg : Gl X f.name) (hm : X.mg f.name = none) (hv : bootBuiltins f.name = some (.builtin id))
    (hs : isStar a = false) (hss : es.all (fun e => !isStar e) = true) (ha : PA X (a :: es) (tA X.K X.mg fx W mr)) (hn : f.name ≠ "__name__") (hd : (f.name == ("__debug__" : Str)) = false) :
    PE X (.Call (.Name f.name p) (a :: es) [] pos) (tE X.K X.mg fx W fun g => (mr g).bind fun ds g1 => lft (pBi f ds) g1) := by
  refine PE.wk (pe_callB hid hg hm hv ha hn hd (star_ok hs) (stars_ok hss)) fun σ H Q ⟨g, r, h⟩ => ?_
  refine tX.seq r h fun ds g1 vs H1 r1 s1 p1 h1 => ?_
  obtain ⟨d, e, q⟩ := h1.lft
  exact ⟨ds, d, p1.wp, e, fun v H2 gr rz => q v H2 (r1.ex gr).1 (s1.trans (r1.grow gr)) rz⟩
theorem me_biT {f : Bi} {a : Expr} {es : List Expr} {mr : M (List D)} {T : String} (hid : CallR X (.type T) (rBi X.K f)) (hg : Gl X f.name) (hm : X.mg f.name = none) (hv : bootBuiltins f.name = some (.type T))
    (hs : isStar a = false) (hss : es.all (fun e => !isStar e) = true) (ha : PA X (a :: es) (tA X.K X.mg fx W mr)) (hn : f.name ≠ "__name__") (hd : (f.name == ("__debug__" : Str)) = false) :
    PE X (.Call (.Name f.name p) (a :: es) [] pos) (tE X.K X.mg fx W fun g => (mr g).bind fun ds g1 => lft (pBi f ds) g1) := by
  refine PE.wk (pe_callTy hid hg hm hv ha hn hd (star_ok hs) (stars_ok hss)) fun σ H Q ⟨g, r, h⟩ => ?_
  refine tX.seq r h fun ds g1 vs H1 r1 s1 p1 h1 => ?_
  obtain ⟨d, e, q⟩ := h1.lft
  exact ⟨ds, d, p1.wp, e, fun v H2 gr rz => q v H2 (r1.ex gr).1 (s1.trans (r1.grow gr)) rz⟩
/-- the rule of each -/
theorem bi_B (hc : X.calm = true) (hu : X.A.units + 64 < cLine) : ∀ f : Bi, (∃ id, CallR X (.builtin id) (rBi X.K f) ∧ bootBuiltins f.name = some (.builtin id)) ∨ ∃ T, CallR X (.type T) (rBi X.K f) ∧ bootBuiltins f.name = some (.type T)
  | .len => .inl ⟨_, cr_len, by decide +kernel⟩
  | .all => .inl ⟨_, cr_allD hc, by decide +kernel⟩
  | .any => .inl ⟨_, cr_anyD hc, by decide +kernel⟩
  | .tuple => .inr ⟨_, cr_tupleD, by decide +kernel⟩
  | .sum => .inl ⟨_, cr_sumD hc, by decide +kernel⟩
  | .min => .inl ⟨_, cr_minD hc hu, by decide +kernel⟩
  | .max => .inl ⟨_, cr_maxD hc hu, by decide +kernel⟩
  | .min2 => .inl ⟨_, cr_min2D hc, by decide +kernel⟩
  | .max2 => .inl ⟨_, cr_max2D hc, by decide +kernel⟩
  | .int => .inr ⟨_, cr_intD, by decide +kernel⟩
  | .str => .inr ⟨_, cr_strD, by decide +kernel⟩
theorem bi_name : ∀ f : Bi, f.name ∈ bnames ∧ f.name ≠ "__name__" ∧ (f.name == ("__debug__" : Str)) = false := by
  intro f
  cases f <;> exact ⟨by decide +kernel, by decide +kernel, by decide +kernel⟩
/-- a built-in called with what a slot holds -/
theorem me_biS {f : Bi} {a : Expr} {i : Nat} (h1 : (∃ id, CallR X (.builtin id) (rBi X.K f) ∧ bootBuiltins f.name = some (.builtin id)) ∨ ∃ T, CallR X (.type T) (rBi X.K f) ∧ bootBuiltins f.name = some (.type T)) (hg : Gl X f.name) (hm : X.mg f.name = none)
    (hs : isStar a = false) (ha : PE X a (tVar i)) (hn : f.name ≠ "__name__") (hd : (f.name == ("__debug__" : Str)) = false) :
    PE X (.Call (.Name f.name p) [a] [] pos) (tE X.K X.mg fx W fun g => match g[i]? with
      | some (some (.ml ds)) => lft (pBi f [.list ds]) g
      | _ => .no) := by
  have key : ∀ σ H Q, tE X.K X.mg fx W (fun g => match g[i]? with
      | some (some (.ml ds)) => lft (pBi f [.list ds]) g
      | _ => .no) σ H Q → tCB (rBi X.K f) (tCons (tVar i) tNil) σ H Q := fun σ H Q ⟨g, r, h⟩ => by
    dsimp only at h
    split at h
    · rename_i ds e
      obtain ⟨v, hv, _⟩ := r.val i _ e
      obtain ⟨p', vs, rfl, hp, rr⟩ := slot_of r hv e
      obtain ⟨d, e2, q⟩ := h.lft
      exact ⟨_, hv, [.list ds], d, .cons (.inr ⟨p', vs, ds, rfl, rfl, hp, rr⟩) .nil, e2, fun z H3 gr rz => q z H3 (r.ex gr).1 (r.grow gr) rz⟩
    · exact h.elim
  rcases h1 with ⟨id, h1, h2⟩ | ⟨T, h1, h2⟩
  · exact PE.wk (pe_callB h1 hg hm h2 (pa_cons ha pa_nil (star_ok hs)) hn hd (star_ok hs) rfl) key
  · exact PE.wk (pe_callTy h1 hg hm h2 (pa_cons ha pa_nil (star_ok hs)) hn hd (star_ok hs) rfl) key
end
end PL
/-! PLi: more calls: isinstance, ranges, copies, methods -/
namespace PL
open PySem PySem.Spec PyProof.Rows L2

def tyName : D → String
  | .none => "NoneType" | .bool _ => "bool" | .int _ => "int" | .str _ => "str" | .list _ => "list" | .tuple _ => "tuple" | .dict _ => "dict"
theorem tyx_of {K : PySem.W.Frag} {H : Hp} {v : V} {d : D} (h : Rp K H v d) : TyX K H v (.type (tyName d)) := by
  cases h with
  | non => exact .base .non
  | bl b => exact .base (.bl b)
  | int i => exact .base (.int i)
  | str i => exact .base (.str i)
  | lst h r => exact .base (.frz h)
  | tup h r =>
    rcases h with ⟨o, h, _⟩ | ⟨o, its, n, h1, h2, _⟩
    · exact .fTuple h
    · exact .kTuple h1 h2
def isaTab (a : String) : Ty → Bool
  | .int => a == "int" || a == "bool"
  | .bool => a == "bool"
  | .str => a == "str"
  | .list => a == "list"
  | .tuple => a == "tuple"
  | .non => a == "NoneType"
theorem kit_tab : ∀ a ∈ ["NoneType", "bool", "int", "str", "list", "tuple"], ∀ t ∈ [Ty.int, .bool, .str, .list, .tuple, .non], kitB a t.name = some (isaTab a t) := by decide +kernel
theorem ty_mem (t : Ty) : t ∈ [Ty.int, .bool, .str, .list, .tuple, .non] := by cases t <;> decide
theorem kit_isa {K : PySem.W.Frag} {H : Hp} {v : V} {d : D} (h : Rp K H v d) (t : Ty) : PySem.W.kitOne K (.type (tyName d)) (.type t.name) = some (pIsa1 d t) := by
  refine kit_ty ?_
  have k : tyName d ∈ ["NoneType", "bool", "int", "str", "list", "tuple"] := by cases h <;> simp [tyName]
  rw [kit_tab _ k t (ty_mem t)]
  cases h <;> cases t <;> rfl
theorem kit_isaAll {K : PySem.W.Frag} {H : Hp} {v : V} {d : D} (h : Rp K H v d) : ∀ ts : List Ty, PySem.W.kitAny K (.type (tyName d)) (ts.map fun t => Value.type t.name) = some (pIsa d ts)
  | [] => rfl
  | t :: ts => by
    rw [List.map_cons]
    refine kitAny_cons (kit_isa h t) (fun e => ?_) (fun e => ?_)
    · rw [kit_isaAll h ts]
      unfold pIsa
      rw [List.any_cons, e, Bool.false_or]
    · unfold pIsa
      rw [List.any_cons, e, Bool.true_or]
theorem boot_ty : ∀ t : Ty, t ≠ .non → bootBuiltins t.name = some (.type t.name)
  | .int, _ => by decide +kernel
  | .bool, _ => by decide +kernel
  | .str, _ => by decide +kernel
  | .list, _ => by decide +kernel
  | .tuple, _ => by decide +kernel
  | .non, h => absurd rfl h
theorem ty_name : ∀ t : Ty, t ≠ .non → (PySem.Str.ofString t.name) ∈ bnames ∧ PySem.Str.ofString t.name ≠ "__name__" ∧ (PySem.Str.ofString t.name == ("__debug__" : Str)) = false := by
  intro t ht
  cases t <;> first | exact ⟨by decide +kernel, by decide +kernel, by decide +kernel⟩ | exact absurd rfl ht
theorem upd_none {H : Hp} {a b : Addr} {o : HO} (h : upd H a o b = none) : H b = none := by
  by_cases z : b = a
  · subst z; rw [upd_same] at h; cases h
  · rw [upd_ne z] at h; exact h
section
variable {X : Cx} {fx : Nat → Bool} {W : WX} {a b c : Expr} {ma mb mc : M D} {pos p p2 : Pos}
theorem pe_ty (t : Ty) (ht : t ≠ .non) (hg : Gl X (PySem.Str.ofString t.name)) (hb : ∀ x, x ∈ bnames → X.mg x = none) : PE X (.Name (PySem.Str.ofString t.name) p) (tC (.ty t.name)) :=
  pe_bltn hg (hb _ (ty_name t ht).1) (boot_ty t ht) rfl (ty_name t ht).2.1 (ty_name t ht).2.2
theorem me_isa1 {t : Ty} (ht : t ≠ .non) (hs : isStar a = false) (hg : Gl X "isinstance") (hgt : Gl X (PySem.Str.ofString t.name)) (hb : ∀ x, x ∈ bnames → X.mg x = none) (ha : PE X a (tE X.K X.mg fx W ma)) :
    PE X (.Call (.Name "isinstance" p) [a, .Name (PySem.Str.ofString t.name) p2] [] pos) (tE X.K X.mg fx W fun g => (ma g).bind fun x g1 => .ok (.bool (pIsa x [t])) g1) := by
  refine PE.wk (pe_callB call_isi hg (hb _ (by decide +kernel)) PyProof.Rows.boot_isinstance (pa_cons ha (pa_cons (pe_ty t ht hgt hb) pa_nil) (star_ok hs)) (by decide) (by decide) (star_ok hs)) fun σ H Q ⟨g, r, h⟩ => ?_
  refine tX.seq r h fun x g1 v H1 r1 s1 p1 h1 => ?_
  refine ⟨v, .ty t.name, _, _, _, rfl, .ty _, tyx_of p1, kit_isa p1 t, ?_⟩
  have e : pIsa x [t] = pIsa1 x t := by unfold pIsa; simp
  rw [← e]
  exact h1 _ H1 r1 s1 (.bl _)
/-- the names of classes, as a tuple -/
def tyEs : List Ty → List Pos → List Expr
  | t :: ts, q :: qs => .Name (PySem.Str.ofString t.name) q :: tyEs ts qs
  | _, _ => []
theorem pa_tys (hb : ∀ x, x ∈ bnames → X.mg x = none) : ∀ (ts : List Ty) (es : List Expr), (∀ t ∈ ts, t ≠ .non ∧ Gl X (PySem.Str.ofString t.name)) → Paired (fun (t : Ty) (e : Expr) => ∃ q, e = .Name (PySem.Str.ofString t.name) q) ts es →
    PA X es (fun _ H Q => Q (ts.map fun t => V.ty t.name) H)
  | [], _, _, .nil => pa_nil
  | t :: ts, _ :: es, h, .cons ⟨q, e⟩ r => by
    subst e
    obtain ⟨h1, h2⟩ := h t List.mem_cons_self
    exact pa_cons (pe_ty t h1 h2 hb) (pa_tys hb ts es (fun t m => h t (List.mem_cons_of_mem _ m)) r)
theorem clsv_all : ∀ ts : List Ty, Paired ClsV (ts.map fun t => V.ty t.name) (ts.map fun t => Value.type t.name)
  | [] => .nil
  | t :: ts => .cons (.ty _) (clsv_all ts)
theorem me_isaT {ts : List Ty} {es : List Expr} {k : Nat} (hl : ts.length ≤ 100) (ht : ∀ t ∈ ts, t ≠ .non ∧ Gl X (PySem.Str.ofString t.name)) (he : Paired (fun (t : Ty) (e : Expr) => ∃ q, e = .Name (PySem.Str.ofString t.name) q) ts es) (hs : isStar a = false) (hg : Gl X "isinstance") (hb : ∀ x, x ∈ bnames → X.mg x = none) (ha : PE X a (tE X.K X.mg fx W ma)) :
    PE X (.Call (.Name "isinstance" p) [a, .Tuple es k p2] [] pos) (tE X.K X.mg fx W fun g => (ma g).bind fun x g1 => .ok (.bool (pIsa x ts)) g1) := by
  refine PE.wk (pe_callB call_isiT hg (hb _ (by decide +kernel)) PyProof.Rows.boot_isinstance (pa_cons ha (pa_cons (pe_tup (pa_tys hb ts es ht he)) pa_nil) (star_ok hs)) (by decide) (by decide) (star_ok hs)) fun σ H Q ⟨g, r, h⟩ => ?_
  refine tX.seq r h fun x g1 v H1 r1 s1 p1 h1 => ?_
  refine ⟨by rw [List.length_map, sizeLine_eq]; omega, fun tp n => ?_⟩
  have gr : Grow H1 (upd H1 tp (.tup (ts.map fun t => V.ty t.name))) := Grow.new n
  exact ⟨v, tp, _, _, _, _, rfl, upd_same, clsv_all ts, tyx_of (p1.ex gr.ex), kit_isaAll p1 ts, h1 _ _ (r1.ex gr).1 (s1.trans (r1.grow gr)) (.bl _)⟩

/-! ### ranges as lists and tuples -/
theorem rgV_rp {K : PySem.W.Frag} {H : Hp} (lo hi : Int) : RpAll K H (rgV lo hi) (rngL lo hi) := by
  unfold rgV rngL
  induction List.range (hi - lo).toNat with
  | nil => exact .nil
  | cons i r ih => exact .cons (.int _) ih
theorem rngL_len (lo hi : Int) : (rngL lo hi).length = (hi - lo).toNat := by unfold rngL; rw [List.length_map, List.length_range]
theorem rng_ok {lo hi : Int} (h1 : rngOk lo = true) (h2 : rngOk hi = true) (z : (rngL lo hi).length ≤ sizeLine) : RgOk lo hi := by
  unfold rngOk at h1 h2
  simp only [decide_eq_true_eq] at h1 h2
  rw [rngL_len, sizeLine_eq] at z
  exact ⟨h1.1, h1.2, h2.1, h2.2, by omega⟩
/-- an expression that makes a range -/
def tR (K : PySem.W.Frag) (mg : Str → Option Value) (fx : Nat → Bool) (W : WX) (m : M (Int × Int)) : St → Hp → (Int → Int → Hp → Prop) → Prop := fun σ H Q =>
  ∃ g, RelEnv K σ H g ∧ Run K mg fx W (m g) σ g H fun a g' => ∀ H', RelEnv K σ H' g' → Step fx σ g H σ g' H' → Q a.1 a.2 H'
theorem PRg.wk {e : Expr} {t t' : St → Hp → (Int → Int → Hp → Prop) → Prop} (h : PRg X e t) (w : ∀ σ H Q, t' σ H Q → t σ H Q) : PRg X e t' := fun pins s σ H Q I q => h pins s σ H Q I (w σ H Q q)
theorem mr_1 (hs : isStar a = false) (hg : Gl X "range") (hb : ∀ x, x ∈ bnames → X.mg x = none) (ha : PE X a (tE X.K X.mg fx W ma)) :
    PRg X (.Call (.Name "range" p) [a] [] pos) (tR X.K X.mg fx W fun g => (ma g).bind fun x g1 => (lft (isIn x) g1).bind fun i g2 => .ok (0, i) g2) := by
  refine PRg.wk (prg_1 hg (hb _ (by decide +kernel)) ha (star_ok hs)) fun σ H Q ⟨g, r, h⟩ => ?_
  refine tX.seq r h fun x g1 v H1 r1 s1 p1 h1 => ?_
  obtain ⟨i, e, q⟩ := h1.bind.lft
  cases x with
  | int k => cases e; exact ⟨i, rp_int p1, q H1 r1 Step.refl H1 r1 s1⟩
  | _ => cases e
theorem mr_2 (hs : isStar a = false) (hs2 : isStar b = false) (hg : Gl X "range") (hb' : ∀ x, x ∈ bnames → X.mg x = none) (ha : PE X a (tE X.K X.mg fx W ma)) (hb : PE X b (tE X.K X.mg fx W mb)) :
    PRg X (.Call (.Name "range" p) [a, b] [] pos) (tR X.K X.mg fx W fun g => (ma g).bind fun x g1 => (mb g1).bind fun y g2 => (lft (isIn x) g2).bind fun i g3 => (lft (isIn y) g3).bind fun j g4 => .ok (i, j) g4) := by
  refine PRg.wk (prg_2 hg (hb' _ (by decide +kernel)) ha hb (star_ok hs) (star_ok hs2) (stars_ok (by rw [List.all_cons, hs2]; rfl))) fun σ H Q ⟨g, r, h⟩ => ?_
  refine tX.seq r h fun x g1 v H1 r1 s1 p1 h1 => ?_
  refine tX.seq r1 h1 fun y g2 w H2 r2 s2 p2 h2 => ?_
  obtain ⟨i, e, q⟩ := h2.bind.lft
  obtain ⟨j, e', q'⟩ := (q H2 r2 Step.refl).bind.lft
  cases x with
  | int k =>
    cases y with
    | int l =>
      cases e; cases e'
      exact ⟨i, j, rp_int p1, rp_int p2, q' H2 r2 Step.refl H2 r2 (s1.trans s2)⟩
    | _ => cases e'
  | _ => cases e
theorem mf_lrng {mr : M (Int × Int)} (hs : isStar a = false) (hc : X.calm = true) (hg : Gl X "list") (hb : ∀ x, x ∈ bnames → X.mg x = none) (ha : PRg X a (tR X.K X.mg fx W mr)) :
    PE X (.Call (.Name "list" p) [a] [] pos) (tF X.K X.mg fx W fun g => (mr g).bind fun ij g1 => if rngOk ij.1 && rngOk ij.2 then (if (rngL ij.1 ij.2).length ≤ sizeLine then .ok (rngL ij.1 ij.2) g1 else .no) else .no) := by
  refine PE.wk (pe_listRg hc hg (hb _ (by decide +kernel)) ha (star_ok hs)) fun σ H Q ⟨g, r, h⟩ => ?_
  refine ⟨g, r, h.bind.mono fun ij g1 z H1 r1 s1 => ?_⟩
  obtain ⟨e1, h1⟩ := (z H1 r1 s1).ite
  obtain ⟨e2, h2⟩ := h1.ifp
  rw [Bool.and_eq_true] at e1
  refine ⟨rng_ok e1.1 e1.2 e2, fun q n => ?_⟩
  obtain ⟨r2, s2, f⟩ := newF r1 s1 n (rgV_rp ij.1 ij.2)
  exact h2 _ _ r2 s2 f
theorem me_trng {mr : M (Int × Int)} (hs : isStar a = false) (hc : X.calm = true) (hg : Gl X "tuple") (hb : ∀ x, x ∈ bnames → X.mg x = none) (ha : PRg X a (tR X.K X.mg fx W mr)) :
    PE X (.Call (.Name "tuple" p) [a] [] pos) (tE X.K X.mg fx W fun g => (mr g).bind fun ij g1 => if rngOk ij.1 && rngOk ij.2 then (if (rngL ij.1 ij.2).length ≤ sizeLine then .ok (.tuple (rngL ij.1 ij.2)) g1 else .no) else .no) := by
  refine ⟨fun pins s σ H Q I ⟨g, r, h⟩ => ?_⟩
  refine Call_ (ld_blt I hg (hb _ (by decide +kernel)) boot_tuple (PyProof.Rows.callWith_type1 (args_cons (thn (ha pins s σ H (fun i j H1 => RgOk i j ∧ Val X.K H1 (.tuple (rngL i j)) Q) I ⟨g, r, h.bind.mono fun ij g1 z H1 r1 s1 => ?_⟩) fun x s1 ⟨rr, i, j, t, u, v, H1, ex, hr, I1, ok, q⟩ => args_nil ?_) (star_ok hs)) (star_ok hs)))
  · obtain ⟨e1, h1⟩ := (z H1 r1 s1).ite
    obtain ⟨e2, h2⟩ := h1.ifp
    rw [Bool.and_eq_true] at e1
    exact ⟨rng_ok e1.1 e1.2 e2, fun w H2 gr rz => h2 w H2 (r1.ex gr).1 (s1.trans (r1.grow gr)) rz⟩
  · subst ex
    obtain ⟨b1, b2, b3, b4, b5⟩ := ok
    refine call_tuple_range (n := (j - i).toNat) (I1.ok.hd hc) hr (small_one b1 b2 b3 b4) (rangeSize_nat i j) b5 fun h' tk acc hk hi => ?_
    have ve := vals_rg hi
    have e : acc = acc.toList.toArray := by simp
    rw [e]
    exact ep_tupD (s := { s1 with heap := h' }) (tk := tk) (I1.kept (t' := s1.toks) hk) ve (by rw [rgV_length, sizeLine_eq]; omega) (rgV_rp i j) q

/-! ### copies, joined lists, times -/
theorem mf_copy (hs : isStar a = false) (hg : Gl X "list") (hb : ∀ x, x ∈ bnames → X.mg x = none) (ha : PE X a (tE X.K X.mg fx W ma)) :
    PE X (.Call (.Name "list" p) [a] [] pos) (tF X.K X.mg fx W fun g => (ma g).bind fun x g1 => lft (pItems x) g1) := by
  refine PE.wk (pe_callTy call_list_of hg (hb _ (by decide +kernel)) boot_list (pa_cons ha pa_nil (star_ok hs)) (by decide) (by decide) (star_ok hs) rfl) fun σ H Q ⟨g, r, h⟩ => ?_
  refine tX.seq r h fun x g1 v H1 r1 s1 p1 h1 => ?_
  obtain ⟨ds, e, q⟩ := h1.lft
  obtain ⟨q', vs, rfl, hh, rr⟩ := Wp.items (.inl p1) e
  refine ⟨q', vs, rfl, hh.elim (fun z => .inl (.inl z.1)) (fun z => .inr z.1.sq), fun l n => ?_⟩
  obtain ⟨r2, s2, f⟩ := newF r1 s1 n rr
  exact q _ _ r2 s2 f
theorem mf_copyS {i : Nat} (hs : isStar a = false) (hg : Gl X "list") (hb : ∀ x, x ∈ bnames → X.mg x = none) (ha : PE X a (tVar i)) :
    PE X (.Call (.Name "list" p) [a] [] pos) (tF X.K X.mg fx W fun g => match g[i]? with
      | some (some (.ml ds)) => .ok ds g
      | _ => .no) := by
  refine PE.wk (pe_callTy call_list_of hg (hb _ (by decide +kernel)) boot_list (pa_cons ha pa_nil (star_ok hs)) (by decide) (by decide) (star_ok hs) rfl) fun σ H Q ⟨g, r, h⟩ => ?_
  dsimp only at h
  split at h
  · rename_i ds e
    obtain ⟨v, hv, _⟩ := r.val i _ e
    obtain ⟨p', vs, rfl, hp, rr⟩ := slot_of r hv e
    refine ⟨_, hv, p', vs, rfl, .inl (SqL.of hp), fun l n => ?_⟩
    obtain ⟨r2, s2, f⟩ := newF r Step.refl n rr
    exact h _ _ r2 s2 f
  · exact h.elim
theorem mf_rep {mf : M (List D)} (ha : PE X a (tF X.K X.mg fx W mf)) (hb : PE X b (tE X.K X.mg fx W mb)) :
    PE X (.BinOp a .Mult b pos) (tF X.K X.mg fx W fun g => (mf g).bind fun xs g1 => (mb g1).bind fun y g2 => (lft (isIn y) g2).bind fun k g3 =>
      if decide (-(2 ^ 62) ≤ k ∧ k < 2 ^ 62 ∧ xs.length * k.toNat ≤ sizeLine) then .ok (List.replicate k.toNat xs).flatten g3 else .no) := by
  refine PE.wk (pe_op op_rep ha hb) fun σ H Q ⟨g, r, h⟩ => ?_
  refine tX.seq r h fun xs g1 v H1 r1 s1 ⟨p', vs, ev, hp, rr, hn, hm⟩ h1 => ?_
  subst ev
  refine tX.seq r1 h1 fun y g2 w H2 r2 s2 p2 h2 => ?_
  obtain ⟨k, e, q⟩ := h2.bind.lft
  obtain ⟨z, q⟩ := (q H2 r2 Step.refl).ite
  rw [decide_eq_true_eq] at z
  cases y with
  | int k' =>
    cases e
    have hp2 := s2.keep p' _ hp hm
    refine ⟨p', k, vs, rfl, rp_int p2, hp2, by omega, by omega, by rw [rr.len]; exact z.2.2, fun l n => ?_⟩
    obtain ⟨r3, s3, f⟩ := newF r2 (s1.trans s2) n (rpa_flat (rr.ex (s2.ex r1)) k.toNat)
    exact q _ _ r3 s3 f
  | _ => cases e
theorem mf_cat (ha : PE X a (tE X.K X.mg fx W ma)) (hb : PE X b (tE X.K X.mg fx W mb)) :
    PE X (.BinOp a .Add b pos) (tF X.K X.mg fx W fun g => (ma g).bind fun x g1 => (mb g1).bind fun y g2 => match x, y with
      | .list xs, .list ys => if xs.length + ys.length ≤ sizeLine then .ok (xs ++ ys) g2 else .no
      | _, _ => .no) := by
  refine PE.wk (pe_op op_catR ha hb) fun σ H Q ⟨g, r, h⟩ => ?_
  refine tX.seq r h fun x g1 v H1 r1 s1 p1 h1 => ?_
  refine tX.seq r1 h1 fun y g2 w H2 r2 s2 p2 h2 => ?_
  split at h2
  · obtain ⟨z, q⟩ := h2.ifp
    obtain ⟨l1, o1, v1, rfl, e1, q1⟩ := rp_lst (p1.ex (s2.ex r1))
    obtain ⟨l2, o2, v2, rfl, e2, q2⟩ := rp_lst p2
    refine ⟨l1, l2, v1, v2, rfl, rfl, .inr ⟨o1, e1⟩, .inr ⟨o2, e2⟩, by rw [q1.len, q2.len]; exact z, fun l n => ?_⟩
    obtain ⟨r3, s3, f⟩ := newF r2 (s1.trans s2) n (q1.append q2)
    exact q _ _ r3 s3 f
  · exact h2.elim
theorem mf_sorted (hu : X.A.units + 64 < cLine) (hs : isStar a = false) (hg : Gl X "sorted") (hb : ∀ x, x ∈ bnames → X.mg x = none) (ha : PE X a (tE X.K X.mg fx W ma)) :
    PE X (.Call (.Name "sorted" p) [a] [] pos) (tF X.K X.mg fx W fun g => (ma g).bind fun x g1 => (lft (isLst x) g1).bind fun xs g2 => lft (pSorted xs) g2) := by
  refine PE.wk (pe_callB (cr_sortD hu) hg (hb _ (by decide +kernel)) PyProof.Rows.boot_sorted (pa_cons ha pa_nil (star_ok hs)) (by decide) (by decide) (star_ok hs) rfl) fun σ H Q ⟨g, r, h⟩ => ?_
  refine tX.seq r h fun x g1 v H1 r1 s1 p1 h1 => ?_
  obtain ⟨xs, e, q⟩ := h1.bind.lft
  obtain ⟨ys, e', q'⟩ := (q H1 r1 Step.refl).lft
  cases x with
  | list zs =>
    cases e
    refine ⟨v, xs, ys, rfl, .inl p1, e', fun l ws n rr => ?_⟩
    obtain ⟨r3, s3, f⟩ := newF r1 s1 n rr
    exact q' _ _ r3 s3 f
  | _ => cases e

/-! ### methods of what a slot holds -/
theorem few_ok {e : Expr} {es : List Expr} {env : PySem.Env} (h : (e :: es).all (fun e => !isStar e) = true) (hl : (e :: es).length < 29) :
    ((backTo pos (starEach (e :: es) env)).all (fun x => !x.1) && (backToKw pos (keywordEach [] env)).all (fun x => x.1.isSome) && decide ((e :: es).length + ([] : List Keyword).length + (if ([] : List Keyword).isEmpty then 0 else 1) < 30)) = true := by
  rw [stars_all h]
  have k : (backToKw pos (keywordEach [] env)).all (fun x => x.1.isSome) = true := rfl
  rw [k, Bool.true_and, Bool.true_and, decide_eq_true_eq]
  show (e :: es).length + 0 + 0 < 30
  omega
/-- xs.pop(i) -/
theorem me_pop {i : Nat} {apos : Pos} (hs : isStar b = false) (h0 : isCall0 a = false) (hl : (apos.endLine == pos.line) = true) (ha : PE X a (tVar i)) (hb : PE X b (tE X.K X.mg fx W mb)) :
    PE X (.Call (.Attribute a "pop" apos) [b] [] pos) (tE X.K X.mg fx W fun g => boundM i g <| (mb g).bind fun y g1 => (lft (isIn y) g1).bind fun k g2 => match g2[i]? with
      | some (some (.ml ds)) => if 0 ≤ k ∧ k < 2 ^ 62 then (match ds[k.toNat]? with
        | some d => .ok d (g2.set i (some (.ml (ds.eraseIdx k.toNat))))
        | none => .no) else .no
      | _ => .no) := by
  have hss : [b].all (fun e => !isStar e) = true := by rw [List.all_cons, hs]; rfl
  refine PE.wk (pe_bm PySem.F.plainAttrs_list PySem.F.slot_list_pop PySem.F.type_list_pop mt_popAt ha (pa_cons hb pa_nil (star_ok hs)) (attr_ok h0) (few_ok hss (by show 1 < 29; decide)) hl (star_ok hs) rfl) fun σ H Q ⟨g, r, h⟩ => ?_
  obtain ⟨⟨l, vs0, hv, h00⟩, h⟩ := h.boundM r
  refine ⟨.ref l, hv, .inl ⟨rfl, vs0, SqL.of h00⟩, tX.seq r h fun y g1 w H1 r1 s1 p1 h1 => ?_⟩
  obtain ⟨k, e, q⟩ := h1.bind.lft
  have q := q H1 r1 Step.refl
  split at q
  · rename_i ds eg
    obtain ⟨z, q⟩ := q.ifp
    split at q
    · rename_i d ed
      obtain ⟨l', vs, el, hp, rr⟩ := slot_of r1 hv eg
      cases el
      obtain ⟨v, ev, rv⟩ := rr.get ed
      cases y with
      | int k' =>
        cases e
        have hk : k.toNat < vs.length := (List.getElem?_eq_some_iff.mp ev).1
        have hix : ixN vs.length k = some k.toNat := by
          unfold ixN
          rw [if_pos z.1, if_pos (by omega)]
        refine ⟨l, vs, k, k.toNat, v, rfl, by rw [rp_int p1], hp, by omega, by omega, (ixN_seq hix).1, ev, ?_⟩
        have x : Ex H1 (upd H1 l (.lst (vs.eraseIdx k.toNat))) := Ex.put hp rfl
        obtain ⟨r2, s2⟩ := r1.chg (H' := upd H1 l (.lst (vs.eraseIdx k.toNat))) (c' := .ml (ds.eraseIdx k.toNat)) eg hv (fun b u eb nb => by rw [upd_ne (fun z => nb (by subst z; simp [ow, vRef]))]; exact eb) ⟨l, _, rfl, upd_same, (rr.erase _).ex x⟩ (fun b hb => .inl hb) (fun b hb => upd_none hb)
        exact q v _ r2 (s1.trans (s2 fx)) (rv.ex x)
      | _ => cases e
    · exact q.elim
  · exact q.elim
/-- xs.pop() -/
theorem me_popL {i : Nat} {apos : Pos} (h0 : isCall0 a = false) (hl : (apos.endLine == pos.line) = true) (ha : PE X a (tVar i)) :
    PE X (.Call (.Attribute a "pop" apos) [] [] pos) (tE X.K X.mg fx W fun g => match g[i]? with
      | some (some (.ml ds)) => (match ds[ds.length - 1]? with
        | some d => .ok d (g.set i (some (.ml ds.dropLast)))
        | none => .no)
      | _ => .no) := by
  refine PE.wk (pe_bm0 PySem.F.plainAttrs_list PySem.F.slot_list_pop PySem.F.type_list_pop mt_pop ha (attr_ok h0) hl) fun σ H Q ⟨g, r, q⟩ => ?_
  dsimp only at q
  split at q
  · rename_i ds eg
    split at q
    · rename_i d ed
      obtain ⟨v0, hv, _⟩ := r.val i _ eg
      obtain ⟨l, vs, rfl, hp, rr⟩ := slot_of r hv eg
      obtain ⟨v, ev, rv⟩ := rr.get ed
      refine ⟨.ref l, hv, .inl ⟨rfl, vs, SqL.of hp⟩, l, vs, v, rfl, rfl, hp, by rw [rr.len]; exact ev, ?_⟩
      have x : Ex H (upd H l (.lst vs.dropLast)) := Ex.put hp rfl
      have rd : RpAll X.K H vs.dropLast ds.dropLast := by rw [List.dropLast_eq_take, List.dropLast_eq_take, rr.len]; exact rr.take _
      obtain ⟨r2, s2⟩ := r.chg (H' := upd H l (.lst vs.dropLast)) (c' := .ml ds.dropLast) eg hv (fun b u eb nb => by rw [upd_ne (fun z => nb (by subst z; simp [ow, vRef]))]; exact eb) ⟨l, _, rfl, upd_same, rd.ex x⟩ (fun b hb => .inl hb) (fun b hb => upd_none hb)
      exact q v _ r2 (s2 fx) (rv.ex x)
    · exact q.elim
  · exact q.elim


/-! ### a list that nobody writes -/
theorem slx_of {K : PySem.W.Frag} {σ : St} {H : Hp} {g : Env} {i : Nat} {v : V} {ds : List D} (r : RelEnv K σ H g) (s : σ[i]? = some (some v)) (e : g[i]? = some (some (.sl ds))) : ∃ a vs, v = .ref a ∧ SlX K H a vs ∧ RpAll K H vs ds := r.at e s
theorem me_lenX {i : Nat} (hs : isStar a = false) (hg : Gl X "len") (hb : ∀ x, x ∈ bnames → X.mg x = none) (ha : PE X a (tVar i)) :
    PE X (.Call (.Name "len" p) [a] [] pos) (tE X.K X.mg fx W fun g => match g[i]? with
      | some (some (.sl ds)) => .ok (.int ds.length) g
      | _ => .no) := by
  refine PE.wk (pe_callB call_len hg (hb _ (by decide +kernel)) boot_len (pa_cons ha pa_nil (star_ok hs)) (by decide) (by decide) (star_ok hs) rfl) fun σ H Q ⟨g, r, h⟩ => ?_
  dsimp only at h
  split at h
  · rename_i ds e
    obtain ⟨v, hv, _⟩ := r.val i _ e
    obtain ⟨p', vs, rfl, hp, rr⟩ := slx_of r hv e
    refine ⟨_, hv, _, ds.length, rfl, .inl ⟨vs, hp.sq, by rw [rr.len]⟩, h _ H r Step.refl (.int _)⟩
  · exact h.elim
theorem me_atX {i : Nat} (hs : isSlice b = false) (ha : PE X a (tVar i)) (hb : PE X b (tE X.K X.mg fx W mb)) :
    PE X (.Subscript a b pos) (tE X.K X.mg fx W fun g => bound i g <| (mb g).bind fun y g1 => match g1[i]? with
      | some (some (.sl ds)) => lft (pIdx (.list ds) y) g1
      | _ => .no) := by
  refine PE.wk (pe_ix ix_list ha hb (plainIx hs)) fun σ H Q ⟨g, r, h⟩ => ?_
  obtain ⟨⟨v, hv⟩, h⟩ := h.bound r
  refine ⟨v, hv, tX.seq r h fun y g1 w H1 r1 s1 p1 h1 => ?_⟩
  split at h1
  · rename_i ds e
    obtain ⟨d, e2, q⟩ := h1.lft
    obtain ⟨p, vs, rfl, hp, rr⟩ := slx_of r1 hv e
    cases y with
    | int k =>
      cases rp_int p1
      obtain ⟨w, e1, e3⟩ := atI_rp rr.dp (fun _ _ z => rr.get z) (show atI ds k = some d from e2)
      exact ⟨p, vs, k, w, rfl, rfl, hp.sq, e1, q _ H1 r1 s1 e3⟩
    | _ => cases e2
  · exact h1.elim
theorem mf_cutX {i : Nat} {lo hi : Option Expr} {ml mh : M (Option Int)} {p2 : Pos} (ha : PE X a (tVar i)) (hl : PO X lo (tO X.K X.mg fx W ml)) (hh : PO X hi (tO X.K X.mg fx W mh)) :
    PE X (.Subscript a (.Slice lo hi none p2) pos) (tF X.K X.mg fx W fun g => bound i g <| (ml g).bind fun l g2 => (mh g2).bind fun h g3 => match g3[i]? with
      | some (some (.sl ds)) => .ok (cutD ds l h) g3
      | _ => .no) := by
  refine PE.wk (pe_slice sl_list ha hl hh) fun σ H Q ⟨g, r, h⟩ => ?_
  obtain ⟨⟨v, hv⟩, h⟩ := h.bound r
  refine ⟨v, hv, tX.seq r h fun l g2 l' H2 r2 s2 p2 h2 => ?_⟩
  subst p2
  refine tX.seq r2 h2 fun u g3 u' H3 r3 s3 p3 h3 => ?_
  subst p3
  split at h3
  · rename_i ds e
    obtain ⟨p, vs, rfl, hp, rr⟩ := slx_of r3 hv e
    refine ⟨p, vs, rfl, hp.sq, fun p' n => ?_⟩
    obtain ⟨r4, s4, f⟩ := newF r3 (s2.trans s3) n (cut_rp rr l' u')
    exact h3 _ _ r4 s4 f
  · exact h3.elim
end
end PL
/-! PLj: what a loop walks -/
namespace PL
open PySem PySem.Spec PyProof.Rows L2

/-- an item as it is handed to the target: a value; or a new pair -/
def Itm (K : PySem.W.Frag) (H : Hp) : Bool → V → D → Prop
  | false, v, d => Rp K H v d
  | true, v, d => ∃ T vs ds, v = .ref T ∧ d = .tuple ds ∧ H T = some (.tup vs) ∧ RpAll K H vs ds
/-- a walk over values -/
structure Wlk (K : PySem.W.Frag) (pr : Bool) (J : L2.It) (P : Hp → Prop) (ds : List D) : Prop where
  keep : ∀ H H', Ex H H' → P H → P H'
  go : ∀ (i : Nat) H d, P H → ds[i]? = some d → J.go i H
  yld : ∀ (i : Nat) H d x H', P H → ds[i]? = some d → J.yld i H x H' → Grow H H' ∧ Itm K H' pr x d
  stop : ∀ (i : Nat) H, P H → i = ds.length → J.stop i H
/-- what stands for a source -/
def tI (K : PySem.W.Frag) (mg : Str → Option Value) (fx : Nat → Bool) (W : WX) (pr : Bool) (m : M (List D)) : TI := fun σ H R =>
  ∃ g, RelEnv K σ H g ∧ Run K mg fx W (m g) σ g H fun ds g' => ∀ J H' P, RelEnv K σ H' g' → Step fx σ g H σ g' H' → P H' → Wlk K pr J P ds → R J H'
theorem PI.wk {X : Cx} {tg e : Expr} {t t' : TI} (h : PI X tg e t) (w : ∀ σ H Q, t' σ H Q → t σ H Q) : PI X tg e t' := ⟨fun pins s σ H Q I q => h.run pins s σ H Q I (w σ H Q q)⟩

/-! ### sources: a list or a tuple that stays -/
inductive Src where
  | l (a : Addr)
  | t (a : Addr)
def Src.ad : Src → Addr
  | .l a => a
  | .t a => a
/-- it holds vs -/
def Src.has (K : PySem.W.Frag) (H : Hp) (vs : List V) : Src → Prop
  | .l a => SqL K H a vs
  | .t a => SqT K H a vs
def Src.itr (h : Heap) (it : Addr) (i : Nat) : Src → Prop
  | .l a => h.IsListIter it a i
  | .t a => h.IsTupleIter it a i
def Src.at (h : Heap) (its : Array Value) : Src → Prop
  | .l a => h.IsList a its
  | .t a => h.IsTuple a its
def Src.o0 : Src → Obj
  | .l a => { cls := .type "list_iterator", data := .fields #[.ref a, .int 0 0] }
  | .t a => { cls := .type "tuple_iterator", data := .fields #[.ref a, .int 0 0] }
theorem Src.begins (S : Src) (its : Array Value) : Begins (.ref S.ad) S.o0 fun h => S.at h its := by
  cases S with
  | l a => exact begins_list a its
  | t a => exact begins_tuple a its
theorem Src.draws {prog : Program} {w : World} {A : Around} (hh : A.handled = none) (S : Src) (it : Addr) (hne : S.ad ≠ it) (its : Array Value) :
    Draws prog w A it [it, S.ad] its.size (fun i v => its[i]? = some v) (fun i h => S.itr h it i ∧ S.at h its) := by
  cases S with
  | l a => exact .list hh it a hne its
  | t a => exact .tuple hh it a hne its
theorem Src.at_of {X : Cx} {pins : List (Addr × Obj)} {σ : St} {H : Hp} {s : Shared} (I : Inv X pins σ H s) {S : Src} {vs : List V} (h : S.has X.K H vs) : ∃ its : List Value, Vals vs its ∧ S.at s.heap its.toArray ∧ ∃ o, s.heap.get? S.ad = some o := by
  cases S with
  | l a =>
    obtain ⟨its, rv, p, _⟩ := I.list h
    obtain ⟨o, ho, _⟩ := id p.isList
    exact ⟨its, rv, p.isList, o, ho⟩
  | t a =>
    obtain ⟨its, rv, p, _⟩ := I.tuple h
    obtain ⟨o, ho, r⟩ := id p
    exact ⟨its, rv, ⟨o, ho, r⟩, o, ho⟩
theorem Src.itr_keep {h h' : Heap} {it : Addr} {i : Nat} : ∀ {S : Src}, S.itr h it i → (∀ o, h.get? it = some o → h'.get? it = some o) → S.itr h' it i
  | .l a, st, k => st.at k
  | .t a, st, k => st.at k
theorem Src.at_keep {h h' : Heap} {its : Array Value} : ∀ {S : Src}, S.at h its → (∀ o, h.get? S.ad = some o → h'.get? S.ad = some o) → S.at h' its
  | .l a, st, k => st.at k
  | .t a, st, k => st.at k
theorem Src.itr_obj {h : Heap} {it : Addr} {i : Nat} : ∀ {S : Src}, S.itr h it i → ∃ o, h.get? it = some o ∧ ∀ v, o.data ≠ .cell v
  | .l a, ⟨o, e, _, d⟩ => ⟨o, e, fun v z => by rw [d] at z; cases z⟩
  | .t a, ⟨o, e, _, d⟩ => ⟨o, e, fun v z => by rw [d] at z; cases z⟩
theorem Src.itr0 {h : Heap} {it : Addr} : ∀ {S : Src}, h.get? it = some S.o0 → S.itr h it 0
  | .l a, e => ⟨_, e, rfl, rfl⟩
  | .t a, e => ⟨_, e, rfl, rfl⟩
theorem Src.ne {h : Heap} {it : Addr} {its : Array Value} {i : Nat} : ∀ {S : Src}, S.at h its → S.itr h it i → S.ad ≠ it
  | .l a, ⟨o, ho, hc, _⟩, ⟨o', ho', hc', _⟩ => fun z => by
    have z : a = it := z
    subst z; rw [ho] at ho'; cases ho'; rw [hc] at hc'; exact absurd hc' (by decide)
  | .t a, ⟨o, ho, hc, _⟩, ⟨o', ho', hc', _⟩ => fun z => by
    have z : a = it := z
    subst z; rw [ho] at ho'; cases ho'; rw [hc] at hc'; exact absurd hc' (by decide)
theorem Src.inj {X : Cx} {pins : List (Addr × Obj)} {σ : St} {H : Hp} {s : Shared} (I : Inv X pins σ H s) {vs ws : List V} : ∀ {S : Src}, S.has X.K H vs → S.has X.K H ws → vs = ws
  | .l a, h, k => I.list_inj h k
  | .t a, h, k => I.tuple_inj h k

/-! ### enumerate -/
def JE (K : PySem.W.Frag) (S : Src) (vs : List V) : L2.It :=
  ⟨fun i H => S.has K H vs ∧ i < vs.length, fun i H v H' => ∃ T x, v = .ref T ∧ H T = none ∧ H' = upd H T (.tup [.int (i : Nat), x]) ∧ vs[i]? = some x, fun i H => S.has K H vs ∧ i = vs.length⟩
theorem turn_enumS {P : Program} {w : World} {K : PySem.W.Frag} {elts : List Expr} {kk : Nat} {tpos : Pos} (S : Src) (vs : List V) (e it : Addr) :
    Turn P w K (.Tuple elts kk tpos) (JE K S vs) [e, it] e (fun i h => (∃ old, IsEnum h e it ((0 : Int) + (i : Nat)) old) ∧ S.itr h it i ∧ e ≠ it ∧ e ≠ S.ad ∧ ∃ o, h.get? it = some o) where
  mem := by simp
  obj := fun i h st b hb => by
    obtain ⟨⟨old, he⟩, hi, _⟩ := st
    have e' : b = e ∨ b = it := by simpa using hb
    rcases e' with z | z
    · rw [z]; exact ⟨_, he, fun v q => nomatch q⟩
    · rw [z]; exact Src.itr_obj hi
  keep := fun i h h' st k => let ⟨⟨old, he⟩, hi, hne, hs, o, ho⟩ := st; ⟨⟨old, k e (by simp) _ he⟩, Src.itr_keep hi fun o q => k it (by simp) o q, hne, hs, o, k it (by simp) o ho⟩
  item := by
    intro X hP hw hK hc i pins s σ H E I hf st hg
    subst hP hw hK
    obtain ⟨he, hi, hne, hse, _⟩ := st
    obtain ⟨hq, hlt⟩ := hg
    obtain ⟨its, rv, p, _⟩ := Src.at_of I hq
    have hl := rv.length
    have hsi : S.ad ≠ it := Src.ne p hi
    have W := WalksT.enumFrom (prog := X.prog) (w := X.w) (A := X.A) 0 (Src.draws (prog := X.prog) (w := X.w) (A := X.A.in1) (I.ok.hd hc) S it hsi its.toArray) e hne (by simp [hne, hse]) (by simp)
    refine W.item i s _ _ (by simp; omega) ⟨he, hi, p⟩ fun T vals h' tk hP hT hTup hm kk => ?_
    obtain ⟨t, u, hu, rfl⟩ := hP
    have hu : its[i]? = some u := by simpa using hu
    refine ⟨_, rfl, W.go _ _ _ i T { s with heap := h', toks := tk } _ _ hm fun h'' st'' kk'' => ?_⟩
    have hlt' : i < vs.length := hlt
    obtain ⟨u', hu', ru⟩ := rv.get (List.getElem?_eq_getElem hlt')
    rw [hu] at hu'; cases hu'
    have hTw := W.apart i T h' hm
    have hTup2 : h''.IsTuple T #[.int ((0 : Int) + (i : Int)) t, u] := hTup.at fun o q => kk'' T o hTw q
    have e0 : ((0 : Int) + (i : Int)) = (i : Nat) := by omega
    have new : ObjOk X.prog X.w (upd H T (.tup [.int (i : Nat), vs[i]])) h'' T (.tup [.int (i : Nat), vs[i]]) := by
      refine ⟨by show 2 ≤ sizeLine; decide, [.int ((0 : Int) + (i : Int)) t, u], .cons ⟨t, by rw [e0]⟩ (.cons ru .nil), ?_⟩
      obtain ⟨o, ho, hc2, hn, hd⟩ := hTup2
      exact ⟨o, ho, hc2, hn, hd⟩
    have I1 : Inv X pins σ (upd H T (.tup [.int (i : Nat), vs[i]])) { s with heap := h'', toks := tk } :=
      I.turnedNew (ch := [e, it]) (fun b ob hb q => kk'' b ob hb (kk b ob hb q)) hf hT new
    have hTn : H T = none := I.hok.fresh hT
    obtain ⟨he'', hi'', _⟩ := st''
    have helt : ∀ b ∈ [e, it], b < s.heap.objs.size := fun b hb => by
      have e' : b = e ∨ b = it := by simpa using hb
      rcases e' with z | z
      · rw [z]; obtain ⟨_, he⟩ := he; exact Heap.lt_size he
      · rw [z]; obtain ⟨o, e1, _⟩ := Src.itr_obj hi; exact Heap.lt_size e1
    refine ⟨.ref T, _, I1, rfl, ⟨_, vs[i], rfl, hTn, rfl, List.getElem?_eq_getElem hlt'⟩, ⟨he'', hi'', hne, hse, ?_⟩, fun b hb => ?_⟩
    · obtain ⟨o, e1, _⟩ := Src.itr_obj hi''; exact ⟨o, e1⟩
    · rw [upd_ne (Nat.ne_of_lt (Nat.lt_of_lt_of_le (helt b hb) hT))]
      exact (hf b hb).1
  done := by
    intro X hP hw hK hc i pins s σ H E I hf st hg
    subst hP hw hK
    obtain ⟨he, hi, hne, hse, _⟩ := st
    obtain ⟨hq, hlt⟩ := hg
    obtain ⟨its, rv, p, _⟩ := Src.at_of I hq
    have hl := rv.length
    have hsi : S.ad ≠ it := Src.ne p hi
    have W := WalksT.enumFrom (prog := X.prog) (w := X.w) (A := X.A) 0 (Src.draws (prog := X.prog) (w := X.w) (A := X.A.in1) (I.ok.hd hc) S it hsi its.toArray) e hne (by simp [hne, hse]) (by simp)
    have hi' : i = its.toArray.size := by simp; omega
    subst hi'
    exact W.done s _ _ ⟨he, hi, p⟩ fun h' tk kk => ⟨rfl, I.turnedL (ch := [e, it]) (fun b o hb q => kk b o hb q) hf⟩
  self := fun A i s Q E st h => let ⟨⟨_, he⟩, _⟩ := st; wpAny_pyIter_enum he h
theorem src_of {K : PySem.W.Frag} {H : Hp} {v : V} {d : D} {ds : List D} (h : Rp K H v d) (e : pItems d = some ds) : ∃ (S : Src) (vs : List V), v = .ref S.ad ∧ (∀ H', Ex H H' → S.has K H' vs ∧ RpAll K H' vs ds) := by
  cases d with
  | list xs =>
    cases e
    obtain ⟨a, o, vs, rfl, h1, r1⟩ := rp_lst h
    exact ⟨.l a, vs, rfl, fun H' x => ⟨.inl (.inr ⟨o, x a _ h1 rfl⟩), r1.ex x⟩⟩
  | tuple xs =>
    cases e
    obtain ⟨a, vs, rfl, h1, r1⟩ := rp_tup h
    exact ⟨.t a, vs, rfl, fun H' x => ⟨(h1.ex x).sq, r1.ex x⟩⟩
  | _ => cases e
theorem pEnum_len : ∀ {xs : List D} {k : Int}, (pEnum k xs).length = xs.length
  | [], _ => rfl
  | _ :: r, k => by show (pEnum (k + 1) r).length + 1 = r.length + 1; rw [pEnum_len]
theorem pEnum_at : ∀ {xs : List D} {k : Int} {i : Nat} {d : D}, (pEnum k xs)[i]? = some d → ∃ y, xs[i]? = some y ∧ d = .tuple [.int (k + i), y]
  | [], _, _, _, h => by cases h
  | x :: r, k, 0, d, h => by cases h; exact ⟨x, rfl, by simp⟩
  | x :: r, k, i + 1, d, h => by
    obtain ⟨y, h1, h2⟩ := pEnum_at (xs := r) (k := k + 1) (i := i) h
    refine ⟨y, h1, h2.trans ?_⟩
    have : k + 1 + (i : Int) = k + ((i + 1 : Nat) : Int) := by omega
    rw [this]
theorem wlk_enum {K : PySem.W.Frag} {H : Hp} {S : Src} {vs : List V} {xs : List D} (hl : vs.length = xs.length) : Wlk K true (JE K S vs) (fun H' => Ex H H' ∧ ∀ H2, Ex H' H2 → S.has K H2 vs ∧ RpAll K H2 vs xs) (pEnum 0 xs) where
  keep := fun H1 H2 x ⟨h1, h2⟩ => ⟨fun b o e i => x b o (h1 b o e i) i, fun H3 x3 => h2 H3 fun b o e i => x3 b o (x b o e i) i⟩
  go := fun i H1 d ⟨_, h⟩ e => ⟨(h H1 (fun _ _ e _ => e)).1, by
    have := (List.getElem?_eq_some_iff.mp e).1
    rw [pEnum_len] at this; omega⟩
  yld := fun i H1 d x H2 ⟨_, h⟩ e ⟨T, y, ex, hT, eH, hy⟩ => by
    obtain ⟨z, ez, rfl⟩ := pEnum_at e
    subst eH
    have g : Grow H1 (upd H1 T (.tup [.int (i : Nat), y])) := Grow.new hT
    refine ⟨g, T, _, _, ex, rfl, upd_same, ?_⟩
    obtain ⟨v, hv, rv⟩ := ((h _ g.ex).2).get ez
    rw [hy] at hv; cases hv
    have e0 : (0 : Int) + (i : Int) = (i : Nat) := by omega
    rw [e0]
    exact .cons (.int _) (.cons rv .nil)
  stop := fun i H1 ⟨_, h⟩ e => ⟨(h H1 (fun _ _ e _ => e)).1, by rw [pEnum_len] at e; rw [e, hl]⟩
/-! ### a call of enumerate with one part -/
set_option maxHeartbeats 1000000 in
theorem meets_enumerate_any {v : Value} {o : Obj} {H : Heap → Prop} (B : Begins v o H) :
    Meets (Builtin.«enumerate.__new__» ⟨[.type "enumerate", v], []⟩) (fun _ R s => H s.heap ∧
      R (.ok (.ret (.ref (s.heap.push o).objs.size))) { s with heap := (s.heap.push o).push { cls := .type "enumerate", data := .fields #[.none, .bool false, .ref s.heap.objs.size, rawInt 0, .none, .none] } }) :=
  .of_wp fun prog w A R s h => by
    obtain ⟨hp, g, d, tk, os⟩ := s; obtain ⟨h1, h⟩ := h
    have hsub := sub_enumerate
    have q1 : ∀ {A' : Around} {E : Value → Shared → Prop} {Q : Value → Shared → Prop}, Q (.ref hp.objs.size) ⟨hp.push o, g, d, tk, os⟩ → wpAny (model prog w) A' (pyIter v) Q E ⟨hp, g, d, tk, os⟩ :=
      fun q => B.iter prog w _ _ ⟨hp, g, d, tk, os⟩ _ h1 q
    wp_walk using q1
    refine wpAny_stack_any fun st => wpAny_pure ?_
    split
    · rename_i c _ _ _ _ _
      cases (c == Value.type "enumerate")
      · wp_walk using q1
        exact ⟨_, rfl, h⟩
      · wp_walk using q1
        exact ⟨_, rfl, h⟩
    · wp_walk using q1
      exact ⟨_, rfl, h⟩
theorem call_enumerate_any {prog : Program} {w : World} {A : Around} {E : Value → Shared → Prop} {s : Shared} {v : Value} {o : Obj} {H : Heap → Prop} {Q : Value → Shared → Prop} (B : Begins v o H) (h1 : H s.heap)
    (h : ∀ h', IsEnum h' (s.heap.objs.size + 1) s.heap.objs.size 0 .none → h'.get? s.heap.objs.size = some o → h'.objs.size = s.heap.objs.size + 2 →
      (∀ b o, s.heap.get? b = some o → h'.get? b = some o) → Q (.ref (s.heap.objs.size + 1)) { s with heap := h' }) :
    wpAny (model prog w) A (call (.type "enumerate") [v]) Q E s := by
  refine callType_new F.called_enumerate (by decide) (F.typeCall_enumerate_1 _) (F.newCall_enumerate_1 _) (fun obj => F.args_object_init_2 obj _) F.entry_enumerate_new
    (meets_enumerate_any B) ⟨h1, ?_⟩
  have hz : (s.heap.push o).objs.size = s.heap.objs.size + 1 := Heap.size_push ..
  show _ ∧ _
  rw [hz]
  have he : IsEnum ((s.heap.push o).push { cls := .type "enumerate", data := .fields #[.none, .bool false, .ref s.heap.objs.size, rawInt 0, .none, .none] }) (s.heap.objs.size + 1) s.heap.objs.size 0 .none := by
    have := Heap.get?_push_size (s.heap.push o) (o := { cls := .type "enumerate", data := .fields #[.none, .bool false, .ref s.heap.objs.size, rawInt 0, .none, .none] }) rfl
    rw [hz] at this; exact this
  refine ⟨⟨_, he, rfl⟩, h _ he (Heap.get?_push_of_some _ (Heap.get?_push_size _ B.free)) (by rw [Heap.size_push, hz]) fun b o x => Heap.get?_push_of_some _ (Heap.get?_push_of_some _ x)⟩

/-! ### zip -/
def JZ (K : PySem.W.Frag) (S1 S2 : Src) (xs ys : List V) : L2.It :=
  ⟨fun i H => S1.has K H xs ∧ S2.has K H ys ∧ i < xs.length ∧ i < ys.length, fun i H v H' => ∃ T x y, v = .ref T ∧ H T = none ∧ H' = upd H T (.tup [x, y]) ∧ xs[i]? = some x ∧ ys[i]? = some y,
    fun i H => S1.has K H xs ∧ S2.has K H ys ∧ i = min xs.length ys.length⟩
theorem turn_zipS {P : Program} {w : World} {K : PySem.W.Frag} {elts : List Expr} {kk : Nat} {tpos : Pos} (S1 S2 : Src) (xs ys : List V) {z TI TO i1 i2 : Addr} (D : ZipSep2 z TI TO i1 i2 [i1, S1.ad] [i2, S2.ad]) :
    Turn P w K (.Tuple elts kk tpos) (JZ K S1 S2 xs ys) [z, TI, TO, i1, i2] z (fun i h => IsZip h z TI TO .none ∧ IsTupOf2 h TI (.ref i1) (.ref i2) ∧ (∃ x y, IsTupOf2 h TO x y) ∧ S1.itr h i1 i ∧ S2.itr h i2 i) where
  mem := by simp
  obj := fun i h st c hc => by
    obtain ⟨hz, hTI, ⟨x, y, hTO⟩, h1, h2⟩ := st
    have e' : c = z ∨ c = TI ∨ c = TO ∨ c = i1 ∨ c = i2 := by simpa using hc
    rcases e' with q | q | q | q | q
    · rw [q]; exact ⟨_, hz, fun v q => nomatch q⟩
    · rw [q]; exact ⟨_, hTI, fun v q => nomatch q⟩
    · rw [q]; exact ⟨_, hTO, fun v q => nomatch q⟩
    · rw [q]; exact Src.itr_obj h1
    · rw [q]; exact Src.itr_obj h2
  keep := fun i h h' st k => by
    obtain ⟨hz, hTI, ⟨x, y, hTO⟩, h1, h2⟩ := st
    exact ⟨k z (by simp) _ hz, k TI (by simp) _ hTI, ⟨x, y, k TO (by simp) _ hTO⟩, Src.itr_keep h1 fun o q => k i1 (by simp) o q, Src.itr_keep h2 fun o q => k i2 (by simp) o q⟩
  item := by
    intro X hP hw hK hc i pins s σ H E I hf st hg
    subst hP hw hK
    obtain ⟨hz, hTI, hTO, h1, h2⟩ := st
    obtain ⟨hqx, hqy, hlx, hly⟩ := hg
    obtain ⟨its, rv, p, _⟩ := Src.at_of I hqx
    obtain ⟨its2, rv2, p2, _⟩ := Src.at_of I hqy
    have l1 := rv.length
    have l2 := rv2.length
    have W := WalksT.zipD2 (prog := X.prog) (w := X.w) (A := X.A) D (Src.draws (prog := X.prog) (w := X.w) (A := X.A.in1) (I.ok.hd hc) S1 i1 (Src.ne p h1) its.toArray) (Src.draws (prog := X.prog) (w := X.w) (A := X.A.in1) (I.ok.hd hc) S2 i2 (Src.ne p2 h2) its2.toArray)
    refine W.item i s _ _ (by simp; omega) ⟨hz, hTI, hTO, ⟨h1, p⟩, h2, p2⟩ fun T vals h' tk hP hT hTup hm kk => ?_
    obtain ⟨u, u2, hu, hu2, rfl⟩ := hP
    have hu : its[i]? = some u := by simpa using hu
    have hu2 : its2[i]? = some u2 := by simpa using hu2
    refine ⟨_, rfl, W.go _ _ _ i T { s with heap := h', toks := tk } _ _ hm fun h'' st'' kk'' => ?_⟩
    have hlx' : i < xs.length := hlx
    have hly' : i < ys.length := hly
    obtain ⟨u', hu', ru⟩ := rv.get (List.getElem?_eq_getElem hlx')
    obtain ⟨u2', hu2', ru2⟩ := rv2.get (List.getElem?_eq_getElem hly')
    rw [hu] at hu'; cases hu'
    rw [hu2] at hu2'; cases hu2'
    have hTw := W.apart i T h' hm
    have hTup2 : h''.IsTuple T #[u, u2] := hTup.at fun o q => kk'' T o hTw q
    have new : ObjOk X.prog X.w (upd H T (.tup [xs[i], ys[i]])) h'' T (.tup [xs[i], ys[i]]) := by
      refine ⟨by show 2 ≤ sizeLine; decide, [u, u2], .cons ru (.cons ru2 .nil), ?_⟩
      obtain ⟨o, ho, hc2, hn, hd⟩ := hTup2
      exact ⟨o, ho, hc2, hn, hd⟩
    have I1 : Inv X pins σ (upd H T (.tup [xs[i], ys[i]])) { s with heap := h'', toks := tk } :=
      I.turnedNew (ch := [z, TI, TO, i1, i2]) (fun b ob hb q => kk'' b ob (fun m => hb (by simp at m ⊢; rcases m with e | e | e | e <;> simp [e])) (kk b ob (fun m => hb (by simp at m ⊢; rcases m with e | e | e | e <;> simp [e])) q)) hf hT new
    have hTn : H T = none := I.hok.fresh hT
    obtain ⟨hz'', hTI'', hTO'', ⟨h1'', _⟩, h2'', _⟩ := st''
    have lt : ∀ {c : Addr}, (∃ o, s.heap.get? c = some o) → c < s.heap.objs.size := fun ⟨o, e⟩ => Heap.lt_size e
    have helt : ∀ b ∈ [z, TI, TO, i1, i2], b < s.heap.objs.size := fun b hb => by
      have e' : b = z ∨ b = TI ∨ b = TO ∨ b = i1 ∨ b = i2 := by simpa using hb
      rcases e' with q | q | q | q | q
      · rw [q]; exact Heap.lt_size hz
      · rw [q]; exact Heap.lt_size hTI
      · rw [q]; obtain ⟨_, _, hTO⟩ := hTO; exact Heap.lt_size hTO
      · rw [q]; obtain ⟨o, e1, _⟩ := Src.itr_obj h1; exact Heap.lt_size e1
      · rw [q]; obtain ⟨o, e1, _⟩ := Src.itr_obj h2; exact Heap.lt_size e1
    refine ⟨.ref T, _, I1, rfl, ⟨_, _, _, rfl, hTn, rfl, List.getElem?_eq_getElem hlx', List.getElem?_eq_getElem hly'⟩, ⟨hz'', hTI'', hTO'', h1'', h2''⟩, fun b hb => ?_⟩
    rw [upd_ne (Nat.ne_of_lt (Nat.lt_of_lt_of_le (helt b hb) hT))]
    exact (hf b hb).1
  done := by
    intro X hP hw hK hc i pins s σ H E I hf st hg
    subst hP hw hK
    obtain ⟨hz, hTI, hTO, h1, h2⟩ := st
    obtain ⟨hqx, hqy, hl⟩ := hg
    obtain ⟨its, rv, p, _⟩ := Src.at_of I hqx
    obtain ⟨its2, rv2, p2, _⟩ := Src.at_of I hqy
    have l1 := rv.length
    have l2 := rv2.length
    have W := WalksT.zipD2 (prog := X.prog) (w := X.w) (A := X.A) D (Src.draws (prog := X.prog) (w := X.w) (A := X.A.in1) (I.ok.hd hc) S1 i1 (Src.ne p h1) its.toArray) (Src.draws (prog := X.prog) (w := X.w) (A := X.A.in1) (I.ok.hd hc) S2 i2 (Src.ne p2 h2) its2.toArray)
    have hi' : i = min its.toArray.size its2.toArray.size := by simp; omega
    subst hi'
    exact W.done s _ _ ⟨hz, hTI, hTO, ⟨h1, p⟩, h2, p2⟩ fun h' tk kk => ⟨rfl, I.turnedL (ch := [z, TI, TO, i1, i2]) (fun b o hb q => kk b o (fun m => hb (by simp at m ⊢; rcases m with e | e | e | e <;> simp [e])) q) hf⟩
  self := fun A i s Q E st h => wpAny_pyIter_zip st.1 h
theorem pZip_len : ∀ {xs ys : List D}, (pZip xs ys).length = min xs.length ys.length
  | [], ys => by cases ys <;> simp [pZip]
  | _ :: _, [] => by simp [pZip]
  | x :: xs, y :: ys => by
    show (pZip xs ys).length + 1 = _
    rw [pZip_len, List.length_cons, List.length_cons]; omega
theorem pZip_at : ∀ {xs ys : List D} {i : Nat} {d : D}, (pZip xs ys)[i]? = some d → ∃ x y, xs[i]? = some x ∧ ys[i]? = some y ∧ d = .tuple [x, y]
  | [], ys, _, _, h => by cases ys <;> cases h
  | _ :: _, [], _, _, h => by cases h
  | x :: xs, y :: ys, 0, d, h => by cases h; exact ⟨x, y, rfl, rfl, rfl⟩
  | x :: xs, y :: ys, i + 1, d, h => pZip_at (xs := xs) (ys := ys) (i := i) h
theorem wlk_zip {K : PySem.W.Frag} {S1 S2 : Src} {vs ws : List V} {xs ys : List D} (hl : vs.length = xs.length) (hl2 : ws.length = ys.length) :
    Wlk K true (JZ K S1 S2 vs ws) (fun H' => ∀ H2, Ex H' H2 → (S1.has K H2 vs ∧ RpAll K H2 vs xs) ∧ S2.has K H2 ws ∧ RpAll K H2 ws ys) (pZip xs ys) where
  keep := fun H1 H2 x h H3 x3 => h H3 fun b o e i => x3 b o (x b o e i) i
  go := fun i H1 d h e => by
    obtain ⟨⟨h1, _⟩, h2, _⟩ := h H1 (fun _ _ e _ => e)
    have := (List.getElem?_eq_some_iff.mp e).1
    rw [pZip_len] at this
    exact ⟨h1, h2, by omega, by omega⟩
  yld := fun i H1 d x H2 h e ⟨T, v, w, ex, hT, eH, hv, hw⟩ => by
    obtain ⟨x1, y1, e1, e2, rfl⟩ := pZip_at e
    subst eH
    have g : Grow H1 (upd H1 T (.tup [v, w])) := Grow.new hT
    refine ⟨g, T, _, _, ex, rfl, upd_same, ?_⟩
    obtain ⟨⟨_, r1⟩, _, r2⟩ := h _ g.ex
    obtain ⟨v', hv', rv⟩ := r1.get e1
    obtain ⟨w', hw', rw'⟩ := r2.get e2
    rw [hv] at hv'; cases hv'
    rw [hw] at hw'; cases hw'
    exact .cons rv (.cons rw' .nil)
  stop := fun i H1 h e => by
    obtain ⟨⟨h1, _⟩, h2, _⟩ := h H1 (fun _ _ e _ => e)
    exact ⟨h1, h2, by rw [pZip_len] at e; rw [e, hl, hl2]⟩

section
variable {X : Cx} {fx : Nat → Bool} {W : WX} {a b c : Expr} {ma mb mc : M D} {pos p : Pos} {tg : Expr}
theorem mi_enum {elts : List Expr} {kk : Nat} {tpos : Pos} (hs : isStar a = false) (hg : Gl X "enumerate") (hb : ∀ x, x ∈ bnames → X.mg x = none) (ha : PE X a (tE X.K X.mg fx W ma)) :
    PI X (.Tuple elts kk tpos) (.Call (.Name "enumerate" p) [a] [] pos) (tI X.K X.mg fx W true fun g => (ma g).bind fun x g1 => (lft (pItems x) g1).bind fun xs g2 => .ok (pEnum 0 xs) g2) := by
  refine ⟨fun pins s σ H R I ⟨g, r, h⟩ => ?_⟩
  have h := h.bind
  refine Call_ (ld_blt I hg (hb _ (by decide +kernel)) boot_enumerate (PyProof.Rows.callWith_type1 (thn ((pa_cons ha pa_nil (star_ok hs)).run pos pins s σ H (fun vs H1 => ∃ x xs g1 v, vs = [v] ∧ Rp X.K H1 v x ∧ pItems x = some xs ∧ RelEnv X.K σ H1 g1 ∧ Step fx σ g H σ g1 H1 ∧ ∀ J H' P, RelEnv X.K σ H' g1 → Step fx σ g H σ g1 H' → P H' → Wlk X.K true J P (pEnum 0 xs) → R J H') I ⟨g, r, h.mono fun x g1 z v H1 r1 s1 p1 => ?_⟩) fun us s1 ⟨vs, H1, I1, r1, q1⟩ => ?_) (star_ok hs) rfl))
  · obtain ⟨xs, e, q⟩ := (z H1 r1 s1).bind.lft
    exact ⟨x, xs, g1, v, rfl, p1, e, r1, s1, fun J H' P r' s' => q H1 r1 Step.refl J H' P r' s'⟩
  · obtain ⟨x, xs, g1, v, ex, p1, e, r1', s1', q⟩ := q1
    subst ex
    cases r1 with
    | cons rv rr =>
      cases rr
      obtain ⟨S, ws, rfl, hS⟩ := src_of p1 e
      cases rv
      obtain ⟨k1, k2⟩ := hS H1 (fun _ _ e _ => e)
      obtain ⟨its, rv, pt, o, ho⟩ := Src.at_of I1 k1
      refine call_enumerate_any (Src.begins S its.toArray) pt fun h' he hit hsz hk => wpAny_pyIter_enum he ?_
      have I2 : Inv X pins σ H1 { s1 with heap := h' } := I1.kept (t' := s1.toks) hk
      have hlt : S.ad < s1.heap.objs.size := Heap.lt_size ho
      refine ⟨s1.heap.objs.size + 1, [s1.heap.objs.size + 1, s1.heap.objs.size], _, _, H1, rfl, I2, turn_enumS S ws (s1.heap.objs.size + 1) s1.heap.objs.size, ⟨⟨.none, ?_⟩, Src.itr0 hit, Nat.succ_ne_self _, Nat.ne_of_gt (Nat.lt_succ_of_lt hlt), _, hit⟩, fun b hb => ?_, q _ H1 _ r1' s1' ⟨fun _ _ e _ => e, fun H2 x => hS H2 x⟩ (wlk_enum k2.len)⟩
      · simpa using he
      · have e' : b = s1.heap.objs.size + 1 ∨ b = s1.heap.objs.size := by simpa using hb
        have hle : s1.heap.objs.size ≤ b := by
          rcases e' with z | z
          · rw [z]; exact Nat.le_add_right _ _
          · rw [z]; exact Nat.le_refl _
        exact I1.fpOk hle (I1.hok.fresh hle)
theorem mi_zip {elts : List Expr} {kk : Nat} {tpos : Pos} (hs : isStar a = false) (hs2 : isStar b = false) (hg : Gl X "zip") (hb' : ∀ x, x ∈ bnames → X.mg x = none) (ha : PE X a (tE X.K X.mg fx W ma)) (hb : PE X b (tE X.K X.mg fx W mb)) :
    PI X (.Tuple elts kk tpos) (.Call (.Name "zip" p) [a, b] [] pos) (tI X.K X.mg fx W true fun g => (ma g).bind fun x g1 => (mb g1).bind fun y g2 => (lft (pItems x) g2).bind fun xs g3 => (lft (pItems y) g3).bind fun ys g4 => .ok (pZip xs ys) g4) := by
  refine ⟨fun pins s σ H R I ⟨g, r, h⟩ => ?_⟩
  have h := h.bind
  refine Call_ (ld_blt I hg (hb' _ (by decide +kernel)) PyProof.Rows.boot_zip (PyProof.Rows.callWith_type1 (thn ((pa_cons ha (pa_cons hb pa_nil (star_ok hs2)) (star_ok hs)).run pos pins s σ H (fun vs H1 => ∃ x y xs ys g1 v w, vs = [v, w] ∧ Rp X.K H1 v x ∧ Rp X.K H1 w y ∧ pItems x = some xs ∧ pItems y = some ys ∧ RelEnv X.K σ H1 g1 ∧ Step fx σ g H σ g1 H1 ∧ ∀ J H' P, RelEnv X.K σ H' g1 → Step fx σ g H σ g1 H' → P H' → Wlk X.K true J P (pZip xs ys) → R J H') I ⟨g, r, h.mono fun x g1 z v H1 r1 s1 p1 => ?_⟩) fun us s1 ⟨vs, H1, I1, r1, q1⟩ => ?_) (star_ok hs) (stars_ok (by rw [List.all_cons, hs2]; rfl))))
  · refine ⟨g1, r1, (z H1 r1 s1).bind.mono fun y g2 z2 w H2 r2 s2 p2 => ?_⟩
    obtain ⟨xs, e, q⟩ := (z2 H2 r2 s2).bind.lft
    obtain ⟨ys, e', q'⟩ := (q H2 r2 Step.refl).bind.lft
    exact ⟨x, y, xs, ys, g2, v, w, rfl, p1.ex (s2.ex r1), p2, e, e', r2, s1.trans s2, fun J H' P r' s' => q' H2 r2 Step.refl J H' P r' s'⟩
  · obtain ⟨x, y, xs, ys, g1, v, w, ex, p1, p2, e, e', r1', s1', q⟩ := q1
    subst ex
    cases r1 with
    | cons rv rr =>
      cases rr with
      | cons rw' rr =>
        cases rr
        obtain ⟨S1, vs1, rfl, hS1⟩ := src_of p1 e
        obtain ⟨S2, vs2, rfl, hS2⟩ := src_of p2 e'
        cases rv
        cases rw'
        obtain ⟨k1, k2⟩ := hS1 H1 (fun _ _ e _ => e)
        obtain ⟨k3, k4⟩ := hS2 H1 (fun _ _ e _ => e)
        obtain ⟨its, rv, pt, o, ho⟩ := Src.at_of I1 k1
        obtain ⟨its2, rv2, pt2, o2, ho2⟩ := Src.at_of I1 k3
        refine zip_begins2 (Src.begins S1 its.toArray) (Src.begins S2 its2.toArray) pt pt2 fun h' hz hTI hTO h1 h2 hsz hk => wpAny_pyIter_zip hz ?_
        have I2 : Inv X pins σ H1 { s1 with heap := h' } := I1.kept (t' := s1.toks) hk
        refine ⟨s1.heap.objs.size + 4, [s1.heap.objs.size + 4, s1.heap.objs.size + 2, s1.heap.objs.size + 3, s1.heap.objs.size, s1.heap.objs.size + 1], _, _, H1, rfl, I2, turn_zipS S1 S2 vs1 vs2 (zip_sep2 (fp1 := [S1.ad]) (fp2 := [S2.ad]) (fun b hb => by rw [List.mem_singleton.mp hb]; exact Heap.lt_size ho) (fun b hb => by rw [List.mem_singleton.mp hb]; exact Heap.lt_size ho2)), ⟨hz, hTI, ⟨_, _, hTO⟩, Src.itr0 h1, Src.itr0 h2⟩, fun c hcm => ?_, q _ H1 _ r1' s1' (fun H2 x => ⟨hS1 H2 x, hS2 H2 x⟩) (wlk_zip k2.len k4.len)⟩
        have e' : c = s1.heap.objs.size + 4 ∨ c = s1.heap.objs.size + 2 ∨ c = s1.heap.objs.size + 3 ∨ c = s1.heap.objs.size ∨ c = s1.heap.objs.size + 1 := by simpa using hcm
        have hle : s1.heap.objs.size ≤ c := by
          rcases e' with z | z | z | z | z
          · rw [z]; exact Nat.le_add_right _ _
          · rw [z]; exact Nat.le_add_right _ _
          · rw [z]; exact Nat.le_add_right _ _
          · rw [z]; exact Nat.le_refl _
          · rw [z]; exact Nat.le_add_right _ _
        exact I1.fpOk hle (I1.hok.fresh hle)

/-! ### a list or a tuple as it is -/
def JS (K : PySem.W.Frag) (S : Src) (vs : List V) : L2.It :=
  ⟨fun i H => S.has K H vs ∧ i < vs.length, fun i H v H' => H' = H ∧ vs[i]? = some v, fun i H => S.has K H vs ∧ vs.length ≤ i⟩
theorem turn_S {P : Program} {w : World} {K : PySem.W.Frag} (S : Src) (vs : List V) (it : Addr) : Turn P w K tg (JS K S vs) [it] it (fun i h => S.itr h it i) := by
  cases S with
  | l a =>
    have T := turn_list (P := P) (w := w) (K := K) (tg := tg) a it
    refine ⟨T.mem, T.obj, T.keep, fun X hP hw hK hc i pins s σ H E I hf st hg => ?_, fun X hP hw hK hc i pins s σ H E I hf st hg => ?_, T.self⟩
    · obtain ⟨h1, h2⟩ := hg
      have h2' : i < vs.length := h2
      refine thn (T.item X hP hw hK hc i pins s σ H E I hf st ⟨vs, vs[i], h1, List.getElem?_eq_getElem h2'⟩) fun r s1 ⟨u, e, k⟩ => ⟨u, e, thn k fun _ s2 ⟨x, H', I', rx, ⟨e1, y⟩, st', fr⟩ => ⟨x, H', I', rx, ⟨e1, y vs h1⟩, st', fr⟩⟩
    · exact T.done X hP hw hK hc i pins s σ H E I hf st ⟨vs, hg.1, hg.2⟩
  | t a =>
    have T := turn_tuple (P := P) (w := w) (K := K) (tg := tg) a it
    refine ⟨T.mem, T.obj, T.keep, fun X hP hw hK hc i pins s σ H E I hf st hg => ?_, fun X hP hw hK hc i pins s σ H E I hf st hg => ?_, T.self⟩
    · obtain ⟨h1, h2⟩ := hg
      have h2' : i < vs.length := h2
      refine thn (T.item X hP hw hK hc i pins s σ H E I hf st ⟨vs, vs[i], h1, List.getElem?_eq_getElem h2'⟩) fun r s1 ⟨u, e, k⟩ => ⟨u, e, thn k fun _ s2 ⟨x, H', I', rx, ⟨e1, y⟩, st', fr⟩ => ⟨x, H', I', rx, ⟨e1, y vs h1⟩, st', fr⟩⟩
    · exact T.done X hP hw hK hc i pins s σ H E I hf st ⟨vs, hg.1, hg.2⟩
theorem wlk_S {K : PySem.W.Frag} {S : Src} {vs : List V} {xs : List D} (hl : vs.length = xs.length) : Wlk K false (JS K S vs) (fun H' => ∀ H2, Ex H' H2 → S.has K H2 vs ∧ RpAll K H2 vs xs) xs where
  keep := fun H1 H2 x h H3 x3 => h H3 fun b o e i => x3 b o (x b o e i) i
  go := fun i H1 d h e => ⟨(h H1 (fun _ _ e _ => e)).1, by
    have := (List.getElem?_eq_some_iff.mp e).1
    omega⟩
  yld := fun i H1 d x H2 h e ⟨eH, hy⟩ => by
    subst eH
    obtain ⟨v, hv, rv⟩ := (h H2 (fun _ _ e _ => e)).2.get e
    rw [hy] at hv; cases hv
    exact ⟨Grow.refl, rv⟩
  stop := fun i H1 h e => ⟨(h H1 (fun _ _ e _ => e)).1, by omega⟩
theorem mi_val (ha : PE X a (tE X.K X.mg fx W ma)) : PI X tg a (tI X.K X.mg fx W false fun g => (ma g).bind fun x g1 => lft (pItems x) g1) := by
  refine ⟨fun pins s σ H R I ⟨g, r, h⟩ => ?_⟩
  refine thn (ha.run pins s σ H (fun v H1 => ∃ S vs J P ds, v = .ref (Src.ad S) ∧ S.has X.K H1 vs ∧ J = JS X.K S vs ∧ P H1 ∧ Wlk X.K false J P ds ∧ R J H1) I (tX.seq r h fun x g1 v H1 r1 s1 p1 h1 => ?_)) fun u s1 ⟨v, H1, I1, r1, S, vs, J, P, ds, ev, hS, eJ, hP, hW, hR⟩ => ?_
  · obtain ⟨xs, e, q⟩ := h1.lft
    obtain ⟨S, ws, rfl, hS⟩ := src_of p1 e
    obtain ⟨k1, k2⟩ := hS H1 (fun _ _ e _ => e)
    exact ⟨S, ws, JS X.K S ws, _, xs, rfl, k1, rfl, hS, wlk_S k2.len, q _ H1 _ r1 s1 hS (wlk_S k2.len)⟩
  · subst ev eJ
    cases r1
    obtain ⟨its, rv, pt, o, ho⟩ := Src.at_of I1 hS
    refine (Src.begins S its.toArray).iter _ _ _ _ _ _ pt (pi_one (tk := s1.toks) I1 S.o0 (turn_S S vs _) (Src.itr0 (Heap.get?_push_size _ (Src.begins S its.toArray).free)) hR)

/-! ### ranges -/
theorem wlk_rg {K : PySem.W.Frag} {lo hi : Int} : Wlk K false (Itr lo (hi - lo).toNat) (fun _ => True) (rngL lo hi) where
  keep := fun _ _ _ h => h
  go := fun i H d _ e => by
    have := (List.getElem?_eq_some_iff.mp e).1
    unfold rngL at this
    rw [List.length_map, List.length_range] at this
    exact this
  yld := fun i H d x H' _ e ⟨eH, ex⟩ => by
    subst eH ex
    unfold rngL at e
    rw [List.getElem?_map] at e
    cases z : (List.range (hi - lo).toNat)[i]? with
    | none => rw [z] at e; cases e
    | some j =>
      rw [z] at e; cases e
      rw [List.getElem?_range (by have := (List.getElem?_eq_some_iff.mp z).1; rw [List.length_range] at this; exact this)] at z
      cases z
      exact ⟨Grow.refl, .int _⟩
  stop := fun i H _ e => by
    unfold rngL at e
    rw [List.length_map, List.length_range] at e
    exact Nat.le_of_eq e.symm
theorem rangeSize3 {i j c : Int} (h : 0 < c) : Builtin.Range.rangeSize i j c = ((j - i + (c - 1)) / c).toNat := by
  unfold Builtin.Range.rangeSize
  rw [if_pos h]
  split
  · rename_i hl
    have e : j - i + (c - 1) = (j - i - 1) + 1 * c := by omega
    rw [e, Int.add_mul_ediv_right _ _ (by omega)]
    have : 0 ≤ (j - i - 1) / c := Int.ediv_nonneg (by omega) (by omega)
    omega
  · rename_i hl
    have : (j - i + (c - 1)) / c ≤ 0 := by
      have h1 : j - i + (c - 1) < 1 * c := by omega
      have := Int.ediv_lt_of_lt_mul h h1
      omega
    omega
theorem small_step {i j c : Int} (ha : -(2 ^ 62) ≤ i) (ha' : i < 2 ^ 62) (hb : -(2 ^ 62) ≤ j) (hb' : j < 2 ^ 62) (hc : 0 < c) (hc' : c < 1000000) : Builtin.Range.small i j c = true := by
  unfold Builtin.Range.small Builtin.Range.rangeSize
  rw [if_pos hc]
  simp only [Builtin.Range.rangeFitsLong, Bool.and_eq_true, Bool.or_eq_true, decide_eq_true_eq, beq_iff_eq, show c > 0 from hc, if_true]
  have h1 : i < j → 0 ≤ (j - i - 1) / c ∧ (j - i - 1) / c ≤ j - i - 1 := fun h => ⟨Int.ediv_nonneg (by omega) (by omega), Int.ediv_le_self _ (by omega)⟩
  split
  · have := h1 (by assumption)
    omega
  · omega
theorem wlk_rg3 {K : PySem.W.Frag} {lo hi c : Int} : Wlk K false (Itc lo c ((hi - lo + (c - 1)) / c).toNat) (fun _ => True) (rngL3 lo hi c) where
  keep := fun _ _ _ h => h
  go := fun i H d _ e => by
    have := (List.getElem?_eq_some_iff.mp e).1
    unfold rngL3 at this
    rw [List.length_map, List.length_range] at this
    exact this
  yld := fun i H d x H' _ e ⟨eH, ex⟩ => by
    subst eH ex
    unfold rngL3 at e
    rw [List.getElem?_map] at e
    cases z : (List.range ((hi - lo + (c - 1)) / c).toNat)[i]? with
    | none => rw [z] at e; cases e
    | some j =>
      rw [z] at e; cases e
      rw [List.getElem?_range (by have := (List.getElem?_eq_some_iff.mp z).1; rw [List.length_range] at this; exact this)] at z
      cases z
      exact ⟨Grow.refl, .int _⟩
  stop := fun i H _ e => by
    unfold rngL3 at e
    rw [List.length_map, List.length_range] at e
    exact Nat.le_of_eq e.symm
theorem rngOk_iff {i : Int} (h : rngOk i = true) : -(2 ^ 62) ≤ i ∧ i < 2 ^ 62 := by
  unfold rngOk at h
  simpa using h
theorem mi_rng1 (hs : isStar a = false) (hg : Gl X "range") (hb' : ∀ x, x ∈ bnames → X.mg x = none) (ha : PE X a (tE X.K X.mg fx W ma)) :
    PI X tg (.Call (.Name "range" p) [a] [] pos) (tI X.K X.mg fx W false fun g => (ma g).bind fun x g1 => lft (pRng1 x) g1) := by
  refine PI.wk (pi_range1 hg (hb' _ (by decide +kernel)) (pa_cons ha pa_nil (star_ok hs)) (star_ok hs)) fun σ H R ⟨g, r, h⟩ => ?_
  refine tX.seq r h fun x g1 v H1 r1 s1 p1 h1 => ?_
  obtain ⟨ds, e, q⟩ := h1.lft
  cases x with
  | int j =>
    have e : (if rngOk j then some (rngL 0 j) else none) = some ds := e
    split at e
    · rename_i hj
      cases e
      have k := rngOk_iff hj
      have w := wlk_rg (K := X.K) (lo := 0) (hi := j)
      have e0 : (j - 0).toNat = j.toNat := by rw [Int.sub_zero]
      rw [e0] at w
      exact ⟨j, by rw [rp_int p1], k.1, k.2, q _ H1 _ r1 s1 trivial w⟩
    · cases e
  | _ => cases e
theorem mi_rng2 (hs : isStar a = false) (hs2 : isStar b = false) (hg : Gl X "range") (hb' : ∀ x, x ∈ bnames → X.mg x = none) (ha : PE X a (tE X.K X.mg fx W ma)) (hb : PE X b (tE X.K X.mg fx W mb)) :
    PI X tg (.Call (.Name "range" p) [a, b] [] pos) (tI X.K X.mg fx W false fun g => (ma g).bind fun x g1 => (mb g1).bind fun y g2 => lft (pRng2 x y) g2) := by
  refine PI.wk (pi_range2 hg (hb' _ (by decide +kernel)) (pa_cons ha (pa_cons hb pa_nil (star_ok hs2)) (star_ok hs)) (by rw [star_ok hs, star_ok hs2]; rfl) (star_ok hs2)) fun σ H R ⟨g, r, h⟩ => ?_
  refine tX.seq r h fun x g1 v H1 r1 s1 p1 h1 => ?_
  refine tX.seq r1 h1 fun y g2 w H2 r2 s2 p2 h2 => ?_
  obtain ⟨ds, e, q⟩ := h2.lft
  cases x with
  | int i =>
    cases y with
    | int j =>
      have e : (if rngOk i && rngOk j then some (rngL i j) else none) = some ds := e
      split at e
      · rename_i hj
        cases e
        rw [Bool.and_eq_true] at hj
        have k1 := rngOk_iff hj.1
        have k2 := rngOk_iff hj.2
        exact ⟨i, j, by rw [rp_int p1, rp_int p2], ⟨k1.1, k1.2, k2.1, k2.2⟩, q _ H2 _ r2 (s1.trans s2) trivial wlk_rg⟩
      · cases e
    | _ => cases e
  | _ => cases e
theorem mi_rng3 (hs : isStar a = false) (hs2 : isStar b = false) (hs3 : isStar c = false) (hg : Gl X "range") (hb' : ∀ x, x ∈ bnames → X.mg x = none) (ha : PE X a (tE X.K X.mg fx W ma)) (hb : PE X b (tE X.K X.mg fx W mb)) (hc : PE X c (tE X.K X.mg fx W mc)) :
    PI X tg (.Call (.Name "range" p) [a, b, c] [] pos) (tI X.K X.mg fx W false fun g => (ma g).bind fun x g1 => (mb g1).bind fun y g2 => (mc g2).bind fun z g3 => lft (pRng3 x y z) g3) := by
  refine PI.wk (pi_range3 hg (hb' _ (by decide +kernel)) (pa_cons ha (pa_cons hb (pa_cons hc pa_nil (star_ok hs3)) (star_ok hs2)) (star_ok hs)) (star_ok hs) (stars_ok (by rw [List.all_cons, List.all_cons, hs2, hs3]; rfl))) fun σ H R ⟨g, r, h⟩ => ?_
  refine tX.seq r h fun x g1 v H1 r1 s1 p1 h1 => ?_
  refine tX.seq r1 h1 fun y g2 w H2 r2 s2 p2 h2 => ?_
  refine tX.seq r2 h2 fun z g3 u H3 r3 s3 p3 h3 => ?_
  obtain ⟨ds, e, q⟩ := h3.lft
  cases x with
  | int i =>
    cases y with
    | int j =>
      cases z with
      | int k =>
        have e : (if rngOk i && rngOk j && rngOk k && decide (0 < k) && decide (k < 1000000) then some (rngL3 i j k) else none) = some ds := e
        split at e
        · rename_i hj
          cases e
          simp only [Bool.and_eq_true, decide_eq_true_eq] at hj
          obtain ⟨⟨⟨⟨hi', hj'⟩, hk'⟩, hp⟩, hq⟩ := hj
          have k1 := rngOk_iff hi'
          have k2 := rngOk_iff hj'
          exact ⟨i, j, k, _, by rw [rp_int p1, rp_int p2, rp_int p3], ⟨by omega, by omega, small_step k1.1 k1.2 k2.1 k2.2 hp hq, rangeSize3 hp⟩, q _ H3 _ r3 ((s1.trans s2).trans s3) trivial wlk_rg3⟩
        · cases e
      | _ => cases e
    | _ => cases e
  | _ => cases e
end
end PL
/-! PLk: targets, comprehensions -/
namespace PL
open PySem PySem.Spec PyProof.Rows L2

/-! ### targets -/
def tgS : Tg → List Nat
  | .nm i => [i]
  | .tp l => l
  | .tq l => (l.map fun | .inr i => [i] | .inl m => m).flatten
/-- a value is bound -/
def tGb (K : PySem.W.Frag) (fx : Nat → Bool) (σ : St) (H : Hp) (g g' : Env) (Q : St → Hp → Prop) : Prop := ∀ σ', σ'.length = σ.length → RelEnv K σ' H g' → Step fx σ g H σ' g' H → Q σ' H
def tG (K : PySem.W.Frag) (fx : Nat → Bool) (pr : Bool) (tg : Tg) : TG := fun v σ H Q => ∃ g d g', RelEnv K σ H g ∧ Itm K H pr v d ∧ setTg tg d g = some g' ∧ tGb K fx σ H g g' Q
def tGs (K : PySem.W.Frag) (fx : Nat → Bool) (l : List Nat) : TGs := fun vs σ H Q => ∃ g ds g', RelEnv K σ H g ∧ RpAll K H vs ds ∧ setTs l ds g = some g' ∧ tGb K fx σ H g g' Q
def tGq (K : PySem.W.Frag) (fx : Nat → Bool) (l : List (List Nat ⊕ Nat)) : TGs := fun vs σ H Q => ∃ g ds g', RelEnv K σ H g ∧ RpAll K H vs ds ∧ setTq l ds g = some g' ∧ tGb K fx σ H g g' Q
def NmOk (X : Cx) (e : Expr) (i : Nat) : Prop := ∃ x p, e = .Name x p ∧ X.N[i]? = some x ∧ Loc X.env.scope x ∧ (X.fn x = true ∨ X.env.scope.names.lookup x = some .local)
theorem PG.wk {X : Cx} {e : Expr} {t t' : TG} (h : PG X e t) (w : ∀ v σ H Q, t' v σ H Q → t v σ H Q) : PG X e t' := ⟨fun pins s σ H v u Q I r q => h.run pins s σ H v u Q I r (w v σ H Q q)⟩
theorem PGs.wk {X : Cx} {e : List Expr} {t t' : TGs} (h : PGs X e t) (w : ∀ v σ H Q, t' v σ H Q → t v σ H Q) : PGs X e t' := ⟨fun pins s σ H v u Q I r q => h.run pins s σ H v u Q I r (w v σ H Q q)⟩
theorem asg_cons {e : Expr} {es : List Expr} {env : PySem.Env} (h : isStar e = false) : assignEach (e :: es) env = (false, assign e env) :: assignEach es env := by
  cases e <;> first | rfl | cases h
theorem asg_len {env : PySem.Env} : ∀ {es : List Expr}, es.all (fun e => !isStar e) = true → (assignEach es env).length = es.length ∧ (assignEach es env).findIdx? (·.1) = none
  | [], _ => ⟨rfl, rfl⟩
  | e :: es, h => by
    rw [List.all_cons, Bool.and_eq_true] at h
    rw [asg_cons (by simpa using h.1)]
    obtain ⟨h1, h2⟩ := asg_len (env := env) h.2
    refine ⟨by rw [List.length_cons, List.length_cons, h1], ?_⟩
    rw [List.findIdx?_cons, h2]
    rfl
theorem rpa_cons {K : PySem.W.Frag} {H : Hp} {vs : List V} {d : D} {ds : List D} (h : RpAll K H vs (d :: ds)) : ∃ v ws, vs = v :: ws ∧ Rp K H v d ∧ RpAll K H ws ds := by
  cases h with
  | cons h r => exact ⟨_, _, rfl, h, r⟩
section
variable {X : Cx} {fx : Nat → Bool} {pos : Pos}
theorem put_pu {K : PySem.W.Frag} {σ : St} {H : Hp} {g : Env} {i : Nat} {v : V} {d : D} (r : RelEnv K σ H g) (h : Rp K H v d) (hf : fx i = false) :
    RelEnv K (σ.set i (some v)) H (g.set i (some (.pu d))) ∧ Step fx σ g H (σ.set i (some v)) (g.set i (some (.pu d))) H :=
  ⟨r.put (c := .pu d) h (fun b m => nomatch m), Step.put (c := .pu d) r.len hf (fun b m => nomatch m)⟩
theorem pg_nm {i : Nat} {e : Expr} (hN : X.N.Nodup) (ok : NmOk X e i) (hf : fx i = false) : PG X e (tG X.K fx false (.nm i)) := by
  obtain ⟨x, p, rfl, h1, h2, h3⟩ := ok
  refine PG.wk (pg_name hN h1 h2 h3) fun v σ H Q ⟨g, d, g', r, it, e, q⟩ => ?_
  have e : some (g.set i (some (.pu d))) = some g' := e
  cases e
  obtain ⟨r1, s1⟩ := put_pu r it hf
  exact q _ (by rw [List.length_set]) r1 s1
theorem pgs_nms (hN : X.N.Nodup) : ∀ {l : List Nat} {es : List Expr}, Paired (NmOk X) es l → (∀ i ∈ l, fx i = false) → PGs X es (tGs X.K fx l)
  | [], [], .nil, _ => PGs.wk pgs_nil fun vs σ H Q ⟨g, ds, g', r, rs, e, q⟩ => by
    cases ds with
    | nil =>
      cases rs
      have e : some g = some g' := e
      cases e
      exact ⟨rfl, q σ rfl r Step.refl⟩
    | cons _ _ => exact nomatch e
  | i :: l, e :: es, .cons ok oks, hf => by
    have h1 := pg_nm hN ok (hf i List.mem_cons_self)
    have h2 := pgs_nms hN oks fun j m => hf j (List.mem_cons_of_mem _ m)
    have ns : isStar e = false := by obtain ⟨x, p, rfl, _⟩ := ok; rfl
    refine PGs.wk (pgs_cons h1 h2 (by rw [asg_cons ns]; rfl)) fun vs σ H Q ⟨g, ds, g', r, rs, e, q⟩ => ?_
    cases ds with
    | nil => exact nomatch e
    | cons d ds =>
      obtain ⟨v, vs, rfl, r1, rr⟩ := rpa_cons rs
      refine ⟨v, vs, rfl, g, d, _, r, r1, rfl, fun σ1 l1 r2 s2 => ?_⟩
      exact ⟨_, ds, g', r2, rr, e, fun σ' l2 r3 s3 => q σ' (l2.trans l1) r3 (s2.trans s3)⟩
theorem names_star {l : List Nat} {es : List Expr} : Paired (NmOk X) es l → es.all (fun e => !isStar e) = true
  | .nil => rfl
  | .cons ok oks => by
    rw [List.all_cons, names_star oks]
    obtain ⟨x, p, rfl, _⟩ := ok
    rfl
theorem paired_len {α β : Type} {G : α → β → Prop} {l : List α} {m : List β} : Paired G l m → l.length = m.length
  | .nil => rfl
  | .cons _ r => by rw [List.length_cons, List.length_cons, paired_len r]
theorem setTs_len : ∀ {l : List Nat} {ds : List D} {g g' : Env}, setTs l ds g = some g' → ds.length = l.length
  | [], [], _, _, _ => rfl
  | [], _ :: _, _, _, h => by cases h
  | _ :: _, [], _, _, h => by cases h
  | i :: l, d :: ds, g, g', h => by rw [List.length_cons, List.length_cons, setTs_len (l := l) h]
theorem setTq_len : ∀ {l : List (List Nat ⊕ Nat)} {ds : List D} {g g' : Env}, setTq l ds g = some g' → ds.length = l.length
  | [], [], _, _, _ => rfl
  | [], _ :: _, _, _, h => by cases h
  | .inr _ :: _, [], _, _, h => nomatch h
  | .inl _ :: _, [], _, _, h => nomatch h
  | .inr i :: l, d :: ds, g, g', h => by rw [List.length_cons, List.length_cons, setTq_len (l := l) h]
  | .inl m :: l, d :: ds, g, g', h => by
    unfold setTq at h
    cases d with
    | tuple es =>
      dsimp only at h
      cases z : setTs m es g with
      | none => rw [z] at h; cases h
      | some g1 => rw [z] at h; rw [List.length_cons, List.length_cons, setTq_len (l := l) h]
    | _ => cases h
theorem itm_tup {K : PySem.W.Frag} {H : Hp} {pr : Bool} {v : V} {ds : List D} (h : Itm K H pr v (.tuple ds)) : ∃ a vs, v = .ref a ∧ SqT K H a vs ∧ RpAll K H vs ds := by
  cases pr with
  | false =>
    obtain ⟨a, vs, rfl, h1, r1⟩ := rp_tup h
    exact ⟨a, vs, rfl, h1.sq, r1⟩
  | true =>
    obtain ⟨T, vs, ds', rfl, e, h1, r1⟩ := h
    cases e
    exact ⟨T, vs, rfl, .inl (.inl h1), r1⟩
theorem pg_tp {pr : Bool} {l : List Nat} {es : List Expr} {k : Nat} (hc : X.calm = true) (hN : X.N.Nodup) (ok : Paired (NmOk X) es l) (hf : ∀ i ∈ l, fx i = false) : PG X (.Tuple es k pos) (tG X.K fx pr (.tp l)) := by
  obtain ⟨h1, h2⟩ := asg_len (env := X.env) (names_star ok)
  refine PG.wk (pg_tup hc (pgs_nms hN ok hf) rfl h2) fun v σ H Q ⟨g, d, g', r, it, e, q⟩ => ?_
  cases d with
  | tuple ds =>
    obtain ⟨a, vs, rfl, h3, r1⟩ := itm_tup it
    have e : setTs l ds g = some g' := e
    exact ⟨a, vs, rfl, h3, by rw [h1, r1.len, setTs_len e, paired_len ok], g, ds, g', r, r1, e, q⟩
  | _ => cases e
/-- a name, or a tuple of names -/
inductive NqOk (X : Cx) : Expr → List Nat ⊕ Nat → Prop
  | nm {e : Expr} {i : Nat} : NmOk X e i → NqOk X e (.inr i)
  | tp {es : List Expr} {l : List Nat} {k : Nat} {p : Pos} : Paired (NmOk X) es l → NqOk X (.Tuple es k p) (.inl l)
theorem nq_star {e : Expr} {i : List Nat ⊕ Nat} (h : NqOk X e i) : isStar e = false := by
  cases h with
  | nm ok => obtain ⟨x, p, rfl, _⟩ := ok; rfl
  | tp _ => rfl
theorem nqs_star {l : List (List Nat ⊕ Nat)} {es : List Expr} : Paired (NqOk X) es l → es.all (fun e => !isStar e) = true
  | .nil => rfl
  | .cons ok oks => by
    rw [List.all_cons, nqs_star oks, nq_star ok]
    rfl
theorem pgs_nqs (hc : X.calm = true) (hN : X.N.Nodup) : ∀ {l : List (List Nat ⊕ Nat)} {es : List Expr}, Paired (NqOk X) es l → (∀ i ∈ tgS (.tq l), fx i = false) → PGs X es (tGq X.K fx l)
  | [], [], .nil, _ => PGs.wk pgs_nil fun vs σ H Q ⟨g, ds, g', r, rs, e, q⟩ => by
    cases ds with
    | nil =>
      cases rs
      have e : some g = some g' := e
      cases e
      exact ⟨rfl, q σ rfl r Step.refl⟩
    | cons _ _ => exact nomatch e
  | .inr i :: l, e :: es, .cons ok oks, hf => by
    have ns := nq_star ok
    cases ok with
    | nm ok =>
    have h1 := pg_nm hN ok (hf i (by simp [tgS]))
    have h2 := pgs_nqs hc hN oks fun j m => hf j (by simp [tgS] at m ⊢; exact .inr m)
    refine PGs.wk (pgs_cons h1 h2 (by rw [asg_cons ns]; rfl)) fun vs σ H Q ⟨g, ds, g', r, rs, e, q⟩ => ?_
    cases ds with
    | nil => exact nomatch e
    | cons d ds =>
      obtain ⟨v, vs, rfl, r1, rr⟩ := rpa_cons rs
      refine ⟨v, vs, rfl, g, d, _, r, r1, rfl, fun σ1 l1 r2 s2 => ?_⟩
      exact ⟨_, ds, g', r2, rr, e, fun σ' l2 r3 s3 => q σ' (l2.trans l1) r3 (s2.trans s3)⟩
  | .inl m :: l, e :: es, .cons ok oks, hf => by
    have ns := nq_star ok
    cases ok with
    | tp ok =>
    have h1 := pg_tp (pr := false) (fx := fx) (pos := by assumption) (k := by assumption) hc hN ok (fun j mj => hf j (by simp [tgS]; exact .inl mj))
    have h2 := pgs_nqs hc hN oks fun j m => hf j (by simp [tgS] at m ⊢; exact .inr m)
    refine PGs.wk (pgs_cons h1 h2 (by rw [asg_cons ns]; rfl)) fun vs σ H Q ⟨g, ds, g', r, rs, e, q⟩ => ?_
    cases ds with
    | nil => exact nomatch e
    | cons d ds =>
      obtain ⟨v, vs, rfl, r1, rr⟩ := rpa_cons rs
      cases d with
      | tuple ts =>
        unfold setTq at e
        cases z : setTs m ts g with
        | none => rw [z] at e; cases e
        | some g1 =>
          rw [z] at e
          refine ⟨v, vs, rfl, g, _, g1, r, r1, z, fun σ1 l1 r2 s2 => ?_⟩
          exact ⟨_, ds, g', r2, rr, e, fun σ' l2 r3 s3 => q σ' (l2.trans l1) r3 (s2.trans s3)⟩
      | _ => exact nomatch e
theorem pg_tq {pr : Bool} {l : List (List Nat ⊕ Nat)} {es : List Expr} {k : Nat} (hc : X.calm = true) (hN : X.N.Nodup) (ok : Paired (NqOk X) es l) (hf : ∀ i ∈ tgS (.tq l), fx i = false) : PG X (.Tuple es k pos) (tG X.K fx pr (.tq l)) := by
  obtain ⟨h1, h2⟩ := asg_len (env := X.env) (nqs_star ok)
  refine PG.wk (pg_tup hc (pgs_nqs hc hN ok hf) rfl h2) fun v σ H Q ⟨g, d, g', r, it, e, q⟩ => ?_
  cases d with
  | tuple ds =>
    obtain ⟨a, vs, rfl, h3, r1⟩ := itm_tup it
    have e : setTq l ds g = some g' := e
    exact ⟨a, vs, rfl, h3, by rw [h1, r1.len, setTq_len e, paired_len ok], g, ds, g', r, r1, e, q⟩
  | _ => cases e
end

/-! ### a block's own names -/
theorem wipeE_len (g : Env) : ∀ vs, (wipeE g vs).length = g.length
  | [] => rfl
  | v :: vs => by unfold wipeE; rw [List.length_set, wipeE_len g vs]
theorem wipeE_some {g : Env} {i : Nat} {c : C} : ∀ {vs : List Nat}, (wipeE g vs)[i]? = some (some c) → g[i]? = some (some c) ∧ i ∉ vs
  | [], h => ⟨h, by simp⟩
  | v :: vs, h => by
    unfold wipeE at h
    rcases set_at h with ⟨_, e, _⟩ | ⟨hi, h⟩
    · cases e
    · obtain ⟨h1, h2⟩ := wipeE_some h
      exact ⟨h1, by simp only [List.mem_cons, not_or]; exact ⟨fun z => hi z.symm, h2⟩⟩
theorem wipeE_out {g : Env} {i : Nat} : ∀ {vs : List Nat}, i ∉ vs → (wipeE g vs)[i]? = g[i]?
  | [], _ => rfl
  | v :: vs, h => by
    simp only [List.mem_cons, not_or] at h
    unfold wipeE
    rw [List.getElem?_set_ne (fun z => h.1 z.symm), wipeE_out h.2]
theorem backE_len (g g' : Env) : ∀ vs, (backE vs g g').length = g'.length
  | [] => rfl
  | v :: vs => by unfold backE; rw [List.length_set, backE_len g g' vs]
theorem backE_some {g g' : Env} {i : Nat} {c : C} : ∀ {vs : List Nat}, (backE vs g g')[i]? = some (some c) → (i ∈ vs ∧ g[i]? = some (some c)) ∨ (i ∉ vs ∧ g'[i]? = some (some c))
  | [], h => .inr ⟨by simp, h⟩
  | v :: vs, h => by
    unfold backE at h
    rcases set_at h with ⟨hv, e, _⟩ | ⟨hi, h⟩
    · subst hv
      refine .inl ⟨List.mem_cons_self, ?_⟩
      cases z : g[v]? with
      | none => rw [z] at e; cases e
      | some o => rw [z] at e; rw [show o = some c from e]
    · rcases backE_some h with ⟨h1, h2⟩ | ⟨h1, h2⟩
      · exact .inl ⟨List.mem_cons_of_mem _ h1, h2⟩
      · exact .inr ⟨by simp only [List.mem_cons, not_or]; exact ⟨fun z => hi z.symm, h1⟩, h2⟩
theorem wipe_not {σ : St} {i : Nat} {v : V} {own : List Nat} (h : σ[i]? = some (some v)) (n : i ∉ own) : (wipe σ own)[i]? = some (some v) := by rw [wipe_out n]; exact h
theorem wipe_ext {a b : St} (hl : a.length = b.length) : ∀ {own : List Nat}, (∀ i, i ∉ own → a[i]? = b[i]?) → wipe a own = wipe b own := by
  intro own h
  apply List.ext_getElem?
  intro i
  by_cases m : i ∈ own
  · have k : ∀ (c : St) , i < c.length → (wipe c own)[i]? = some none := fun c hc => by
      cases z : (wipe c own)[i]? with
      | none => rw [List.getElem?_eq_none_iff, wipe_length] at z; omega
      | some o =>
        cases o with
        | none => rfl
        | some v => exact absurd m (wipe_some z).2
    by_cases hi : i < a.length
    · rw [k a hi, k b (by omega)]
    · rw [List.getElem?_eq_none (by rw [wipe_length]; omega), List.getElem?_eq_none (by rw [wipe_length]; omega)]
  · rw [wipe_out m, wipe_out m]; exact h i m
section
variable {K : PySem.W.Frag} {σ : St} {H H' : Hp} {g g1 g2 : Env} {own : List Nat} {fx : Nat → Bool}
theorem MAd.wipe {b : Addr} (m : MAd (L2.wipe σ own) (wipeE g own) H b) : ∃ (i : Nat) (c : C) (v : V), i ∉ own ∧ g[i]? = some (some c) ∧ σ[i]? = some (some v) ∧ b ∈ ow H v c := by
  obtain ⟨i, c, v, e, s, m⟩ := m
  obtain ⟨e1, n⟩ := wipeE_some e
  exact ⟨i, c, v, n, e1, (wipe_some s).1, m⟩
theorem MAd.unwipe {b : Addr} (m : MAd (L2.wipe σ own) (wipeE g own) H b) : MAd σ g H b := by
  obtain ⟨i, c, v, _, h1, h2, h3⟩ := m.wipe
  exact ⟨i, c, v, h1, h2, h3⟩
theorem RelEnv.wipe (r : RelEnv K σ H g) : RelEnv K (L2.wipe σ own) H (wipeE g own) where
  len := by rw [wipe_length, wipeE_len]; exact r.len
  val := fun i c e => by
    obtain ⟨e1, n⟩ := wipeE_some e
    obtain ⟨v, s, q⟩ := r.val i c e1
    exact ⟨v, wipe_not s n, q⟩
  sep := fun i j b c c' v v' e1 s1 m1 e2 s2 m2 => r.sep i j b c c' v v' (wipeE_some e1).1 (wipe_some s1).1 m1 (wipeE_some e2).1 (wipe_some s2).1 m2
/-- fx: all but the block's own -/
def fxo (own : List Nat) : Nat → Bool := fun i => !decide (i ∈ own)
theorem fxo_in {i : Nat} (h : i ∈ own) : fxo own i = false := by unfold fxo; simp [h]
theorem fxo_out {i : Nat} (h : i ∉ own) : fxo own i = true := by unfold fxo; simp [h]
theorem Step.wipe : Step (fxo own) σ g H (L2.wipe σ own) (wipeE g own) H where
  keep := fun _ _ e _ => e
  mad := fun b m => .inl m.unwipe
  fix := fun i h => wipe_out (by unfold fxo at h; simpa using h)
  dom := fun _ h => h
/-- behind the block -/
theorem back_env (r1 : RelEnv K σ H g1) (r2 : RelEnv K (L2.wipe σ own) H' g2) (s : Step (fxo own) (L2.wipe σ own) (wipeE g1 own) H (L2.wipe σ own) g2 H') :
    RelEnv K σ H' (backE own g1 g2) ∧ Step fx σ g1 H σ (backE own g1 g2) H' ∧ ∀ b, H b = none → ¬ MAd (L2.wipe σ own) g2 H' b → ¬ MAd σ (backE own g1 g2) H' b := by
  have rw1 : RelEnv K (L2.wipe σ own) H (wipeE g1 own) := r1.wipe
  have x : Ex H H' := s.ex rw1
  -- the block's own names, as they were
  have kk : ∀ {i : Nat} {c : C} {v : V}, i ∈ own → g1[i]? = some (some c) → σ[i]? = some (some v) → RelC K H' v c ∧ ow H' v c = ow H v c := fun {i c v} mi e sv =>
    (r1.at e sv).ex x fun b m => by
      obtain ⟨o, eo, _⟩ := (r1.at e sv).there m
      rw [eo]
      refine s.keep b o eo fun z => ?_
      obtain ⟨j, c', v', n, h1, h2, h3⟩ := z.wipe
      have := r1.sep i j b c c' v v' e sv m h1 h2 h3
      subst this
      exact n mi
  have other : ∀ {i : Nat} {c : C} {v : V}, i ∉ own → g2[i]? = some (some c) → σ[i]? = some (some v) → RelC K H' v c := fun {i c v} n e sv => r2.at e (wipe_not sv n)
  have apart : ∀ {i j : Nat} {b : Addr} {c c' : C} {v v' : V}, i ∈ own → g1[i]? = some (some c) → σ[i]? = some (some v) → b ∈ ow H' v c → j ∉ own → g2[j]? = some (some c') → σ[j]? = some (some v') → b ∈ ow H' v' c' → False := fun {i j b c c' v v'} mi e1 s1 m1 nj e2 s2 m2 => by
    rw [(kk mi e1 s1).2] at m1
    obtain ⟨o, eo, _⟩ := (r1.at e1 s1).there m1
    rcases s.mad b ⟨j, c', v', e2, wipe_not s2 nj, m2⟩ with z | z
    · obtain ⟨k, c0, v0, nk, h1, h2, h3⟩ := z.wipe
      have := r1.sep i k b c c0 v v0 e1 s1 m1 h1 h2 h3
      subst this
      exact nk mi
    · rw [eo] at z; cases z
  refine ⟨⟨by rw [backE_len]; have := r2.len; rw [wipe_length] at this; exact this, fun i c e => ?_, fun i j b c c' v v' e1 s1 m1 e2 s2 m2 => ?_⟩, ⟨fun b o eo n => s.keep b o eo fun z => n z.unwipe, fun b ⟨i, c, v, e, sv, m⟩ => ?_, fun _ _ => rfl, s.dom⟩, fun b hb n ⟨i, c, v, e, sv, m⟩ => ?_⟩
  · rcases backE_some e with ⟨mi, e⟩ | ⟨ni, e⟩
    · obtain ⟨v, sv, _⟩ := r1.val i c e
      exact ⟨v, sv, (kk mi e sv).1⟩
    · obtain ⟨v, sv, q⟩ := r2.val i c e
      exact ⟨v, (wipe_some sv).1, q⟩
  · rcases backE_some e1 with ⟨mi, e1⟩ | ⟨ni, e1⟩
    · rcases backE_some e2 with ⟨mj, e2⟩ | ⟨nj, e2⟩
      · rw [(kk mi e1 s1).2] at m1
        rw [(kk mj e2 s2).2] at m2
        exact r1.sep i j b c c' v v' e1 s1 m1 e2 s2 m2
      · exact (apart mi e1 s1 m1 nj e2 s2 m2).elim
    · rcases backE_some e2 with ⟨mj, e2⟩ | ⟨nj, e2⟩
      · exact (apart mj e2 s2 m2 ni e1 s1 m1).elim
      · exact r2.sep i j b c c' v v' e1 (wipe_not s1 ni) m1 e2 (wipe_not s2 nj) m2
  · rcases backE_some e with ⟨mi, e⟩ | ⟨ni, e⟩
    · rw [(kk mi e sv).2] at m
      exact .inl ⟨i, c, v, e, sv, m⟩
    · exact (s.mad b ⟨i, c, v, e, wipe_not sv ni, m⟩).imp (fun z => z.unwipe) id
  · rcases backE_some e with ⟨mi, e⟩ | ⟨ni, e⟩
    · rw [(kk mi e sv).2] at m
      obtain ⟨o, eo, _⟩ := (r1.at e sv).there m
      rw [hb] at eo; cases eo
    · exact n ⟨i, c, v, e, wipe_not sv ni, m⟩
/-- a new object of ours is written -/
theorem own_upd {σ' : St} {g' : Env} {H1 : Hp} {p : Addr} {vs ws : List V} (r : RelEnv K σ' H1 g') (s : Step fx σ g H σ' g' H1) (hn : H p = none) (hp : H1 p = some (.lst vs)) (hm : ¬ MAd σ' g' H1 p) :
    RelEnv K σ' (upd H1 p (.lst ws)) g' ∧ Step fx σ g H σ' g' (upd H1 p (.lst ws)) ∧ ¬ MAd σ' g' (upd H1 p (.lst ws)) p ∧ Ex H1 (upd H1 p (.lst ws)) := by
  have x : Ex H1 (upd H1 p (.lst ws)) := Ex.put hp rfl
  obtain ⟨r2, m2⟩ := r.but (H' := upd H1 p (.lst ws)) x (fun b mb => upd_ne fun z => hm (by subst z; exact mb))
  refine ⟨r2, ⟨fun b u e n => ?_, fun b mb => s.mad b ((m2 b).mp mb), s.fix, fun b hb => s.dom b ?_⟩, fun m => hm ((m2 p).mp m), x⟩
  · rw [upd_ne]
    · exact s.keep b u e n
    · intro z; subst z; rw [hn] at e; cases e
  · by_cases z : b = p
    · subst z; rw [upd_same] at hb; cases hb
    · rw [upd_ne z] at hb; exact hb
end
end PL
/-! PLl: comprehensions -/
namespace PL
open PySem PySem.Spec PyProof.Rows L2

theorem bind_ok {α β : Type} {r : R α} {k : α → Env → R β} {b : β} {g : Env} (h : r.bind k = .ok b g) : ∃ a g1, r = .ok a g1 ∧ k a g1 = .ok b g := by
  cases r with
  | ok a g1 => exact ⟨a, g1, rfl, h⟩
  | exc c g1 => cases h
  | no => cases h
theorem calm_ok {α : Type} {r : R α} {a : α} {g : Env} (h : r.calm = .ok a g) : r = .ok a g := by
  cases r with
  | ok a g1 => exact h
  | exc c g1 => cases h
  | no => cases h
theorem calm_bind_noexc {α β : Type} {r : R α} {k : α → Env → R β} (n : ∀ a g1 c g, k a g1 ≠ .exc c g) : ∀ c g, r.calm.bind k ≠ .exc c g := by
  intro c g
  cases r with
  | ok a g1 => exact n a g1 c g
  | exc c g1 => exact fun h => nomatch h
  | no => exact fun h => nomatch h
theorem bind_noexc {α β : Type} {r : R α} {k : α → Env → R β} (m : ∀ c g, r ≠ .exc c g) (n : ∀ a g1 c g, k a g1 ≠ .exc c g) : ∀ c g, r.bind k ≠ .exc c g := by
  intro c g
  cases r with
  | ok a g1 => exact n a g1 c g
  | exc c g1 => exact fun _ => m _ _ rfl
  | no => exact fun h => nomatch h
theorem compL_noexc {own : List Nat} {tg : Tg} {mt : M Bool} {me : M D} : ∀ {ds : List D} {g : Env} (c : Str) (g' : Env), compL own tg mt me ds g ≠ .exc c g'
  | [], g, c, g' => fun h => nomatch h
  | d :: ds, g, c, g' => by
    unfold compL
    split
    · exact fun h => nomatch h
    · refine calm_bind_noexc (fun b g2 c g => ?_) c g'
      split
      · refine calm_bind_noexc (fun x g3 c g => ?_) c g
        exact bind_noexc (fun c g => compL_noexc c g) (fun _ _ _ _ h => by cases h) c g
      · exact compL_noexc c g
/-- a run that lets nothing out -/
theorem Run.calm_of {K : PySem.W.Frag} {mg : Str → Option Value} {fx : Nat → Bool} {W : WX} {α β : Type} {r : R α} {k : α → Env → R β} {σ : St} {g : Env} {H : Hp} {P : β → Env → Prop} (n : ∀ c g, r ≠ .exc c g) (h : Run K mg fx W (r.bind k) σ g H P) :
    ∃ a g1, r = .ok a g1 ∧ Run K mg fx W (k a g1) σ g H P := by
  cases r with
  | ok a g1 => exact ⟨a, g1, rfl, h⟩
  | exc c g1 => exact absurd rfl (n c g1)
  | no => exact h.elim
/-- nothing may come out of a block -/
def W0 : WX := fun _ _ _ _ => False
theorem run_ok {K : PySem.W.Frag} {mg : Str → Option Value} {fx : Nat → Bool} {W : WX} {α : Type} {r : R α} {a : α} {g1 : Env} {σ : St} {g : Env} {H : Hp} {P : α → Env → Prop} (e : r = .ok a g1) (h : P a g1) : Run K mg fx W r σ g H P := by rw [e]; exact h

section
variable {X : Cx} {fx : Nat → Bool} {W : WX} {elt tge iter : Expr} {ifs : List Expr} {scope : Scope} {pos : Pos} {pr : Bool} {mi : M (List D)} {mt : M Bool} {me : M D} {tg : Tg}
theorem mts_nil {fx : Nat → Bool} {W : WX} : PTs X [] (tT X.K X.mg fx W fun g => .ok true g) := by
  refine ⟨fun pins s σ H Q I ⟨g, r, h⟩ => ?_⟩
  exact pts_nil.run pins s σ H Q I (h true H r Step.refl rfl)
/-- what stands behind [elt for .. in .. if ..] -/
theorem lc_wk {vs : List Nat} {σ : St} {H : Hp} {Q : VK} (h : tF X.K X.mg fx W (fun g => (mi g).bind fun ds g1 => (compL vs tg mt me ds (wipeE g1 vs)).bind fun xs g2 => if xs.length ≤ sizeLine then .ok xs (backE vs g1 g2) else .no) σ H Q) :
    tLc (tI X.K X.mg fx W pr mi) (tG X.K (fxo vs) pr tg) (tT X.K X.mg (fxo vs) W0 mt) (tE X.K X.mg (fxo vs) W0 me) vs σ H Q := by
  obtain ⟨g, r, h⟩ := h
  refine ⟨g, r, h.bind.mono fun ds g1 z J H1 P r1 s1 hP hW D hD => ?_⟩
  obtain ⟨xs, g2, ec, h2⟩ := (z H1 r1 s1).calm_of compL_noexc
  obtain ⟨zl, fin⟩ := h2.ifp
  have rw0 : RelEnv X.K (wipe σ vs) H1 (wipeE g1 vs) := r1.wipe
  have gn : Grow H1 (upd H1 D (.lst [])) := Grow.new hD
  refine ⟨fun i m H' => m = ds.length - i ∧ i ≤ ds.length ∧ P H' ∧ ∃ gw av ad, RelEnv X.K (wipe σ vs) H' gw ∧ Step (fxo vs) (wipe σ vs) (wipeE g1 vs) H1 (wipe σ vs) gw H' ∧ H' D = some (.lst av) ∧ ¬ MAd (wipe σ vs) gw H' D ∧ RpAll X.K H' av ad ∧
    ∃ rest, compL vs tg mt me (ds.drop i) gw = .ok rest g2 ∧ ad ++ rest = xs, ⟨ds.length, rfl, Nat.zero_le _, hW.keep _ _ gn.ex hP, wipeE g1 vs, [], [], rw0.new hD, rw0.grow gn, upd_same, fun m => ?_, .nil, xs, ec, rfl⟩, ?_⟩
  · obtain ⟨o, e, _⟩ := rw0.mad (((rw0.ex gn).2 D).mp m)
    rw [hD] at e; cases e
  · rintro i m H' ⟨rfl, hi', hP', gw, av, ad, rw', sw, hDv, nD, ra, rest, ec', exs⟩
    by_cases hlt : i < ds.length
    · -- a turn
      obtain ⟨d, ed⟩ : ∃ d, ds[i]? = some d := ⟨ds[i], List.getElem?_eq_getElem hlt⟩
      have edr : ds.drop i = d :: ds.drop (i + 1) := by
        rw [List.drop_eq_getElem_cons hlt]
        rw [List.getElem?_eq_getElem hlt] at ed
        cases ed; rfl
      rw [edr] at ec'
      unfold compL at ec'
      cases eg : setTg tg d gw with
      | none => simp only [eg] at ec'; cases ec'
      | some ga =>
        simp only [eg] at ec'
        obtain ⟨b, gb, eb, ec'⟩ := bind_ok ec'
        have eb := calm_ok eb
        refine .inr ⟨hW.go i H' d hP' ed, fun H2 => P H2 ∧ ∃ gw av ad, RelEnv X.K (wipe σ vs) H2 gw ∧ Step (fxo vs) (wipe σ vs) (wipeE g1 vs) H1 (wipe σ vs) gw H2 ∧ H2 D = some (.lst av) ∧ ¬ MAd (wipe σ vs) gw H2 D ∧ RpAll X.K H2 av ad ∧
          ∃ rest, compL vs tg mt me (ds.drop (i + 1)) gw = .ok rest g2 ∧ ad ++ rest = xs, fun H2 ⟨q1, q2⟩ => ⟨ds.length - (i + 1), by omega, rfl, hlt, q1, q2⟩, fun x H2 hy => ?_⟩
        obtain ⟨gr, it⟩ := hW.yld i H' d x H2 hP' ed hy
        have r2 := (rw'.ex gr)
        have s2 := sw.trans (rw'.grow gr)
        refine ⟨gw, d, ga, r2.1, it, eg, fun σ2 l2 r3 s3 => ⟨?_, ?_⟩⟩
        · have e0 : wipe (wipe σ vs) vs = wipe σ vs := wipe_ext (wipe_length _ _) fun j hj => by rw [wipe_out hj]
          refine (wipe_ext (b := σ) (l2.trans (wipe_length _ _)) fun j hj => ?_)
          rw [s3.fix j (fxo_out hj), wipe_out hj]
        · have hw2 : wipe σ2 vs = wipe σ vs := wipe_ext (b := σ) (l2.trans (wipe_length _ _)) fun j hj => by rw [s3.fix j (fxo_out hj), wipe_out hj]
          refine tX.one r3 (run_ok eb fun b' H3 r4 s4 eb' => ?_)
          subst eb'
          have back : ∀ {H4 : Hp} {gc : Env}, RelEnv X.K σ2 H4 gc → Step (fxo vs) σ2 ga H2 σ2 gc H4 → RelEnv X.K (wipe σ vs) H4 (wipeE gc vs) ∧ Step (fxo vs) (wipe σ vs) (wipeE g1 vs) H1 (wipe σ vs) (wipeE gc vs) H4 ∧ H4 D = some (.lst av) ∧ ¬ MAd (wipe σ vs) (wipeE gc vs) H4 D := fun {H4 gc} r5 s5 => by
            have s6 : Step (fxo vs) (wipe σ vs) (wipeE g1 vs) H1 (wipe σ vs) (wipeE gc vs) H4 := by
              have := ((s2.trans s3).trans s5).trans (Step.wipe (own := vs))
              rw [hw2] at this; exact this
            have nD2 : ¬ MAd (wipe σ vs) gw H2 D := fun m => nD ((r2.2 D).mp m)
            have hD2 : H2 D = some (.lst av) := gr D _ hDv
            have nDa : ¬ MAd σ2 ga H2 D := fun m => (s3.mad D m).elim nD2 (fun z => by rw [hD2] at z; cases z)
            have nDc : ¬ MAd σ2 gc H4 D := fun m => (s5.mad D m).elim nDa (fun z => by rw [hD2] at z; cases z)
            refine ⟨by have := r5.wipe (own := vs); rw [hw2] at this; exact this, s6, s5.keep D _ hD2 nDa, fun m => nDc (MAd.unwipe (own := vs) (by rw [hw2]; exact m))⟩
          have exk : ∀ {H4 : Hp} {gc : Env}, Step (fxo vs) σ2 ga H2 σ2 gc H4 → Ex H' H4 := fun {H4 gc} s5 b o e i => s5.ex r3 b o (gr b o e) i
          cases b' with
          | false =>
            simp only [Bool.false_eq_true, if_false] at ec' ⊢
            obtain ⟨k1, k2, k3, k4⟩ := back r4 s4
            exact ⟨hW.keep _ _ (exk s4) hP', _, av, ad, k1, k2, k3, k4, ra.ex (exk s4), rest, ec', exs⟩
          | true =>
            simp only [if_true] at ec' ⊢
            obtain ⟨y, gc, ey, ec'⟩ := bind_ok ec'
            have ey := calm_ok ey
            obtain ⟨rest', gd, er, ec'⟩ := bind_ok ec'
            cases ec'
            refine tX.one r4 (run_ok ey fun yv H4 r5 s5 py => ?_)
            obtain ⟨k1, k2, k3, k4⟩ := back r5 (s4.trans s5)
            have hl : ad.length < sizeLine := by
              have : (ad ++ y :: rest').length = xs.length := by rw [exs]
              rw [List.length_append, List.length_cons] at this
              omega
            refine ⟨av, k3, by rw [ra.len]; exact hl, ?_⟩
            obtain ⟨q1, q2, q3, q4⟩ := own_upd (ws := av ++ [yv]) k1 k2 hD k3 k4
            refine ⟨hW.keep _ _ (fun b o e i => q4 b o (exk (s4.trans s5) b o e i) i) hP', _, av ++ [yv], ad ++ [y], q1, q2, upd_same, q3, ((ra.ex (exk (s4.trans s5))).append (.cons py .nil)).ex q4, rest', er, by rw [List.append_assoc]; exact exs⟩
    · -- the end
      have ei : i = ds.length := by omega
      subst ei
      rw [List.drop_length] at ec'
      have ec' : R.ok ([] : List PyData) gw = .ok rest g2 := ec'
      cases ec'
      rw [List.append_nil] at exs
      subst exs
      obtain ⟨b1, b2, b3⟩ := back_env (fx := fx) r1 rw' sw
      exact .inl ⟨hW.stop _ H' hP' rfl, fin _ H' b1 (s1.trans b2) ⟨D, av, rfl, hDv, ra, .inl (s1.dom D hD), b3 D hD nD⟩⟩
/-- [elt for .. in .. if ..] -/
theorem mf_comp {own : List (Str × Nat)} (hc : X.calm = true) (hN : X.N.Nodup) (hi : PI X tge iter (tI X.K X.mg fx W pr mi)) (ok : BlkOk X.N X.env.scope scope own)
    (hg : ∀ (s : Shared) (H : Hp) (C : Addr) (cl : List (Str × Addr)) (fp : List Addr), PG (X.blk s H scope (compEnvC scope cl C X.env) fp) tge (tG X.K (fxo (own.map (·.2))) pr tg))
    (ht : ∀ (s : Shared) (H : Hp) (C : Addr) (cl : List (Str × Addr)) (fp : List Addr), PTs (X.blk s H scope (compEnvC scope cl C X.env) fp) ifs (tT X.K X.mg (fxo (own.map (·.2))) W0 mt))
    (he : ∀ (s : Shared) (H : Hp) (C : Addr) (cl : List (Str × Addr)) (fp : List Addr), PE (X.blk s H scope (compEnvC scope cl C X.env) fp) elt (tE X.K X.mg (fxo (own.map (·.2))) W0 me)) (hs : ∀ x, foldedSetIterable iter X.env x = pure x) :
    PE X (.ListComp elt [⟨tge, iter, ifs, 0⟩] scope pos) (tF X.K X.mg fx W fun g => (mi g).bind fun ds g1 => (compL (own.map (·.2)) tg mt me ds (wipeE g1 (own.map (·.2)))).bind fun xs g2 => if xs.length ≤ sizeLine then .ok xs (backE (own.map (·.2)) g1 g2) else .no) :=
  PE.wk (pe_lc hc hN hi ok hg ht he hs) fun σ H Q h => lc_wk h
/-- name = [..] on one line -/
theorem mf_setcomp {own : List (Str × Nat)} {i : Nat} {y : Str} {py spos : Pos} (hy : X.N[i]? = some y) (hyl : X.env.scope.names.lookup y = some .local)
    (hsw : swapsWith (.ListComp elt [⟨tge, iter, ifs, 0⟩] scope pos) (some (.Name y py)) spos.line X.env = pure true) (hc : X.calm = true) (hN : X.N.Nodup) (hi : PI X tge iter (tI X.K X.mg fx W pr mi)) (ok : BlkOk X.N X.env.scope scope own)
    (hg : ∀ (s : Shared) (H : Hp) (C : Addr) (cl : List (Str × Addr)) (fp : List Addr), PG (X.blk s H scope (compEnvC scope cl C X.env) fp) tge (tG X.K (fxo (own.map (·.2))) pr tg))
    (ht : ∀ (s : Shared) (H : Hp) (C : Addr) (cl : List (Str × Addr)) (fp : List Addr), PTs (X.blk s H scope (compEnvC scope cl C X.env) fp) ifs (tT X.K X.mg (fxo (own.map (·.2))) W0 mt))
    (he : ∀ (s : Shared) (H : Hp) (C : Addr) (cl : List (Str × Addr)) (fp : List Addr), PE (X.blk s H scope (compEnvC scope cl C X.env) fp) elt (tE X.K X.mg (fxo (own.map (·.2))) W0 me)) (hs : ∀ x, foldedSetIterable iter X.env x = pure x) :
    PS X (.Assign [.Name y py] (.ListComp elt [⟨tge, iter, ifs, 0⟩] scope pos) spos) (tAsg (tF X.K X.mg fx W fun g => (mi g).bind fun ds g1 => (compL (own.map (·.2)) tg mt me ds (wipeE g1 (own.map (·.2)))).bind fun xs g2 => if xs.length ≤ sizeLine then .ok xs (backE (own.map (·.2)) g1 g2) else .no) (gName i)) :=
  PS.wk (ps_setLc hc hN hy hyl hsw hi ok hg ht he hs) fun D σ H h => lc_wk h
end
end PL
/-! PLm: statements -/
namespace PL
open PySem PySem.Spec PyProof.Rows L2

/-! ### what a statement does -/
inductive RS where
  | nx (g : Env)
  | rt (c : C) (g : Env)
  | bk (g : Env)
  | ct (g : Env)
  | exc (c : Str) (g : Env)
  | no
abbrev MS := Env → RS
def RS.bind : RS → MS → RS
  | .nx g, k => k g
  | r, _ => r
@[simp] theorem RS.bind_nx (g : Env) (k : MS) : (RS.nx g).bind k = k g := rfl
@[simp] theorem RS.bind_rt (c : C) (g : Env) (k : MS) : (RS.rt c g).bind k = .rt c g := rfl
@[simp] theorem RS.bind_bk (g : Env) (k : MS) : (RS.bk g).bind k = .bk g := rfl
@[simp] theorem RS.bind_ct (g : Env) (k : MS) : (RS.ct g).bind k = .ct g := rfl
@[simp] theorem RS.bind_exc (c : Str) (g : Env) (k : MS) : (RS.exc c g).bind k = .exc c g := rfl
@[simp] theorem RS.bind_no (k : MS) : RS.no.bind k = .no := rfl
/-- behind an expression -/
def R.andS {α : Type} : R α → (α → MS) → RS
  | .ok a g, k => k a g
  | .exc c g, _ => .exc c g
  | .no, _ => .no
@[simp] theorem R.andS_ok {α : Type} (a : α) (g : Env) (k : α → MS) : (R.ok a g).andS k = k a g := rfl
@[simp] theorem R.andS_exc {α : Type} (c : Str) (g : Env) (k : α → MS) : (R.exc c g : R α).andS k = .exc c g := rfl
@[simp] theorem R.andS_no {α : Type} (k : α → MS) : (R.no : R α).andS k = .no := rfl
def setCs : List Nat → List C → Env → Option Env
  | [], [], g => some g
  | i :: r, c :: cs, g => setCs r cs (g.set i (some c))
  | _, _, _ => none
def forL (tg : Tg) (body : MS) : List D → MS
  | [], g => .nx g
  | d :: ds, g => match setTg tg d g with
    | none => .no
    | some g1 => match body g1 with
      | .nx g2 => forL tg body ds g2
      | .ct g2 => forL tg body ds g2
      | .bk g2 => .nx g2
      | r => r
def whileL (c : M Bool) (body : MS) : Nat → MS
  | 0, _ => .no
  | n + 1, g => (c g).andS fun b g1 => if b then (match body g1 with
      | .nx g2 => whileL c body n g2
      | .ct g2 => whileL c body n g2
      | .bk g2 => .nx g2
      | r => r) else .nx g1

/-! ### what a statement's run asks -/
def RunS (K : PySem.W.Frag) (mg : Str → Option Value) (fx : Nat → Bool) (W : WX) (r : RS) (D : Ends) (σ : St) (g : Env) (H : Hp) : Prop :=
  match r with
  | .nx g' => ∀ σ' H', RelEnv K σ' H' g' → Step fx σ g H σ' g' H' → D.nx σ' H'
  | .rt c g' => ∀ v σ' H', RelEnv K σ' H' g' → Step fx σ g H σ' g' H' → ResC K H σ g σ' g' H' v c → D.rt v H'
  | .bk g' => ∀ σ' H', RelEnv K σ' H' g' → Step fx σ g H σ' g' H' → D.bk σ' H'
  | .ct g' => ∀ σ' H', RelEnv K σ' H' g' → Step fx σ g H σ' g' H' → D.ct σ' H'
  | .exc c g' => ∀ C σ' H', mg c = some (.ref C) → RelEnv K σ' H' g' → Step fx σ g H σ' g' H' → W (.ref C) none σ' H'
  | .no => False
def tS (K : PySem.W.Frag) (mg : Str → Option Value) (fx : Nat → Bool) (W : WX) (m : MS) : TS := fun D σ H => ∃ g, RelEnv K σ H g ∧ RunS K mg fx W (m g) D σ g H
theorem ResC.later {K : PySem.W.Frag} {fx : Nat → Bool} {H H1 H' : Hp} {σ σ1 σ' : St} {g g1 g' : Env} {v : V} {c : C} (h : ResC K H1 σ1 g1 σ' g' H' v c) (s : Step fx σ g H σ1 g1 H1) : ResC K H σ g σ' g' H' v c := by
  cases c with
  | ml ds =>
    obtain ⟨a, vs, e1, e2, e3, e4, e5⟩ := h
    exact ⟨a, vs, e1, e2, e3, e4.elim (fun z => .inl (s.dom a z)) (fun z => (s.mad a z).symm), e5⟩
  | _ => exact h
section
variable {K : PySem.W.Frag} {mg : Str → Option Value} {fx : Nat → Bool} {W : WX}
theorem RunS.later {r : RS} {D : Ends} {σ σ1 : St} {g g1 : Env} {H H1 : Hp} (h : RunS K mg fx W r D σ g H) (s : Step fx σ g H σ1 g1 H1) : RunS K mg fx W r D σ1 g1 H1 := by
  cases r with
  | nx g' => exact fun σ' H' r1 s1 => h σ' H' r1 (s.trans s1)
  | rt c g' => exact fun v σ' H' r1 s1 q => h v σ' H' r1 (s.trans s1) (q.later s)
  | bk g' => exact fun σ' H' r1 s1 => h σ' H' r1 (s.trans s1)
  | ct g' => exact fun σ' H' r1 s1 => h σ' H' r1 (s.trans s1)
  | exc c g' => exact fun C σ' H' e r1 s1 => h C σ' H' e r1 (s.trans s1)
  | no => exact h
/-- an expression ahead -/
theorem RunS.andS {α : Type} {r : R α} {k : α → MS} {D : Ends} {σ : St} {g : Env} {H : Hp} (h : RunS K mg fx W (r.andS k) D σ g H) :
    Run K mg fx W r σ g H fun a g' => ∀ σ' H', RelEnv K σ' H' g' → Step fx σ g H σ' g' H' → RunS K mg fx W (k a g') D σ' g' H' := by
  cases r with
  | ok a g' => exact fun σ' H' _ s => RunS.later (g := g) (H := H) h s
  | exc c g' => exact fun C H' e r1 s1 => h C σ H' e r1 s1
  | no => exact h
theorem tX.stm {α β : Type} {Rl : St → Hp → Env → Hp → Env → β → α → Prop} {m : M α} {k : α → MS} {σ : St} {H : Hp} {g : Env} {D : Ends} {Q : β → Hp → Prop} (r : RelEnv K σ H g)
    (h : RunS K mg fx W ((m g).andS k) D σ g H) (n : ∀ a g' b H', RelEnv K σ H' g' → Step fx σ g H σ g' H' → Rl σ H g H' g' b a → RunS K mg fx W (k a g') D σ g' H' → Q b H') : tX K mg fx W Rl m σ H Q :=
  ⟨g, r, h.andS.mono fun a g' z b H' r' s' q => n a g' b H' r' s' q (z σ H' r' s')⟩
theorem RunS.ifp {c : Prop} [Decidable c] {r : RS} {D : Ends} {σ : St} {g : Env} {H : Hp} (h : RunS K mg fx W (if c then r else .no) D σ g H) : c ∧ RunS K mg fx W r D σ g H := by
  by_cases e : c
  · rw [if_pos e] at h; exact ⟨e, h⟩
  · rw [if_neg e] at h; exact h.elim
theorem RunS.lft {α : Type} {o : Option α} {k : α → MS} {D : Ends} {σ : St} {g : Env} {H : Hp} (h : RunS K mg fx W ((PL.lft o g).andS k) D σ g H) : ∃ a, o = some a ∧ RunS K mg fx W (k a g) D σ g H := by
  cases o with
  | some a => exact ⟨a, rfl, h⟩
  | none => exact h.elim
/-- a result is put into a slot -/
theorem put_res {σ σ1 : St} {g g1 : Env} {H H1 : Hp} {i : Nat} {v : V} {c : C} (r : RelEnv K σ1 H1 g1) (s : Step fx σ g H σ1 g1 H1) (h : ResC K H σ g σ1 g1 H1 v c) (f : fx i = false) :
    RelEnv K (σ1.set i (some v)) H1 (g1.set i (some c)) ∧ Step fx σ g H (σ1.set i (some v)) (g1.set i (some c)) H1 := by
  have hc : RelC K H1 v c ∧ ∀ b ∈ ow H1 v c, (H b = none ∨ MAd σ g H b) ∧ ¬ MAd σ1 g1 H1 b := by
    cases c with
    | pu d => exact ⟨h, fun b m => nomatch m⟩
    | ml ds =>
      obtain ⟨a, vs, rfl, e2, e3, e4, e5⟩ := h
      refine ⟨⟨a, vs, rfl, e2, e3⟩, fun b m => ?_⟩
      have : b = a := by simpa [ow, vRef] using m
      subst this
      exact ⟨e4, e5⟩
    | _ => exact h.elim
  refine ⟨r.put hc.1 fun b m => (hc.2 b m).2, ⟨s.keep, fun b ⟨j, c', w, e, sv, m⟩ => ?_, fun j hj => ?_, s.dom⟩⟩
  · rcases set_at e with ⟨rfl, e, hl⟩ | ⟨hj, e⟩
    · cases e
      rw [List.getElem?_set_self (by rw [r.len]; exact hl)] at sv
      cases sv
      exact (hc.2 b m).1.symm
    · rw [List.getElem?_set_ne hj] at sv
      exact s.mad b ⟨j, c', w, e, sv, m⟩
  · rw [List.getElem?_set_ne, s.fix j hj]
    intro z; subst z; rw [f] at hj; cases hj
end

section
variable {X : Cx} {fx : Nat → Bool} {W : WX} {pos : Pos} {st : Stmt} {rest : List Stmt} {m m2 mb : MS} {e a b : Expr} {me ma : M D} {mf : M (List D)}
/-! ### blocks -/
theorem ss_nil : PSs X [] (tS X.K X.mg fx W .nx) := PSs.wk pss_nil fun D σ H ⟨g, r, h⟩ => h σ H r Step.refl
theorem ss_cons (h1 : PS X st (tS X.K X.mg fx W m)) (h2 : PSs X rest (tS X.K X.mg fx W m2)) : PSs X (st :: rest) (tS X.K X.mg fx W fun g => (m g).bind m2) := by
  refine PSs.wk (pss_cons h1 h2) fun D σ H ⟨g, r, h⟩ => ⟨g, r, ?_⟩
  dsimp only at h
  cases em : m g with
  | nx g' =>
    rw [em] at h
    exact fun σ' H' r1 s1 => ⟨g', r1, RunS.later (r := m2 g') h s1⟩
  | rt c g' => rw [em] at h; exact h
  | bk g' => rw [em] at h; exact h
  | ct g' => rw [em] at h; exact h
  | exc c g' => rw [em] at h; exact h
  | no => rw [em] at h; exact h
theorem s_pass : PS X (.Pass pos) (tS X.K X.mg fx W .nx) := PS.wk ps_pass fun D σ H ⟨g, r, h⟩ => h σ H r Step.refl
theorem s_break : PS X (.Break pos) (tS X.K X.mg fx W .bk) := PS.wk ps_break fun D σ H ⟨g, r, h⟩ => h σ H r Step.refl
theorem s_continue : PS X (.Continue pos) (tS X.K X.mg fx W .ct) := PS.wk ps_continue fun D σ H ⟨g, r, h⟩ => h σ H r Step.refl
theorem s_expr (he : PE X e (tE X.K X.mg fx W me)) (hs : swapsWith e none pos.line X.env = pure false) : PS X (.Expr e pos) (tS X.K X.mg fx W fun g => (me g).andS fun _ g1 => .nx g1) :=
  PS.wk (ps_expr he hs) fun D σ H ⟨g, r, h⟩ => tX.stm r h fun d g1 v H1 r1 s1 p1 h1 => h1 σ H1 r1 Step.refl
theorem s_ret (he : PE X e (tE X.K X.mg fx W me)) : PS X (.Return (some e) pos) (tS X.K X.mg fx W fun g => (me g).andS fun d g1 => .rt (.pu d) g1) :=
  PS.wk (ps_ret he) fun D σ H ⟨g, r, h⟩ => tX.stm r h fun d g1 v H1 r1 s1 p1 h1 => h1 v σ H1 r1 Step.refl p1
theorem s_retF (he : PE X e (tF X.K X.mg fx W mf)) : PS X (.Return (some e) pos) (tS X.K X.mg fx W fun g => (mf g).andS fun ds g1 => .rt (.ml ds) g1) := by
  refine PS.wk (ps_ret he) fun D σ H ⟨g, r, h⟩ => ?_
  dsimp only at h
  cases em : mf g with
  | ok ds g1 =>
    rw [em] at h
    exact ⟨g, r, run_ok em fun v H1 r1 s1 p1 => h v σ H1 r1 s1 p1⟩
  | exc c g1 =>
    rw [em] at h
    refine ⟨g, r, ?_⟩
    rw [em]
    exact fun C H' e r1 s1 => h C σ H' e r1 s1
  | no => rw [em] at h; exact h.elim
theorem s_retN : PS X (.Return none pos) (tS X.K X.mg fx W fun g => .rt (.pu .none) g) := PS.wk ps_retN fun D σ H ⟨g, r, h⟩ => h .non σ H r Step.refl .non
/-- a slot forgotten -/
theorem RelEnv.drop {K : PySem.W.Frag} {σ : St} {H : Hp} {g : Env} (r : RelEnv K σ H g) (i : Nat) : RelEnv K σ H (g.set i none) ∧ ∀ b, MAd σ (g.set i none) H b → MAd σ g H b := by
  have k : ∀ {j : Nat} {c : C}, (g.set i none)[j]? = some (some c) → i ≠ j ∧ g[j]? = some (some c) := fun {j c} e => by
    rcases set_at e with ⟨_, e, _⟩ | ⟨hj, e⟩
    · cases e
    · exact ⟨hj, e⟩
  exact ⟨⟨by rw [List.length_set]; exact r.len, fun j c e => r.val j c (k e).2, fun j j' b c c' v v' e1 s1 m1 e2 s2 m2 => r.sep j j' b c c' v v' (k e1).2 s1 m1 (k e2).2 s2 m2⟩, fun b ⟨j, c, v, e, s, m⟩ => ⟨j, c, v, (k e).2, s, m⟩⟩
theorem s_retS {i : Nat} (he : PE X e (tVar i)) : PS X (.Return (some e) pos) (tS X.K X.mg fx W fun g => match g[i]? with
    | some (some (.ml ds)) => .rt (.ml ds) (g.set i none)
    | _ => .no) := by
  refine PS.wk (ps_ret he) fun D σ H ⟨g, r, h⟩ => ?_
  dsimp only at h
  split at h
  · rename_i ds eg
    obtain ⟨v, hv, _⟩ := r.val i _ eg
    obtain ⟨p, vs, rfl, hp, rr⟩ := slot_of r hv eg
    obtain ⟨r1, m1⟩ := r.drop i
    have mp : MAd σ g H p := ⟨i, _, _, eg, hv, by simp [ow, vRef]⟩
    refine ⟨_, hv, h _ σ H r1 ⟨fun _ _ e _ => e, fun b m => .inl (m1 b m), fun _ _ => rfl, fun _ h => h⟩ ⟨p, vs, rfl, hp, rr, .inr mp, fun ⟨j, c, v, e, s, m⟩ => ?_⟩⟩
    rcases set_at e with ⟨_, e, _⟩ | ⟨hj, e⟩
    · cases e
    · exact hj (r.sep i j p _ c _ v eg hv (by simp [ow, vRef]) e s m)
  · exact h.elim
theorem s_if {c : Expr} {x y : List Stmt} {mt : M Bool} (hc : PT X c (tT X.K X.mg fx W mt)) (ha : PSs X x (tS X.K X.mg fx W m)) (hb : PSs X y (tS X.K X.mg fx W m2)) :
    PS X (.If c x y pos) (tS X.K X.mg fx W fun g => (mt g).andS fun b g1 => if b then m g1 else m2 g1) := by
  refine PS.wk (ps_if hc ha hb) fun D σ H ⟨g, r, h⟩ => ?_
  refine tX.stm r h fun b g1 v H1 r1 s1 p1 h1 => ?_
  subst p1
  cases v with
  | true => exact ⟨g1, r1, h1⟩
  | false => exact ⟨g1, r1, h1⟩
/-! ### names are set -/
theorem s_set {i : Nat} {x : Str} {p : Pos} (hN : X.N.Nodup) (hi : X.N[i]? = some x) (hx : Loc X.env.scope x) (hf : X.fn x = true ∨ X.env.scope.names.lookup x = some .local) (hx' : fx i = false) (he : PE X e (tE X.K X.mg fx W me)) (hs : swapsWith e (some (.Name x p)) pos.line X.env = pure false) :
    PS X (.Assign [.Name x p] e pos) (tS X.K X.mg fx W fun g => (me g).andS fun d g1 => .nx (g1.set i (some (.pu d)))) :=
  PS.wk (ps_set hN hi hx he hs hf) fun D σ H ⟨g, r, h⟩ => tX.stm r h fun d g1 v H1 r1 s1 p1 h1 =>
    let ⟨r2, s2⟩ := put_pu r1 p1 hx'
    h1 _ H1 r2 s2
theorem setF_wk {i : Nat} {D : Ends} {σ : St} {H : Hp} (hx' : fx i = false) (h : tS X.K X.mg fx W (fun g => (mf g).andS fun ds g1 => .nx (g1.set i (some (.ml ds)))) D σ H) : tAsg (tF X.K X.mg fx W mf) (gName i) D σ H := by
  obtain ⟨g, r, h⟩ := h
  dsimp only at h
  cases em : mf g with
  | ok ds g1 =>
    rw [em] at h
    refine ⟨g, r, run_ok em fun v H1 r1 s1 p1 => ?_⟩
    obtain ⟨r2, s2⟩ := put_res (c := .ml ds) r1 s1 p1 hx'
    exact h _ H1 r2 s2
  | exc c g1 =>
    rw [em] at h
    refine ⟨g, r, ?_⟩
    rw [em]
    exact fun C H' e r1 s1 => h C σ H' e r1 s1
  | no => rw [em] at h; exact h.elim
theorem s_setF {i : Nat} {x : Str} {p : Pos} (hN : X.N.Nodup) (hi : X.N[i]? = some x) (hx : Loc X.env.scope x) (hf : X.fn x = true ∨ X.env.scope.names.lookup x = some .local) (hx' : fx i = false) (he : PE X e (tF X.K X.mg fx W mf)) (hs : swapsWith e (some (.Name x p)) pos.line X.env = pure false) :
    PS X (.Assign [.Name x p] e pos) (tS X.K X.mg fx W fun g => (mf g).andS fun ds g1 => .nx (g1.set i (some (.ml ds)))) :=
  PS.wk (ps_set hN hi hx he hs hf) fun D σ H h => setF_wk hx' h
/-- a list just laid by an assignment on one line -/
theorem s_setFl {i : Nat} (hx' : fx i = false) (he : PS X st (tAsg (tF X.K X.mg fx W mf) (gName i))) : PS X st (tS X.K X.mg fx W fun g => (mf g).andS fun ds g1 => .nx (g1.set i (some (.ml ds)))) :=
  PS.wk he fun D σ H h => setF_wk hx' h
/-- .. and nobody writes it from now on -/
theorem ps_ghost {i : Nat} {te : TE} (he : PS X st (tAsg te (gName i))) : PS X st (fun D σ H => te σ H fun v H1 => gName i v σ H1 fun σ' H' => D.nx σ' H' ∨ ∃ a vs, H' a = some (.lst vs) ∧ ∀ o, D.nx σ' (upd H' a (.frz o (.lst vs)))) := by
  refine ⟨fun pins s σ H D I h => ?_⟩
  refine thn (he.run pins s σ H { D with nx := fun σ' H' => D.nx σ' H' ∨ ∃ a vs, H' a = some (.lst vs) ∧ ∀ o, D.nx σ' (upd H' a (.frz o (.lst vs))) } I h) fun f s1 q => ?_
  cases f with
  | next =>
    obtain ⟨σ1, H1, I1, q1⟩ := q
    rcases q1 with q1 | ⟨a, vs, ea, q1⟩
    · exact ⟨σ1, H1, I1, q1⟩
    · obtain ⟨o, I2⟩ := frz_inv I1 ea
      exact ⟨σ1, _, I2, q1 o⟩
  | ret v => exact q
  | brk => exact q
  | cont => exact q
theorem s_setZl {i : Nat} (hx' : fx i = false) (he : PS X st (tAsg (tF X.K X.mg fx W mf) (gName i))) : PS X st (tS X.K X.mg fx W fun g => (mf g).andS fun ds g1 => .nx (g1.set i (some (.pu (.list ds))))) := by
  refine PS.wk (ps_ghost he) fun D σ H ⟨g, r, h⟩ => ?_
  dsimp only at h
  cases em : mf g with
  | ok ds g1 =>
    rw [em] at h
    refine ⟨g, r, run_ok em fun v H1 r1 s1 ⟨p, vs, ev, hp, rr, hn, hm⟩ => ?_⟩
    subst ev
    refine .inr ⟨p, vs, hp, fun o => ?_⟩
    obtain ⟨r2, s2, k⟩ := frz_step r1 s1 hp rr hn hm o
    obtain ⟨r3, s3⟩ := put_pu r2 k hx'
    exact h _ _ r3 (s2.trans s3)
  | exc c g1 =>
    rw [em] at h
    refine ⟨g, r, ?_⟩
    rw [em]
    exact fun C H' e r1 s1 => h C σ H' e r1 s1
  | no => rw [em] at h; exact h.elim
/-- a target of names = a value -/
theorem s_unp {tg : Tg} {te : Expr} (he : PE X e (tE X.K X.mg fx W me)) (hg : PG X te (tG X.K fx false tg)) (hs : swapsWithSole [te] e pos.line X.env = pure false) (hw : swappedStores [te] e X.env = pure none) (h1 : isStar te = false) :
    PS X (.Assign [te] e pos) (tS X.K X.mg fx W fun g => (me g).andS fun d g1 => match setTg tg d g1 with
      | some g2 => .nx g2
      | none => .no) := by
  refine PS.wk (ps_asg he hg hs hw (by rw [asg_cons h1]; rfl)) fun D σ H ⟨g, r, h⟩ => ?_
  refine tX.stm r h fun d g1 v H1 r1 s1 p1 h1 => ?_
  cases eg : setTg tg d g1 with
  | none => simp only [eg] at h1; exact h1.elim
  | some g2 =>
    simp only [eg] at h1
    exact ⟨g1, d, g2, r1, p1, eg, fun σ2 _ r2 s2 => h1 σ2 H1 r2 s2⟩
end
end PL
/-! PLn: loops, more statements -/
namespace PL
open PySem PySem.Spec PyProof.Rows L2
section
variable {X : Cx} {fx : Nat → Bool} {W : WX} {pos : Pos} {e a b c : Expr} {body : List Stmt} {mb : MS} {me ma : M D} {mc : M Bool} {mi : M (List D)} {tge : Expr} {tg : Tg} {pr : Bool}
theorem s_for (hp : PassesOwn (model X.prog X.w) X.A X.env X.xe) (hc : X.calm = true) (hi : PI X tge e (tI X.K X.mg fx W pr mi)) (hg : PG X tge (tG X.K fx pr tg)) (hb : PSs X body (tS X.K X.mg fx W mb)) (hs : ∀ x, foldedSetIterable e X.env x = pure x) :
    PS X (.For tge e body [] pos) (tS X.K X.mg fx W fun g => (mi g).andS fun ds g1 => forL tg mb ds g1) := by
  refine PS.wk (ps_for hp hc hi hg hb hs) fun D σ H ⟨g, r, h⟩ => ?_
  refine ⟨g, r, h.andS.mono fun ds g1 z J H1 P r1 s1 hP hW => ?_⟩
  have z1 := z σ H1 r1 s1
  refine ⟨fun i m σ' H' => m = ds.length - i ∧ i ≤ ds.length ∧ P H' ∧ ∃ gw, RelEnv X.K σ' H' gw ∧ RunS X.K X.mg fx W (forL tg mb (ds.drop i) gw) D σ' gw H', ⟨ds.length, rfl, Nat.zero_le _, hP, g1, r1, z1⟩, ?_⟩
  rintro i m σ' H' ⟨rfl, hi', hP', gw, rw', h'⟩
  by_cases hlt : i < ds.length
  · have edr : ds.drop i = ds[i] :: ds.drop (i + 1) := List.drop_eq_getElem_cons hlt
    have ed : ds[i]? = some ds[i] := List.getElem?_eq_getElem hlt
    generalize ds[i] = d at edr ed
    rw [edr] at h'
    unfold forL at h'
    cases eg : setTg tg d gw with
    | none => simp only [eg] at h'; exact h'.elim
    | some ga =>
      simp only [eg] at h'
      refine .inr ⟨hW.go i H' d hP' ed, fun σ2 H2 => P H2 ∧ ∃ gw, RelEnv X.K σ2 H2 gw ∧ RunS X.K X.mg fx W (forL tg mb (ds.drop (i + 1)) gw) D σ2 gw H2, fun σ2 H2 ⟨q1, q2⟩ => ⟨ds.length - (i + 1), by omega, rfl, hlt, q1, q2⟩, fun x H2 hy => ?_⟩
      obtain ⟨gr, it⟩ := hW.yld i H' d x H2 hP' ed hy
      refine ⟨gw, d, ga, (rw'.ex gr).1, it, eg, fun σ2 _ r3 s3 => ⟨ga, r3, ?_⟩⟩
      have s4 : Step fx σ' gw H' σ2 ga H2 := (rw'.grow gr).trans s3
      have nxt : ∀ g2, RunS X.K X.mg fx W (forL tg mb (ds.drop (i + 1)) g2) D σ' gw H' → ∀ σ3 H3, RelEnv X.K σ3 H3 g2 → Step fx σ2 ga H2 σ3 g2 H3 → P H3 ∧ ∃ gw, RelEnv X.K σ3 H3 gw ∧ RunS X.K X.mg fx W (forL tg mb (ds.drop (i + 1)) gw) D σ3 gw H3 := fun g2 h2 σ3 H3 r5 s5 =>
        ⟨hW.keep _ _ ((s4.trans s5).ex rw') hP', g2, r5, h2.later (s4.trans s5)⟩
      cases eb : mb ga with
      | nx g2 => rw [eb] at h'; exact nxt g2 h'
      | ct g2 => rw [eb] at h'; exact nxt g2 h'
      | bk g2 => rw [eb] at h'; exact fun σ3 H3 r5 s5 => h' σ3 H3 r5 (s4.trans s5)
      | rt c g2 => rw [eb] at h'; exact fun v σ3 H3 r5 s5 q => h' v σ3 H3 r5 (s4.trans s5) (q.later s4)
      | exc c g2 => rw [eb] at h'; exact fun C σ3 H3 e r5 s5 => h' C σ3 H3 e r5 (s4.trans s5)
      | no => rw [eb] at h'; exact h'.elim
  · have ei : i = ds.length := by omega
    subst ei
    rw [List.drop_length] at h'
    exact .inl ⟨hW.stop _ H' hP' rfl, h' σ' H' rw' Step.refl⟩
theorem s_while (n : Nat) (hp : PassesOwn (model X.prog X.w) X.A X.env X.xe) (hc : PT X c (tT X.K X.mg fx W mc)) (hb : PSs X body (tS X.K X.mg fx W mb)) : PS X (.While c body [] pos) (tS X.K X.mg fx W fun g => whileL mc mb n g) := by
  refine PS.wk (ps_while hp hc hb) fun D σ H ⟨g, r, h⟩ => ?_
  refine ⟨fun m σ' H' => ∃ gw, RelEnv X.K σ' H' gw ∧ RunS X.K X.mg fx W (whileL mc mb m gw) D σ' gw H', ⟨n, g, r, h⟩, ?_⟩
  rintro m σ' H' ⟨gw, rw', h'⟩
  cases m with
  | zero => exact h'.elim
  | succ m =>
    unfold whileL at h'
    refine tX.stm rw' h' fun b g1 v H1 r1 s1 p1 h1 => ?_
    subst p1
    cases v with
    | false => exact h1 σ' H1 r1 Step.refl
    | true =>
      simp only [if_true] at h1
      refine ⟨fun σ2 H2 => ∃ gw, RelEnv X.K σ2 H2 gw ∧ RunS X.K X.mg fx W (whileL mc mb m gw) D σ2 gw H2, fun σ2 H2 q => ⟨m, Nat.lt_succ_self m, q⟩, g1, r1, ?_⟩
      cases eb : mb g1 with
      | nx g2 => rw [eb] at h1; exact fun σ3 H3 r5 s5 => ⟨g2, r5, RunS.later h1 s5⟩
      | ct g2 => rw [eb] at h1; exact fun σ3 H3 r5 s5 => ⟨g2, r5, RunS.later h1 s5⟩
      | bk g2 => rw [eb] at h1; exact h1
      | rt c g2 => rw [eb] at h1; exact h1
      | exc c g2 => rw [eb] at h1; exact h1
      | no => rw [eb] at h1; exact h1.elim

/-! ### append, extend, items set -/
theorem me_app {i : Nat} {apos : Pos} (hs : isStar b = false) (h0 : isCall0 a = false) (hl : (apos.endLine == pos.line) = true) (ha : PE X a (tVar i)) (hb : PE X b (tE X.K X.mg fx W ma)) :
    PE X (.Call (.Attribute a "append" apos) [b] [] pos) (tE X.K X.mg fx W fun g => boundM i g <| (ma g).bind fun y g1 => match g1[i]? with
      | some (some (.ml ds)) => if ds.length < sizeLine then .ok .none (g1.set i (some (.ml (ds ++ [y])))) else .no
      | _ => .no) := by
  have hss : [b].all (fun e => !isStar e) = true := by rw [List.all_cons, hs]; rfl
  refine PE.wk (pe_bm PySem.F.plainAttrs_list PySem.F.slot_list_append PySem.F.type_list_append mt_append ha (pa_cons hb pa_nil (star_ok hs)) (attr_ok h0) (few_ok hss (by show 1 < 29; decide)) hl (star_ok hs) rfl) fun σ H Q ⟨g, r, h⟩ => ?_
  obtain ⟨⟨l, vs0, hv, h00⟩, h⟩ := h.boundM r
  refine ⟨.ref l, hv, .inl ⟨rfl, vs0, SqL.of h00⟩, tX.seq r h fun y g1 w H1 r1 s1 p1 q => ?_⟩
  split at q
  · rename_i ds eg
    obtain ⟨z, q⟩ := q.ifp
    obtain ⟨l', vs, el, hp, rr⟩ := slot_of r1 hv eg
    cases el
    refine ⟨l, vs, w, rfl, rfl, hp, by rw [rr.len]; exact z, ?_⟩
    have x : Ex H1 (upd H1 l (.lst (vs ++ [w]))) := Ex.put hp rfl
    obtain ⟨r2, s2⟩ := r1.chg (H' := upd H1 l (.lst (vs ++ [w]))) (c' := .ml (ds ++ [y])) eg hv (fun b u eb nb => by rw [upd_ne (fun z => nb (by subst z; simp [ow, vRef]))]; exact eb) ⟨l, _, rfl, upd_same, (rr.append (.cons p1 .nil)).ex x⟩ (fun b hb => .inl hb) (fun b hb => upd_none hb)
    exact q .non _ r2 (s1.trans (s2 fx)) .non
  · exact q.elim
theorem me_ext {i : Nat} {apos : Pos} (hs : isStar b = false) (h0 : isCall0 a = false) (hl : (apos.endLine == pos.line) = true) (ha : PE X a (tVar i)) (hb : PE X b (tE X.K X.mg fx W ma)) :
    PE X (.Call (.Attribute a "extend" apos) [b] [] pos) (tE X.K X.mg fx W fun g => boundM i g <| (ma g).bind fun y g1 => (lft (isLst y) g1).bind fun zs g2 => match g2[i]? with
      | some (some (.ml ds)) => if ds.length + zs.length ≤ sizeLine then .ok .none (g2.set i (some (.ml (ds ++ zs)))) else .no
      | _ => .no) := by
  have hss : [b].all (fun e => !isStar e) = true := by rw [List.all_cons, hs]; rfl
  refine PE.wk (pe_bm PySem.F.plainAttrs_list PySem.F.slot_list_extend PySem.F.type_list_extend mt_extendR ha (pa_cons hb pa_nil (star_ok hs)) (attr_ok h0) (few_ok hss (by show 1 < 29; decide)) hl (star_ok hs) rfl) fun σ H Q ⟨g, r, h⟩ => ?_
  obtain ⟨⟨l, vs0, hv, h00⟩, h⟩ := h.boundM r
  refine ⟨.ref l, hv, .inl ⟨rfl, vs0, SqL.of h00⟩, tX.seq r h fun y g1 w H1 r1 s1 p1 q => ?_⟩
  obtain ⟨zs, e, q1⟩ := q.bind.lft
  have q2 := q1 H1 r1 Step.refl
  clear q q1
  cases y with
  | list ws =>
    cases e
    split at q2
    · rename_i ds eg
      obtain ⟨z, q3⟩ := q2.ifp
      obtain ⟨l', vs, el, hp, rr⟩ := slot_of r1 hv eg
      cases el
      obtain ⟨p', o', us, rfl, hp', rr'⟩ := rp_lst p1
      refine ⟨l, p', vs, us, rfl, rfl, hp, .inr ⟨o', hp'⟩, by rw [rr.len, rr'.len]; exact z, ?_⟩
      have x : Ex H1 (upd H1 l (.lst (vs ++ us))) := Ex.put hp rfl
      obtain ⟨r2, s2⟩ := r1.chg (H' := upd H1 l (.lst (vs ++ us))) (c' := .ml (ds ++ zs)) eg hv (fun b u eb nb => by rw [upd_ne (fun z => nb (by subst z; simp [ow, vRef]))]; exact eb) ⟨l, _, rfl, upd_same, (rr.append rr').ex x⟩ (fun b hb => .inl hb) (fun b hb => upd_none hb)
      exact q3 .non _ r2 (s1.trans (s2 fx)) .non
    · exact q2.elim
  | _ => cases e
/-- xs[i] = v -/
theorem s_setI {i : Nat} {p : Pos} (ha : PE X a (tVar i)) (hb : PE X b (tE X.K X.mg fx W ma)) (he : PE X e (tE X.K X.mg fx W me)) (hsl : isSlice b = false) (hs : swapsWithSole [.Subscript a b p] e pos.line X.env = pure false) (hw : swappedStores [.Subscript a b p] e X.env = pure none) :
    PS X (.Assign [.Subscript a b p] e pos) (tS X.K X.mg fx W fun g => (me g).andS fun y g1 => match g1[i]? with
      | some (some (.ml _)) => (ma g1).andS fun k g2 => (lft (isIn k) g2).andS fun k g3 => match g3[i]? with
        | some (some (.ml ds)) => match ixN ds.length k with
          | some j => .nx (g3.set i (some (.ml (ds.set j y))))
          | none => .no
        | _ => .no
      | _ => .no) := by
  have hpg : PG X (.Subscript a b p) (gSub (tVar i) (tE X.K X.mg fx W ma) rSetL) := by
    refine pg_sub ha hb set_list ?_
    intro v
    cases b <;> first | rfl | cases hsl
  refine PS.wk (ps_asg he hpg hs hw rfl) fun D σ H ⟨g, r, h⟩ => ?_
  refine tX.stm r h fun y g1 w H1 r1 s1 p1 q => ?_
  split at q
  · rename_i ds0 eg0
    obtain ⟨v, hv, _⟩ := r1.val i _ eg0
    refine ⟨v, hv, tX.stm r1 q fun k g2 u H2 r2 s2 p2 q1 => ?_⟩
    obtain ⟨k', ek, q2⟩ := q1.lft
    clear q1
    split at q2
    · rename_i ds eg
      split at q2
      · rename_i j ej
        obtain ⟨l, vs, el, hp, rr⟩ := slot_of r2 hv eg
        subst el
        cases k with
        | int k0 =>
          cases ek
          refine ⟨l, vs, k', j, rfl, rp_int p2, hp, by rw [rr.len]; exact ej, ?_⟩
          have x : Ex H2 (upd H2 l (.lst (vs.set j w))) := Ex.put hp rfl
          obtain ⟨r3, s3⟩ := r2.chg (H' := upd H2 l (.lst (vs.set j w))) (c' := .ml (ds.set j y)) eg hv (fun b u eb nb => by rw [upd_ne (fun z => nb (by subst z; simp [ow, vRef]))]; exact eb) ⟨l, _, rfl, upd_same, (rr.set (p1.ex (s2.ex r1)) j).ex x⟩ (fun b hb => .inl hb) (fun b hb => upd_none hb)
          exact q2 σ _ r3 (s3 fx)
        | _ => cases ek
      · exact q2.elim
    · exact q2.elim
  · exact q.elim
end
end PL
/-! PLo: several names set at once, errors -/
namespace PL
open PySem PySem.Spec PyProof.Rows L2

/-- results, each its own -/
def FrL (K : PySem.W.Frag) (H : Hp) (σ : St) (g g' : Env) (H' : Hp) : List V → List C → Prop
  | [], [] => True
  | v :: vs, c :: cs => ResC K H σ g σ g' H' v c ∧ (∀ b ∈ ow H' v c, ∀ (j : Nat) (v' : V) (c' : C), vs[j]? = some v' → cs[j]? = some c' → b ∉ ow H' v' c') ∧ FrL K H σ g g' H' vs cs
  | _, _ => False
abbrev rP (K : PySem.W.Frag) : St → Hp → Env → Hp → Env → List V → List C → Prop := fun σ H g H' g' vs cs => FrL K H σ g g' H' vs cs
abbrev tP (K : PySem.W.Frag) (mg : Str → Option Value) (fx : Nat → Bool) (W : WX) (m : M (List C)) : TA := tX K mg fx W (rP K) m
theorem resC_ow {K : PySem.W.Frag} {H H' : Hp} {σ0 σ : St} {g g' : Env} {v : V} {c : C} {b : Addr} (h : ResC K H σ0 g σ g' H' v c) (m : b ∈ ow H' v c) : ∃ vs, v = .ref b ∧ H' b = some (.lst vs) ∧ (H b = none ∨ MAd σ0 g H b) ∧ ¬ MAd σ g' H' b := by
  cases c with
  | pu d => exact nomatch m
  | ml ds =>
    obtain ⟨a, vs, rfl, e2, e3, e4, e5⟩ := h
    have : b = a := by simpa [ow, vRef] using m
    subst this
    exact ⟨vs, rfl, e2, e4, e5⟩
  | _ => exact h.elim
section
variable {K : PySem.W.Frag} {mg : Str → Option Value} {fx : Nat → Bool} {W : WX}
/-- a result, later -/
theorem ResC.go {H H1 H2 : Hp} {σ : St} {g g1 g2 : Env} {v : V} {c : C} (h : ResC K H σ g σ g1 H1 v c) (r1 : RelEnv K σ H1 g1) (s : Step fx σ g1 H1 σ g2 H2) : ResC K H σ g σ g2 H2 v c ∧ ow H2 v c = ow H1 v c := by
  cases c with
  | pu d => exact ⟨Rp.ex (s.ex r1) h, rfl⟩
  | ml ds =>
    obtain ⟨a, vs, rfl, e2, e3, e4, e5⟩ := h
    refine ⟨⟨a, vs, rfl, s.keep a _ e2 e5, e3.ex (s.ex r1), e4, fun m => ?_⟩, rfl⟩
    rcases s.mad a m with z | z
    · exact e5 z
    · rw [e2] at z; cases z
  | _ => exact h.elim
theorem FrL.later {H H1 H2 : Hp} {σ : St} {g g1 g2 : Env} (s : Step fx σ g H σ g1 H1) : ∀ {vs : List V} {cs : List C}, FrL K H1 σ g1 g2 H2 vs cs → FrL K H σ g g2 H2 vs cs
  | [], [], _ => trivial
  | v :: vs, c :: cs, ⟨h1, h2, h3⟩ => ⟨h1.later s, h2, FrL.later s h3⟩
  | [], _ :: _, h => h.elim
  | _ :: _, [], h => h.elim
theorem FrL.at {H H' : Hp} {σ : St} {g g' : Env} : ∀ {vs : List V} {cs : List C} {j : Nat} {v : V} {c : C}, FrL K H σ g g' H' vs cs → vs[j]? = some v → cs[j]? = some c → ResC K H σ g σ g' H' v c
  | v :: vs, c :: cs, 0, _, _, h, e1, e2 => by cases e1; cases e2; exact h.1
  | v :: vs, c :: cs, j + 1, _, _, h, e1, e2 => FrL.at (vs := vs) (cs := cs) h.2.2 e1 e2
  | [], _, _, _, _, _, e1, _ => by cases e1
  | _ :: _, [], _, _, _, h, _, _ => h.elim
theorem frL_cons {H H1 H2 : Hp} {σ : St} {g g1 g2 : Env} {v : V} {c : C} {vs : List V} {cs : List C} (h : ResC K H σ g σ g1 H1 v c) (r1 : RelEnv K σ H1 g1) (s0 : Step fx σ g H σ g1 H1) (s : Step fx σ g1 H1 σ g2 H2) (hr : FrL K H1 σ g1 g2 H2 vs cs) : FrL K H σ g g2 H2 (v :: vs) (c :: cs) := by
  obtain ⟨h2, eo⟩ := h.go r1 s
  refine ⟨h2, fun b m j v' c' e1 e2 m' => ?_, hr.later s0⟩
  rw [eo] at m
  obtain ⟨ws, _, q1, _, q2⟩ := resC_ow h m
  obtain ⟨_, _, _, q3, _⟩ := resC_ow (hr.at e1 e2) m'
  rcases q3 with z | z
  · rw [q1] at z; cases z
  · exact q2 z
end
section
variable {X : Cx} {fx : Nat → Bool} {W : WX} {pos : Pos} {a b c : Expr} {es : List Expr} {ma : M D} {mf : M (List D)} {mr : M (List C)}
theorem mp_nil : PA X [] (tP X.K X.mg fx W fun g => .ok [] g) := PA.wk pa_nil fun σ H Q ⟨g, r, h⟩ => h [] H r Step.refl trivial
theorem mp_e (hs : isStar a = false) (ha : PE X a (tE X.K X.mg fx W ma)) (hr : PA X es (tP X.K X.mg fx W mr)) :
    PA X (a :: es) (tP X.K X.mg fx W fun g => (ma g).bind fun x g1 => (mr g1).bind fun xs g2 => .ok (.pu x :: xs) g2) := by
  refine PA.wk (pa_cons ha hr (star_ok hs)) fun σ H Q ⟨g, r, h⟩ => ?_
  refine tX.seq r h fun x g1 v H1 r1 s1 p1 h1 => ?_
  refine tX.seq r1 h1 fun xs g2 vs H2 r2 s2 p2 h2 => ?_
  exact h2 (v :: vs) H2 r2 (s1.trans s2) (frL_cons (c := .pu x) p1 r1 s1 s2 p2)
theorem mp_f (hs : isStar a = false) (ha : PE X a (tF X.K X.mg fx W mf)) (hr : PA X es (tP X.K X.mg fx W mr)) :
    PA X (a :: es) (tP X.K X.mg fx W fun g => (mf g).bind fun x g1 => (mr g1).bind fun xs g2 => .ok (.ml x :: xs) g2) := by
  refine PA.wk (pa_cons ha hr (star_ok hs)) fun σ H Q ⟨g, r, h⟩ => ?_
  refine tX.seq r h fun x g1 v H1 r1 s1 p1 h1 => ?_
  refine tX.seq r1 h1 fun xs g2 vs H2 r2 s2 p2 h2 => ?_
  exact h2 (v :: vs) H2 r2 (s1.trans s2) (frL_cons (c := .ml x) p1 r1 s1 s2 p2)
/-- the results are put into slots, one behind another -/
def setVs : List Nat → List V → St → St
  | i :: r, v :: vs, σ => setVs r vs (σ.set i (some v))
  | _, _, σ => σ
theorem put_all {K : PySem.W.Frag} {H H1 : Hp} {σ : St} {g : Env} : ∀ {is : List Nat} {vs : List V} {cs : List C} {σ1 : St} {g1 g2 : Env}, RelEnv K σ1 H1 g1 → Step fx σ g H σ1 g1 H1 → (∀ (j : Nat) (v : V) (c : C), vs[j]? = some v → cs[j]? = some c → ResC K H σ g σ1 g1 H1 v c) →
    (∀ (j k : Nat) (v v' : V) (c c' : C) (b : Addr), j < k → vs[j]? = some v → cs[j]? = some c → vs[k]? = some v' → cs[k]? = some c' → b ∈ ow H1 v c → b ∉ ow H1 v' c') → (∀ i ∈ is, fx i = false) → vs.length = cs.length → setCs is cs g1 = some g2 →
    RelEnv K (setVs is vs σ1) H1 g2 ∧ Step fx σ g H (setVs is vs σ1) g2 H1
  | [], [], [], σ1, g1, g2, r, s, _, _, _, _, e => by
    have e : some g1 = some g2 := e
    cases e; exact ⟨r, s⟩
  | i :: is, v :: vs, c :: cs, σ1, g1, g2, r, s, h1, h2, hf, hl, e => by
    obtain ⟨r2, s2⟩ := put_res r s (h1 0 v c rfl rfl) (hf i List.mem_cons_self)
    refine put_all (is := is) (vs := vs) (cs := cs) r2 s2 (fun j w d e1 e2 => ?_) (fun j k w w' d d' b hjk a1 a2 a3 a4 m => h2 (j + 1) (k + 1) w w' d d' b (by omega) a1 a2 a3 a4 m) (fun j m => hf j (List.mem_cons_of_mem _ m)) (by simpa using hl) e
    have hd := h1 (j + 1) w d e1 e2
    cases d with
    | ml ds =>
      obtain ⟨a, ws, rfl, q2, q3, q4, q5⟩ := hd
      refine ⟨a, ws, rfl, q2, q3, q4, fun ⟨k, c', u, ek, su, m⟩ => ?_⟩
      rcases set_at ek with ⟨rfl, ek, hk⟩ | ⟨hk, ek⟩
      · cases ek
        rw [List.getElem?_set_self (by rw [r.len]; exact hk)] at su
        cases su
        exact h2 0 (j + 1) v _ c _ a (by omega) rfl rfl e1 e2 m (by simp [ow, vRef])
      · rw [List.getElem?_set_ne hk] at su
        exact q5 ⟨k, c', u, ek, su, m⟩
    | _ => exact hd
  | [], _ :: _, cs, _, _, _, _, _, _, _, _, hl, e => by
    cases cs with
    | nil => simp at hl
    | cons _ _ => cases e
  | [], [], _ :: _, _, _, _, _, _, _, _, _, hl, e => by cases e
  | _ :: _, [], cs, _, _, _, _, _, _, _, _, hl, e => by
    cases cs with
    | nil => cases e
    | cons _ _ => simp at hl
  | _ :: _, _ :: _, [], _, _, _, _, _, _, _, _, hl, e => by cases e
theorem frL_len {K : PySem.W.Frag} {H H' : Hp} {σ : St} {g g' : Env} : ∀ {vs : List V} {cs : List C}, FrL K H σ g g' H' vs cs → vs.length = cs.length
  | [], [], _ => rfl
  | v :: vs, c :: cs, h => by rw [List.length_cons, List.length_cons, frL_len h.2.2]
  | [], _ :: _, h => h.elim
  | _ :: _, [], h => h.elim
theorem frL_sep {K : PySem.W.Frag} {H H' : Hp} {σ : St} {g g' : Env} : ∀ {vs : List V} {cs : List C}, FrL K H σ g g' H' vs cs → ∀ (j k : Nat) (v v' : V) (c c' : C) (b : Addr), j < k → vs[j]? = some v → cs[j]? = some c → vs[k]? = some v' → cs[k]? = some c' → b ∈ ow H' v c → b ∉ ow H' v' c'
  | v :: vs, c :: cs, h, 0, k + 1, _, v', _, c', b, _, e1, e2, e3, e4, m => by cases e1; cases e2; exact h.2.1 b m k v' c' e3 e4
  | v :: vs, c :: cs, h, j + 1, k + 1, _, v', _, c', b, hl, e1, e2, e3, e4, m => frL_sep (vs := vs) (cs := cs) h.2.2 j k _ v' _ c' b (by omega) e1 e2 e3 e4 m
  | v :: vs, c :: cs, h, _, 0, _, v', _, c', b, hl, e1, e2, e3, e4, m => by omega
  | [], _, _, _, _, _, _, _, _, _, _, e1, _, _, _, _ => by cases e1
  | _ :: _, [], h, _, _, _, _, _, _, _, _, _, _, _, _, _ => h.elim
theorem par_wk {is : List Nat} {D : Ends} {σ : St} {H : Hp} (hf : ∀ i ∈ is, fx i = false) {g : Env} (r : RelEnv X.K σ H g) (h : RunS X.K X.mg fx W ((mr g).andS fun cs g1 => match setCs is cs g1 with
      | some g2 => .nx g2
      | none => .no) D σ g H) : tP X.K X.mg fx W mr σ H fun vs H1 => vs.length = is.length ∧ D.nx (setVs is vs σ) H1 := by
  cases em : mr g with
  | ok cs g1 =>
    rw [em] at h
    refine ⟨g, r, run_ok em fun vs H1 r1 s1 p1 => ?_⟩
    have h : RunS X.K X.mg fx W (match setCs is cs g1 with
      | some g2 => .nx g2
      | none => .no) D σ g H := h
    cases es : setCs is cs g1 with
    | none => rw [es] at h; exact h.elim
    | some g2 =>
      rw [es] at h
      obtain ⟨r2, s2⟩ := put_all r1 s1 (fun j v c e1 e2 => p1.at e1 e2) (frL_sep p1) hf (frL_len p1) es
      have hl : ∀ {is : List Nat} {cs : List C} {g g' : Env}, setCs is cs g = some g' → cs.length = is.length := by
        intro is
        induction is with
        | nil => intro cs g g' e; cases cs with
          | nil => rfl
          | cons _ _ => cases e
        | cons i is ih => intro cs g g' e; cases cs with
          | nil => cases e
          | cons c cs => rw [List.length_cons, List.length_cons, ih (cs := cs) e]
      exact ⟨(frL_len p1).trans (hl es), h _ H1 r2 s2⟩
  | exc c g1 =>
    rw [em] at h
    refine ⟨g, r, ?_⟩
    rw [em]
    exact fun C H' e r1 s1 => h C σ H' e r1 s1
  | no => rw [em] at h; exact h.elim
theorem s_par2 {i j : Nat} {x y : Str} {px py pt : Pos} {kt k2 : Nat} {pt2 : Pos} (hc : X.calm = true) (hN : X.N.Nodup) (hi : X.N[i]? = some x) (hj : X.N[j]? = some y) (hij : i ≠ j)
    (hx : X.env.scope.names.lookup x = some .local) (hy : X.env.scope.names.lookup y = some .local) (hf : fx i = false ∧ fx j = false) (ha : PA X [a, b] (tP X.K X.mg fx W mr))
    (hw : swappedStores [.Tuple [.Name x px, .Name y py] kt pt] (.Tuple [a, b] k2 pt2) X.env = pure (some [x, y])) :
    PS X (.Assign [.Tuple [.Name x px, .Name y py] kt pt] (.Tuple [a, b] k2 pt2) pos) (tS X.K X.mg fx W fun g => (mr g).andS fun cs g1 => match setCs [i, j] cs g1 with
      | some g2 => .nx g2
      | none => .no) := by
  refine PS.wk (ps_par hc hN hi hj hij hx hy ha hw) fun D σ H ⟨g, r, h⟩ => ?_
  obtain ⟨g', r', h'⟩ := par_wk (is := [i, j]) (D := D) (mr := mr) (W := W) (fx := fx) (by simp [hf.1, hf.2]) r h
  refine ⟨g', r', h'.mono fun cs g1 z vs H1 r1 s1 p1 => ?_⟩
  obtain ⟨z1, z2⟩ := z vs H1 r1 s1 p1
  match vs, z1 with
  | [v, w], _ => exact ⟨v, w, rfl, z2⟩
theorem s_par3 {i j l : Nat} {x y z : Str} {px py pz pt : Pos} {kt k2 : Nat} {pt2 : Pos} (hc : X.calm = true) (hN : X.N.Nodup) (hi : X.N[i]? = some x) (hj : X.N[j]? = some y) (hl : X.N[l]? = some z) (hij : i ≠ j) (hil : i ≠ l) (hjl : j ≠ l)
    (hx : X.env.scope.names.lookup x = some .local) (hy : X.env.scope.names.lookup y = some .local) (hz : X.env.scope.names.lookup z = some .local) (hf : fx i = false ∧ fx j = false ∧ fx l = false) (ha : PA X [a, b, c] (tP X.K X.mg fx W mr))
    (hw : swappedStores [.Tuple [.Name x px, .Name y py, .Name z pz] kt pt] (.Tuple [a, b, c] k2 pt2) X.env = pure (some [x, y, z])) :
    PS X (.Assign [.Tuple [.Name x px, .Name y py, .Name z pz] kt pt] (.Tuple [a, b, c] k2 pt2) pos) (tS X.K X.mg fx W fun g => (mr g).andS fun cs g1 => match setCs [i, j, l] cs g1 with
      | some g2 => .nx g2
      | none => .no) := by
  refine PS.wk (ps_par3 hc hN hi hj hl hij hil hjl hx hy hz ha hw) fun D σ H ⟨g, r, h⟩ => ?_
  obtain ⟨g', r', h'⟩ := par_wk (is := [i, j, l]) (D := D) (mr := mr) (W := W) (fx := fx) (by simp [hf.1, hf.2]) r h
  refine ⟨g', r', h'.mono fun cs g1 z vs H1 r1 s1 p1 => ?_⟩
  obtain ⟨z1, z2⟩ := z vs H1 r1 s1 p1
  match vs, z1 with
  | [u, v, w], _ => exact ⟨u, v, w, rfl, z2⟩
end

/-! ### errors -/
def bmV : List Value := [.type "ValueError", .type "Exception", .type "BaseException", .type "object"]
/-- a class of errors: a text makes one -/
structure ErrC (K : PySem.W.Frag) (C : Addr) : Prop where
  q : PySem.W.excIn K C bmV "ValueError.__new__" = true
  k : PySem.W.keepIn K (.ref C) = true
  s : PySem.W.subIn K (.ref C) (.type "BaseException") = some true
  t : PySem.W.typeIn K (.ref C) = some (.type "type")
  c : ExcC K C
section
variable {X : Cx} {fx : Nat → Bool} {W : WX} {pos : Pos}
theorem s_raise {x m : Str} {j : Nat} {p p2 pos' : Pos} {C : Addr} (hc : X.calm = true) (tk : Takes X W) (F : ErrC X.K C) (gC : X.mg x = some (.ref C)) (hg : Gl X x) (hok : okN x = true) :
    PS X (.Raise (some (.Call (.Name x p) [.Constant (.str m) j p2] [] pos')) none pos) (tS X.K X.mg fx W fun g => .exc x g) :=
  PS.wk (ps_raise hc tk (pmk_own PySem.F.excBase_ValueError F.q gC F.k (raises_own F.s F.t) hg (okN_1 hok))) fun D σ H ⟨g, r, h⟩ => h C σ H gC r Step.refl

/-! ### try .. except c0 as n: x = .. if isinstance(n, c) else .. -/
def conV : D → Option V
  | .none => some .non
  | .bool b => some (.bl b)
  | .int i => some (.int i)
  | .str x => some (.str x)
  | _ => none
theorem conV_rp {K : PySem.W.Frag} {H : Hp} {d : D} {v : V} (h : conV d = some v) : Rp K H v d := by
  cases d <;> first | (cases h; constructor) | cases h
/-- what the handler sets for an error of the class c -/
def pick (sub : Str → Str → Option Bool) (c : Str) : List (Str × D) → D → Option D
  | [], d => some d
  | (x, v) :: r, d => match sub c x with
    | some true => some v
    | some false => pick sub c r d
    | none => none
def tryM (sub : Str → Str → Option Bool) (c0 : Str) (n k : Nat) (tb : List (Str × D)) (d : D) (r : RS) : RS :=
  match r with
  | .exc c g => match sub c c0 with
    | some true => match pick sub c tb d with
      | some v => if n < g.length then .nx ((g.set k (some (.pu v))).set n none) else .no
      | none => .no
    | some false => .exc c g
    | none => .no
  | r => r
/-- the text of such a choice -/
inductive ChE (n : Str) : Expr → List (Str × D) → D → Prop
  | last {e : Expr} {d : D} {v : V} : conV d = some v → (∀ X : Cx, PE X e (tC v)) → ChE n e [] d
  | cons {x : Str} {a e : Expr} {v d : D} {w : V} {r : List (Str × D)} {p1 p2 p3 p4 p5 : Pos} : conV v = some w → (∀ X : Cx, PE X a (tC w)) → ChE n e r d →
      ChE n (.IfExp (.Call (.Name "isinstance" p1) [.Name n p2, .Name x p3] [] p4) a e p5) ((x, v) :: r) d
/-- what is known of the classes -/
structure SubOk (K : PySem.W.Frag) (mg : Str → Option Value) (sub : Str → Str → Option Bool) : Prop where
  ex : ∀ (c d : Str) (b : Bool), sub c d = some b → ∃ C D, mg c = some (.ref C) ∧ mg d = some (.ref D) ∧ ErrC K C ∧ ErrC K D ∧ PySem.W.exmOne K (.ref C) (.ref D) = some b ∧ PySem.W.kitOne K (.ref C) (.ref D) = some b
theorem pe_chain {a C : Addr} {oe : Obj} {pn : List (Addr × Obj)} {n : Str} {i : Nat} {sub : Str → Str → Option Bool} {c : Str} (so : SubOk X.K X.mg sub) (gC : X.mg c = some (.ref C)) (eC : ErrC X.K C) (hz : Zc (.ref C) none oe) (hf : ∃ vs, oe.data = .fields vs) (hi : X.N[i]? = some n) (hv : Vis X.env.scope n) (hok : okN n = true)
    (hb : X.mg "isinstance" = none) (hg : Gl X "isinstance") : ∀ {e : Expr} {tb : List (Str × D)} {d v : D}, ChE n e tb d → (∀ p ∈ tb, Gl X p.1 ∧ okN p.1 = true) → pick sub c tb d = some v → ∃ w, conV v = some w ∧ PE (X.suite a ((a, oe) :: pn)) e (fun σ H Q => σ[i]? = some (some (.ref a)) ∧ Q w H) := by
  intro e tb d v h
  induction h with
  | last h1 h2 =>
    intro _ e
    cases e
    exact ⟨_, h1, PE.wk (h2 _) fun σ H Q q => q.2⟩
  | cons h1 h2 h3 ih =>
    rename_i x a' e' v' d' w' r' p1 p2 p3 p4 p5
    intro hx e
    have hx0 := hx (x, v') List.mem_cons_self
    have hxr : ∀ p ∈ r', Gl X p.1 ∧ okN p.1 = true := fun p m => hx p (List.mem_cons_of_mem _ m)
    have go : ∀ b, sub c x = some b → ∃ D, X.mg x = some (.ref D) ∧ PySem.W.kitOne X.K (.ref C) (.ref D) = some b ∧ PySem.W.keepIn X.K (.ref D) = true := fun b eb => by
      obtain ⟨C', D', g1, g2, _, k, _, k2⟩ := so.ex c x b eb
      rw [gC] at g1; cases g1
      exact ⟨D', g2, k2, k.k⟩
    have tst : ∀ b, sub c x = some b → PT (X.suite a ((a, oe) :: pn)) (.Call (.Name "isinstance" p1) [.Name n p2, .Name x p3] [] p4) (fun σ H Q => σ[i]? = some (some (.ref a)) ∧ Q b H) := fun b eb => by
      obtain ⟨D', g2, k2, kk⟩ := go b eb
      have cl : CallR (X.suite a ((a, oe) :: pn)) (.builtin "isinstance") (rIsE X.K C a) := call_isE eC.c hz hf
      refine PT.wk (pt_truth (pe_callB (X := X.suite a ((a, oe) :: pn)) cl hg hb PyProof.Rows.boot_isinstance (pa_cons (pe_var (X := X.suite a ((a, oe) :: pn)) hi hv (okN_1 hok) (okN_2 hok)) (pa_cons (pe_glob (X := X.suite a ((a, oe) :: pn)) (v := .ref D') hx0.1 g2 rfl (okN_1 hx0.2)) pa_nil)) (by decide) (by decide) rfl rfl) (plainT_ok rfl)) fun σ H Q ⟨q1, q2⟩ => ?_
      exact ⟨_, q1, .ref D', .ref D', b, rfl, fun u ru => ru, k2, b, rfl, q2⟩
    cases es : sub c x with
    | none => simp only [pick, es] at e; cases e
    | some b =>
      cases b with
      | true =>
        simp only [pick, es] at e
        cases e
        refine ⟨w', h1, PE.wk (pe_ifExp (tst true es) (h2 _) (⟨fun _ _ _ _ _ _ z => z.elim⟩ : PE _ _ (fun _ _ _ => False))) fun σ H Q ⟨q1, q2⟩ => ⟨q1, q2⟩⟩
      | false =>
        simp only [pick, es] at e
        obtain ⟨w, k1, k2⟩ := ih hxr e
        refine ⟨w, k1, PE.wk (pe_ifExp (tst false es) (h2 _) k2) fun σ H Q ⟨q1, q2⟩ => ⟨q1, q1, q2⟩⟩
/-- the suite of such a clause -/
theorem suite_ok {a C : Addr} {oe : Obj} {pn : List (Addr × Obj)} {n x : Str} {i k : Nat} {sub : Str → Str → Option Bool} {c : Str} {e : Expr} {tb : List (Str × D)} {d v : D} {p1 p2 : Pos} (hN : X.N.Nodup) (so : SubOk X.K X.mg sub) (gC : X.mg c = some (.ref C)) (eC : ErrC X.K C) (hz : Zc (.ref C) none oe) (hf : ∃ vs, oe.data = .fields vs)
    (hi : X.N[i]? = some n) (hv : Vis X.env.scope n) (hok : okN n = true) (hk : X.N[k]? = some x) (hx : Loc X.env.scope x) (hfn : X.fn x = true ∨ X.env.scope.names.lookup x = some .local) (hb : X.mg "isinstance" = none) (hg : Gl X "isinstance") (ch : ChE n e tb d) (hcl : ∀ p ∈ tb, Gl X p.1 ∧ okN p.1 = true) (hp : pick sub c tb d = some v)
    (hsw : swapsWith e (some (.Name x p1)) p2.line X.env = pure false) :
    ∃ w, conV v = some w ∧ PSs (X.suite a ((a, oe) :: pn)) [.Assign [.Name x p1] e p2] (fun D σ H => σ[i]? = some (some (.ref a)) ∧ D.nx (σ.set k (some w)) H) := by
  obtain ⟨w, h1, h2⟩ := pe_chain (a := a) (oe := oe) (pn := pn) so gC eC hz hf hi hv hok hb hg ch hcl hp
  exact ⟨w, h1, PSs.wk (pss_one (ps_set (X := X.suite a ((a, oe) :: pn)) (i := k) hN hk hx h2 hsw hfn)) fun D σ H ⟨q1, q2⟩ => ⟨q1, q2⟩⟩
theorem RelEnv.unset {K : PySem.W.Frag} {σ : St} {H : Hp} {g : Env} (r : RelEnv K σ H g) (i : Nat) (o : Option V) (hf : fx i = false) : RelEnv K (σ.set i o) H (g.set i none) ∧ Step fx σ g H (σ.set i o) (g.set i none) H := by
  have k : ∀ {j : Nat} {c : PL.C}, (g.set i none)[j]? = some (some c) → i ≠ j ∧ g[j]? = some (some c) := fun {j c} e => by
    rcases set_at e with ⟨_, e, _⟩ | ⟨hj, e⟩
    · cases e
    · exact ⟨hj, e⟩
  refine ⟨⟨by rw [List.length_set, List.length_set]; exact r.len, fun j c e => ?_, fun j j' b c c' v v' e1 s1 m1 e2 s2 m2 => ?_⟩, ⟨fun _ _ e _ => e, fun b ⟨j, c, v, e, s, m⟩ => ?_, fun j hj => ?_, fun _ h => h⟩⟩
  · obtain ⟨hj, e⟩ := k e
    obtain ⟨v, s, q⟩ := r.val j c e
    exact ⟨v, by rw [List.getElem?_set_ne hj]; exact s, q⟩
  · obtain ⟨h1, e1⟩ := k e1
    obtain ⟨h2, e2⟩ := k e2
    rw [List.getElem?_set_ne h1] at s1
    rw [List.getElem?_set_ne h2] at s2
    exact r.sep j j' b c c' v v' e1 s1 m1 e2 s2 m2
  · obtain ⟨h1, e⟩ := k e
    rw [List.getElem?_set_ne h1] at s
    exact .inl ⟨j, c, v, e, s, m⟩
  · rw [List.getElem?_set_ne]
    intro z; subst z; rw [hf] at hj; cases hj
theorem pick_conv {n c : Str} {sub : Str → Str → Option Bool} {e : Expr} {tb : List (Str × D)} {d v : D} (h : ChE n e tb d) : pick sub c tb d = some v → ∃ w, conV v = some w := by
  induction h with
  | last h1 _ => intro e; cases e; exact ⟨_, h1⟩
  | cons h1 h2 h3 ih =>
    rename_i x a' e' v' d' w' r' p1 p2 p3 p4 p5
    intro e
    cases es : sub c x with
    | none => simp only [pick, es] at e; cases e
    | some b =>
      cases b with
      | true => simp only [pick, es] at e; cases e; exact ⟨_, h1⟩
      | false => simp only [pick, es] at e; exact ih e
theorem s_try {mb : MS} {body : List Stmt} {n x c0 : Str} {i k : Nat} {sub : Str → Str → Option Bool} {e : Expr} {tb : List (Str × D)} {d : D} {p1 p2 np pos' : Pos} {C0 : Addr} (hs : X.stack = X.env :: X.outer) (hf : X.env.frame = some X.env.locals) (hN : X.N.Nodup) (tk : Takes X W)
    (so : SubOk X.K X.mg sub) (g0 : X.mg c0 = some (.ref C0)) (hg0 : Gl X c0) (hok0 : okN c0 = true) (hi : X.N[i]? = some n) (hln : X.env.scope.names.lookup n = some .local) (hok : okN n = true) (hk : X.N[k]? = some x) (hx : Loc X.env.scope x) (hfn : X.fn x = true ∨ X.env.scope.names.lookup x = some .local) (hik : i ≠ k)
    (hb : X.mg "isinstance" = none) (hg : Gl X "isinstance") (ch : ChE n e tb d) (hcl : ∀ p ∈ tb, Gl X p.1 ∧ okN p.1 = true) (hsw : swapsWith e (some (.Name x p1)) p2.line X.env = pure false) (hfi : fx i = false) (hfk : fx k = false)
    (hbd : ∀ (W : WX) (pn : List (Addr × Obj)) (xe : Value → Shared → Prop), Takes (X.tr pn xe) W → PassesOwn (model X.prog X.w) X.A X.env xe → PSs (X.tr pn xe) body (tS X.K X.mg fx W mb)) :
    PS X (.Try body [.ExceptHandler (some (.Name c0 np)) (some n) [.Assign [.Name x p1] e p2] pos'] [] [] pos) (tS X.K X.mg fx W fun g => tryM sub c0 i k tb d (mb g)) := by
  have hln' : X.env.kindOf n = some .local := hln
  refine PS.wk (ps_try_as (X := X) (c := .ref C0) (i := i) (Wout := W) (tb := fun W => tS X.K X.mg fx W mb) (ts := fun a cls d' D σ H => ∃ c C v w, cls = .ref C ∧ d' = none ∧ X.mg c = some (.ref C) ∧ ErrC X.K C ∧ pick sub c tb d = some v ∧ conV v = some w ∧ σ[i]? = some (some (.ref a)) ∧ D.nx (σ.set k (some w)) H)
    hs hf hN hi hln' ⟨hg0, okN_1 hok0, .inl g0⟩ tk hbd fun a oe cls d' pn hz hfl => ⟨fun pins s σ H D I ⟨c, C, v, w, e1, e2, gC, eC, hp, hw, q1, q2⟩ => ?_⟩) fun D σ H ⟨g, r, h⟩ => ⟨g, r, ?_⟩
  · subst e1; subst e2
    obtain ⟨w', h1, h2⟩ := suite_ok (X := X) (a := a) (oe := oe) (pn := pn) (k := k) (p1 := p1) (p2 := p2) hN so gC eC hz hfl hi (.inl hln) hok hk hx hfn hb hg ch hcl hp hsw
    rw [hw] at h1; cases h1
    exact h2.run pins s σ H D I ⟨q1, q2⟩
  · cases em : mb g with
    | exc c g' =>
      simp only [em, tryM] at h
      intro C σ' H' gC r1 s1
      cases es : sub c c0 with
      | none => simp only [es] at h; exact h.elim
      | some b =>
        obtain ⟨C', D', g1, g2, eC, eD, x1, _⟩ := so.ex c c0 b es
        rw [gC] at g1; cases g1
        rw [g0] at g2; cases g2
        refine ⟨b, x1, fun eb a ha => ?_, fun eb => ?_⟩
        · subst eb
          simp only [es] at h
          cases ep : pick sub c tb d with
          | none => simp only [ep] at h; exact h.elim
          | some v =>
            simp only [ep] at h
            obtain ⟨w, hw⟩ : ∃ w, conV v = some w := pick_conv ch ep
            obtain ⟨hil, h⟩ := h.ifp
            rw [← r1.len] at hil
            refine ⟨c, C, v, w, rfl, rfl, gC, eC, ep, hw, List.getElem?_set_self hil, ?_⟩
            obtain ⟨r2, s2⟩ := put_pu (i := k) r1 (conV_rp hw) hfk
            obtain ⟨r3, s3⟩ := r2.unset i none hfi
            have e0 : ((σ'.set i (some (V.ref a))).set k (some w)).set i none = (σ'.set k (some w)).set i none := by
              rw [List.set_comm _ _ hik, List.set_set]
            show D.nx (((σ'.set i (some (V.ref a))).set k (some w)).set i none) H'
            rw [e0]
            exact h _ H' r3 ((s1.trans s2).trans s3)
        · subst eb
          simp only [es] at h
          exact h C σ' H' gC r1 s1
    | nx g' => simp only [em, tryM] at h; exact h
    | rt c g' => simp only [em, tryM] at h; exact h
    | bk g' => simp only [em, tryM] at h; exact h
    | ct g' => simp only [em, tryM] at h; exact h
    | no => simp only [em, tryM] at h; exact h.elim
end
end PL
/-! PLp: the plain program is the text's: the check, and what it gives -/
namespace PL
open PySem PySem.Spec PyProof.Rows L2

/-! ### a block's context -/
theorem lookup_rel {env : PySem.Env} : ∀ {names : List (Str × NameKind)} {x : Str} {k : NameKind}, names.lookup x = some k →
    (names.map fun (n, k) => if (k == NameKind.free && env.scope.kind == .function && env.kindOf n == some .cell) then (n, NameKind.cell) else (n, k)).lookup x = some k ∨ (k = .free ∧ (names.map fun (n, k) => if (k == NameKind.free && env.scope.kind == .function && env.kindOf n == some .cell) then (n, NameKind.cell) else (n, k)).lookup x = some .cell)
  | [], _, _, h => by simp at h
  | (n, k0) :: r, x, k, h => by
    have ih := @lookup_rel env r x k
    show List.lookup x ((if (k0 == NameKind.free && env.scope.kind == .function && env.kindOf n == some .cell) = true then (n, NameKind.cell) else (n, k0)) :: _) = _ ∨ (k = .free ∧ List.lookup x ((if (k0 == NameKind.free && env.scope.kind == .function && env.kindOf n == some .cell) = true then (n, NameKind.cell) else (n, k0)) :: _) = _)
    cases hx : x == n with
    | true =>
      simp only [List.lookup_cons, hx] at h
      cases h
      by_cases hc : (k0 == NameKind.free && env.scope.kind == .function && env.kindOf n == some .cell) = true
      · rw [if_pos hc]
        have : k0 = .free := by
          simp only [Bool.and_eq_true, beq_iff_eq] at hc
          exact hc.1.1
        exact .inr ⟨this, by simp only [List.lookup_cons, hx]⟩
      · rw [if_neg hc]; exact .inl (by simp only [List.lookup_cons, hx])
    | false =>
      simp only [List.lookup_cons, hx] at h
      by_cases hc : (k0 == NameKind.free && env.scope.kind == .function && env.kindOf n == some .cell) = true
      · rw [if_pos hc]; simp only [List.lookup_cons, hx]; exact ih h
      · rw [if_neg hc]; simp only [List.lookup_cons, hx]; exact ih h
theorem rel_to {scope : Scope} {cl : List (Str × Addr)} {C : Addr} {env : PySem.Env} {x : Str} {k : NameKind} (h : scope.names.lookup x = some k) : (compEnvC scope cl C env).scope.names.lookup x = some k ∨ (k = .free ∧ (compEnvC scope cl C env).scope.names.lookup x = some .cell) := lookup_rel h
section
variable {Γ : Gm} {tb : List FS} {sc scope : Scope} {k : Nat} {W : WX} {X : Cx}
theorem visB_iff {x : Str} (h : visB sc x = true) : sc.names.lookup x = some .local ∨ sc.names.lookup x = some .cell ∨ sc.names.lookup x = some .free := by
  unfold visB at h
  split at h <;> first | exact .inl (by assumption) | exact .inr (.inl (by assumption)) | exact .inr (.inr (by assumption)) | cases h
theorem locB_iff {x : Str} (h : locB sc x = true) : sc.names.lookup x = some .local ∨ sc.names.lookup x = some .cell := by
  unfold locB at h
  split at h <;> first | exact .inl (by assumption) | exact .inr (by assumption) | cases h
theorem cfB_iff {x : Str} (h : cfB sc x = true) : sc.names.lookup x = some .cell ∨ sc.names.lookup x = some .free := by
  unfold cfB at h
  split at h <;> first | exact .inl (by assumption) | exact .inr (by assumption) | cases h
theorem gloB_iff {x : Str} (h : gloB sc x = true) : sc.names.lookup x = some .globalImplicit := by
  unfold gloB at h
  split at h <;> first | assumption | cases h
theorem lclB_iff {x : Str} (h : lclB sc x = true) : sc.names.lookup x = some .local := by
  unfold lclB at h
  split at h <;> first | assumption | cases h
theorem cf_of {x : Str} (h : sc.names.lookup x = some .cell ∨ sc.names.lookup x = some .free) : cfB sc x = true := by
  unfold cfB
  rcases h with h | h <;> rw [h]
theorem Cok.blk (c : Cok Γ tb sc k W X) (s : Shared) (H : Hp) (C : Addr) (cl : List (Str × Addr)) (fp : List Addr) : Cok Γ tb scope k W0 (X.blk s H scope (compEnvC scope cl C X.env) fp) where
  calm := c.calm
  N := c.N
  nd := c.nd
  room := c.room
  vis := fun x h => by
    show Vis (compEnvC scope cl C X.env).scope x
    rcases visB_iff h with h | h | h
    · rcases rel_to (cl := cl) (C := C) (env := X.env) h with e | ⟨z, _⟩
      · exact .inl e
      · cases z
    · rcases rel_to (cl := cl) (C := C) (env := X.env) h with e | ⟨z, _⟩
      · exact .inr (.inl e)
      · cases z
    · rcases rel_to (cl := cl) (C := C) (env := X.env) h with e | ⟨_, e⟩
      · exact .inr (.inr e)
      · exact .inr (.inl e)
  glo := fun x h => by
    show (compEnvC scope cl C X.env).scope.names.lookup x = some .globalImplicit
    rcases rel_to (cl := cl) (C := C) (env := X.env) (gloB_iff h) with e | ⟨z, _⟩
    · exact e
    · cases z
  loc := fun x h => by
    show Loc (compEnvC scope cl C X.env).scope x ∧ ((scope.names.lookup x == some .cell) = true ∨ (compEnvC scope cl C X.env).scope.names.lookup x = some .local)
    rcases locB_iff h with h | h
    · rcases rel_to (cl := cl) (C := C) (env := X.env) h with e | ⟨z, _⟩
      · exact ⟨.inl e, .inr e⟩
      · cases z
    · rcases rel_to (cl := cl) (C := C) (env := X.env) h with e | ⟨z, _⟩
      · exact ⟨.inr e, .inl (by rw [h]; rfl)⟩
      · cases z
  lcl := fun x h => by
    show (compEnvC scope cl C X.env).scope.names.lookup x = some .local
    rcases rel_to (cl := cl) (C := C) (env := X.env) (lclB_iff h) with e | ⟨z, _⟩
    · exact e
    · cases z
  cf := fun x h => by
    show (compEnvC scope cl C X.env).scope.names.lookup x = some .cell ∨ (compEnvC scope cl C X.env).scope.names.lookup x = some .free
    rcases cfB_iff h with h | h
    · rcases rel_to (cl := cl) (C := C) (env := X.env) h with e | ⟨z, _⟩
      · exact .inl e
      · cases z
    · rcases rel_to (cl := cl) (C := C) (env := X.env) h with e | ⟨_, e⟩
      · exact .inr e
      · exact .inl e
  blt := c.blt
  tk := takes0
  con := c.con
  fns := c.fns
end

/-! ### the check -/
def sEq : D → D → Bool
  | .none, .none => true
  | .bool a, .bool b => a == b
  | .int a, .int b => decide (a = b)
  | .str a, .str b => decide (a = b)
  | _, _ => false
theorem sEq_ok : ∀ {a b : D}, sEq a b = true → a = b
  | .none, .none, _ => rfl
  | .bool a, .bool b, h => by simp [sEq] at h; rw [h]
  | .int a, .int b, h => by simp [sEq] at h; rw [h]
  | .str a, .str b, h => by simp [sEq] at h; rw [h]
  | .none, .bool _, h | .none, .int _, h | .none, .str _, h | .none, .list _, h | .none, .tuple _, h | .none, .dict _, h => nomatch h
  | .bool _, .none, h | .bool _, .int _, h | .bool _, .str _, h | .bool _, .list _, h | .bool _, .tuple _, h | .bool _, .dict _, h => nomatch h
  | .int _, .none, h | .int _, .bool _, h | .int _, .str _, h | .int _, .list _, h | .int _, .tuple _, h | .int _, .dict _, h => nomatch h
  | .str _, .none, h | .str _, .bool _, h | .str _, .int _, h | .str _, .list _, h | .str _, .tuple _, h | .str _, .dict _, h => nomatch h
  | .list _, _, h => nomatch h
  | .tuple _, _, h => nomatch h
  | .dict _, _, h => nomatch h
def sEqs : List D → List D → Bool
  | [], [] => true
  | a :: r, b :: s => sEq a b && sEqs r s
  | _, _ => false
theorem sEqs_ok : ∀ {a b : List D}, sEqs a b = true → a = b
  | [], [], _ => rfl
  | a :: r, b :: s, h => by
    unfold sEqs at h
    rw [Bool.and_eq_true] at h
    rw [sEq_ok h.1, sEqs_ok h.2]
  | [], _ :: _, h => nomatch h
  | _ :: _, [], h => nomatch h
def conEq (a b : D) : Bool := match a, b with
  | .tuple x, .tuple y => sEqs x y
  | a, b => sEq a b
theorem conEq_ok {a b : D} (h : conEq a b = true) : a = b := by
  unfold conEq at h
  split at h
  · rw [sEqs_ok h]
  · exact sEq_ok h
def conB (d : D) : Expr → Bool
  | .Constant .none _ _ => sEq d .none
  | .Constant (.bool b) _ _ => sEq d (.bool b)
  | .Constant (.int i) _ _ => sEq d (.int i)
  | .Constant (.str s) _ _ => sEq d (.str s)
  | _ => false
theorem conB_ok {d : D} {e : Expr} (h : conB d e = true) : ∃ v, (∀ X : Cx, PE X e (tC v)) ∧ conV d = some v ∧ ∀ K H, Rp K H v d := by
  unfold conB at h
  split at h
  · cases sEq_ok h; exact ⟨.non, fun X => pe_non, rfl, fun _ _ => .non⟩
  · cases sEq_ok h; exact ⟨.bl _, fun X => pe_bl, rfl, fun _ _ => .bl _⟩
  · cases sEq_ok h; exact ⟨.int _, fun X => pe_int, rfl, fun _ _ => .int _⟩
  · cases sEq_ok h; exact ⟨.str _, fun X => pe_str, rfl, fun _ _ => .str _⟩
  · cases h
def ios : A → List Nat
  | .nil => []
  | .cons _ r => ios r
  | .io s r => s :: ios r
def alen : A → Nat
  | .nil => 0
  | .cons _ r => alen r + 1
  | .io _ r => alen r + 1
theorem evV_ios {tb : List FS} : ∀ {as : A} {g g' : Env} {avs : List AV}, evV tb as g = .ok avs g' → slotsOf avs = ios as ∧ avs.length = alen as
  | .nil, g, g', avs, h => by
    have h : R.ok ([] : List AV) g = .ok avs g' := h
    cases h; exact ⟨rfl, rfl⟩
  | .cons a r, g, g', avs, h => by
    have h : ((ev tb a g).bind fun x g1 => (evV tb r g1).bind fun xs g2 => .ok (.d x :: xs) g2) = .ok avs g' := h
    obtain ⟨x, g1, e1, h⟩ := bind_ok h
    obtain ⟨xs, g2, e2, h⟩ := bind_ok h
    cases h
    obtain ⟨i1, i2⟩ := evV_ios e2
    exact ⟨i1, by rw [List.length_cons, i2]; rfl⟩
  | .io s r, g, g', avs, h => by
    have h : (bound s g <| (evV tb r g).bind fun xs g2 => .ok (.s s :: xs) g2) = .ok avs g' := h
    unfold bound at h
    split at h
    · obtain ⟨xs, g2, e2, h⟩ := bind_ok h
      cases h
      obtain ⟨i1, i2⟩ := evV_ios e2
      exact ⟨by rw [show slotsOf (AV.s s :: xs) = s :: slotsOf xs from rfl, i1]; rfl, by rw [List.length_cons, i2]; rfl⟩
    · cases h
section
variable (Γ : Gm)
def slotB (sc : Scope) (i : Nat) : Expr → Bool
  | .Name x _ => decide (Γ.N[i]? = some x) && visB sc x && okN x
  | _ => false
def nmB (sc : Scope) (fx : Nat → Bool) (i : Nat) : Expr → Bool
  | .Name x _ => decide (Γ.N[i]? = some x) && locB sc x && !fx i
  | _ => false
def nmsB (sc : Scope) (fx : Nat → Bool) : List Nat → List Expr → Bool
  | [], [] => true
  | i :: r, e :: es => nmB Γ sc fx i e && nmsB sc fx r es
  | _, _ => false
def nqB (sc : Scope) (fx : Nat → Bool) : List Nat ⊕ Nat → Expr → Bool
  | .inr i, e => nmB Γ sc fx i e
  | .inl l, .Tuple es _ _ => nmsB Γ sc fx l es
  | _, _ => false
def nqsB (sc : Scope) (fx : Nat → Bool) : List (List Nat ⊕ Nat) → List Expr → Bool
  | [], [] => true
  | i :: r, e :: es => nqB Γ sc fx i e && nqsB sc fx r es
  | _, _ => false
def tgB (sc : Scope) (fx : Nat → Bool) (pr : Bool) : Tg → Expr → Bool
  | .nm i, e => !pr && nmB Γ sc fx i e
  | .tp l, .Tuple es _ _ => nmsB Γ sc fx l es
  | .tq l, .Tuple es _ _ => nqsB Γ sc fx l es
  | _, _ => false
def isPr : It → Bool
  | .enum _ => true
  | .zip _ _ => true
  | _ => false
def tysB (sc : Scope) : List Ty → List Expr → Bool
  | [], [] => true
  | t :: ts, .Name x _ :: es => !decide (t = .non) && decide (x = PySem.Str.ofString t.name) && gloB sc x && tysB sc ts es
  | _, _ => false
/-- a source that the set rule leaves as it is -/
def isComp : Expr → Bool
  | .Set _ _ _ => false
  | .SetComp _ _ _ _ => false
  | _ => true
def isTup : Expr → Bool
  | .Tuple _ _ _ => true
  | _ => false
def glbB (sc : Scope) (nm : Str) : Expr → Bool
  | .Name x _ => decide (x = nm) && gloB sc x
  | _ => false
mutual
def chkE : E → Scope → Expr → Bool
  | .var i, sc, e => slotB Γ sc i e
  | .con d, _, e => conB d e
  | .glob x d, sc, e => glbB sc x e && okN x && (Γ.cons.any fun p => decide (p.1 = x) && conEq p.2 d)
  | .tup as, sc, e => match e with
    | .Tuple es _ _ => chkA as sc es
    | _ => false
  | .fz f, sc, e => chkF f sc e
  | .bin op a b, sc, e => match e with
    | .BinOp l op' r _ => decide (op = op') && chkE a sc l && chkE b sc r
    | _ => false
  | .neg a, sc, e => match e with
    | .UnaryOp .USub x _ => chkE a sc x
    | _ => false
  | .not a, sc, e => match e with
    | .UnaryOp .Not x _ => chkE a sc x
    | _ => false
  | .and l, sc, e => match e with
    | .BoolOp .And es _ => chkEL l sc es
    | _ => false
  | .or l, sc, e => match e with
    | .BoolOp .Or es _ => chkEL l sc es
    | _ => false
  | .cmp op a b, sc, e => match e with
    | .Compare l [op'] [r] _ => decide (op = op') && !behindInMarks op r && chkE a sc l && chkE b sc r
    | _ => false
  | .cmpL op s b, sc, e => match e with
    | .Compare l [op'] [r] _ => decide (op = op') && !behindInMarks op r && slotB Γ sc s l && chkE b sc r
    | _ => false
  | .cmpR op a s, sc, e => match e with
    | .Compare l [op'] [r] _ => decide (op = op') && !behindInMarks op r && chkE a sc l && slotB Γ sc s r
    | _ => false
  | .chain op op' a b c, sc, e => match e with
    | .Compare l [o1, o2] [m, r] _ => decide (op = o1) && decide (op' = o2) && !lastMarks [op, op'] [m, r] && !behindInMarks op m && chkE a sc l && chkE b sc m && chkE c sc r
    | _ => false
  | .ite c a b, sc, e => match e with
    | .IfExp t x y _ => chkT c sc t && chkE a sc x && chkE b sc y
    | _ => false
  | .call k as, sc, e => match e with
    | .Call (.Name x _) es [] _ => (match Γ.fns[k]? with
      | some f => decide (x = f.name) && gloB sc x && okN x && es.all (fun e => !isStar e) && chkV as sc es && decide ((ios as).Nodup) && decide (alen as = f.io.length)
      | none => false)
    | _ => false
  | .callK k ks perm as, sc, e => match e with
    | .Call (.Name x _) [] kws _ => (match Γ.fns[k]? with
      | some f => decide (x = f.name) && gloB sc x && okN x && decide ((ks, perm) ∈ f.kws) && decide (kws.map (·.arg) = ks.map some) && chkK as sc kws
      | none => false)
    | _ => false
  | .bi f as, sc, e => match e with
    | .Call n (a :: es) [] _ => glbB sc f.name n && (a :: es).all (fun e => !isStar e) && chkA as sc (a :: es)
    | _ => false
  | .biS f s, sc, e => match e with
    | .Call n [a] [] _ => glbB sc f.name n && slotB Γ sc s a
    | _ => false
  | .isa a ts, sc, e => match e with
    | .Call n [x, t] [] _ => glbB sc "isinstance" n && !isStar x && chkE a sc x && (match t with
      | .Tuple es _ _ => tysB sc ts es && decide (ts.length ≤ 100)
      | t => match ts with
        | [ty] => tysB sc [ty] [t]
        | _ => false)
    | _ => false
  | .idx a i, sc, e => match e with
    | .Subscript x y _ => !isSlice y && chkE a sc x && chkE i sc y
    | _ => false
  | .idxS s i, sc, e => match e with
    | .Subscript x y _ => !isSlice y && slotB Γ sc s x && chkE i sc y
    | _ => false
  | .slc a lo hi, sc, e => match e with
    | .Subscript x (.Slice l h none _) _ => chkE a sc x && chkO lo sc l && chkO hi sc h
    | _ => false
  | .pop s i, sc, e => match e with
    | .Call (.Attribute x nm ap) [y] [] p => decide (nm = "pop") && (ap.endLine == p.line) && !isStar y && slotB Γ sc s x && chkE i sc y
    | _ => false
  | .popL s, sc, e => match e with
    | .Call (.Attribute x nm ap) [] [] p => decide (nm = "pop") && (ap.endLine == p.line) && slotB Γ sc s x
    | _ => false
  | .app s i, sc, e => match e with
    | .Call (.Attribute x nm ap) [y] [] p => decide (nm = "append") && (ap.endLine == p.line) && !isStar y && slotB Γ sc s x && chkE i sc y
    | _ => false
  | .ext s i, sc, e => match e with
    | .Call (.Attribute x nm ap) [y] [] p => decide (nm = "extend") && (ap.endLine == p.line) && !isStar y && slotB Γ sc s x && chkE i sc y
    | _ => false
  | .lenX s, sc, e => match e with
    | .Call n [a] [] _ => glbB sc "len" n && slotB Γ sc s a
    | _ => false
  | .atX s i, sc, e => match e with
    | .Subscript x y _ => !isSlice y && slotB Γ sc s x && chkE i sc y
    | _ => false
  | .tupR r, sc, e => match e with
    | .Call n [x] [] _ => glbB sc "tuple" n && !isStar x && chkRE r sc x
    | _ => false
  | _, _, _ => false
def chkRE : RE → Scope → Expr → Bool
  | .one a, sc, e => match e with
    | .Call n [x] [] _ => glbB sc "range" n && !isStar x && chkE a sc x
    | _ => false
  | .two a b, sc, e => match e with
    | .Call n [x, y] [] _ => glbB sc "range" n && !isStar x && !isStar y && chkE a sc x && chkE b sc y
    | _ => false
def chkO : OE → Scope → Option Expr → Bool
  | .no, _, none => true
  | .e a, sc, some e => chkE a sc e
  | _, _, _ => false
def chkEL : EL → Scope → List Expr → Bool
  | .one a, sc, es => match es with
    | [e] => chkE a sc e
    | _ => false
  | .cons a r, sc, es => match es with
    | e :: e2 :: es => chkE a sc e && chkEL r sc (e2 :: es)
    | _ => false
def chkT : T → Scope → Expr → Bool
  | .e a, sc, e => plainT e && chkE a sc e
  | .cmp op a b, sc, e => match e with
    | .Compare l [op'] [r] _ => decide (op = op') && !behindInMarks op r && chkE a sc l && chkE b sc r
    | _ => false
  | .cmpL op s b, sc, e => match e with
    | .Compare l [op'] [r] _ => decide (op = op') && !behindInMarks op r && slotB Γ sc s l && chkE b sc r
    | _ => false
  | .cmpR op a s, sc, e => match e with
    | .Compare l [op'] [r] _ => decide (op = op') && !behindInMarks op r && chkE a sc l && slotB Γ sc s r
    | _ => false
  | .chain op op' a b c, sc, e => match e with
    | .Compare l [o1, o2] [m, r] _ => decide (op = o1) && decide (op' = o2) && !lastMarks [op, op'] [m, r] && !behindInMarks op m && chkE a sc l && chkE b sc m && chkE c sc r
    | _ => false
  | .and l, sc, e => match e with
    | .BoolOp .And es _ => chkTL l sc es
    | _ => false
  | .or l, sc, e => match e with
    | .BoolOp .Or es _ => chkTL l sc es
    | _ => false
  | .not a, sc, e => match e with
    | .UnaryOp .Not x _ => chkT a sc x
    | _ => false
def chkTL : TL → Scope → List Expr → Bool
  | .one a, sc, es => match es with
    | [e] => chkT a sc e
    | _ => false
  | .cons a r, sc, es => match es with
    | e :: e2 :: es => chkT a sc e && chkTL r sc (e2 :: es)
    | _ => false
def chkOT : OT → Scope → List Expr → Bool
  | .no, _, [] => true
  | .t a, sc, [e] => chkT a sc e
  | _, _, _ => false
def chkA : A → Scope → List Expr → Bool
  | .nil, _, [] => true
  | .cons a r, sc, e :: es => !isStar e && chkE a sc e && chkA r sc es
  | _, _, _ => false
def chkK : A → Scope → List Keyword → Bool
  | .nil, _, [] => true
  | .cons a r, sc, k :: ks => chkE a sc k.value && chkK r sc ks
  | _, _, _ => false
def chkV : A → Scope → List Expr → Bool
  | .nil, _, [] => true
  | .cons a r, sc, e :: es => !isStar e && chkE a sc e && chkV r sc es
  | .io s r, sc, e :: es => !isStar e && slotB Γ sc s e && chkV r sc es
  | _, _, _ => false
def chkI : It → Scope → Expr → Bool
  | .val a, sc, e => chkE a sc e
  | .rng1 a, sc, e => match e with
    | .Call n [x] [] _ => glbB sc "range" n && !isStar x && chkE a sc x
    | _ => false
  | .rng2 a b, sc, e => match e with
    | .Call n [x, y] [] _ => glbB sc "range" n && !isStar x && !isStar y && chkE a sc x && chkE b sc y
    | _ => false
  | .rng3 a b c, sc, e => match e with
    | .Call n [x, y, z] [] _ => glbB sc "range" n && !isStar x && !isStar y && !isStar z && chkE a sc x && chkE b sc y && chkE c sc z
    | _ => false
  | .enum a, sc, e => match e with
    | .Call n [x] [] _ => glbB sc "enumerate" n && !isStar x && chkE a sc x
    | _ => false
  | .zip a b, sc, e => match e with
    | .Call n [x, y] [] _ => glbB sc "zip" n && !isStar x && !isStar y && chkE a sc x && chkE b sc y
    | _ => false
  | .slot _, _, _ => false
def chkF : F → Scope → Expr → Bool
  | .lst as, sc, e => match e with
    | .List es _ => chkA as sc es
    | _ => false
  | .comp own tg it ifs elt, sc, e => match e with
    | .ListComp x [⟨te, ie, ifs', 0⟩] scope _ => blkC Γ.N sc scope (own.map fun i => (Γ.N.getD i "", i)) && isComp ie && chkI it sc ie && (!isPr it || isTup te) && tgB Γ scope (fxo own) (isPr it) tg te && chkOT ifs scope ifs' && chkE elt scope x
    | _ => false
  | .copy a, sc, e => match e with
    | .Call n [x] [] _ => glbB sc "list" n && !isStar x && chkE a sc x
    | _ => false
  | .copyS s, sc, e => match e with
    | .Call n [x] [] _ => glbB sc "list" n && slotB Γ sc s x
    | _ => false
  | .lrng r, sc, e => match e with
    | .Call n [x] [] _ => glbB sc "list" n && !isStar x && chkRE r sc x
    | _ => false
  | .cutX s lo hi, sc, e => match e with
    | .Subscript x (.Slice l h none _) _ => slotB Γ sc s x && chkO lo sc l && chkO hi sc h
    | _ => false
  | .rep f n, sc, e => match e with
    | .BinOp l .Mult r _ => chkF f sc l && chkE n sc r
    | _ => false
  | .cat a b, sc, e => match e with
    | .BinOp l .Add r _ => chkE a sc l && chkE b sc r
    | _ => false
  | .sorted a, sc, e => match e with
    | .Call n [x] [] _ => glbB sc "sorted" n && !isStar x && chkE a sc x
    | _ => false
  | .slc a lo hi, sc, e => match e with
    | .Subscript x (.Slice l h none _) _ => chkE a sc x && chkO lo sc l && chkO hi sc h
    | _ => false
  | .call k as, sc, e => match e with
    | .Call (.Name x _) es [] _ => (match Γ.fns[k]? with
      | some f => decide (x = f.name) && gloB sc x && okN x && es.all (fun e => !isStar e) && chkV as sc es && decide ((ios as).Nodup) && decide (alen as = f.io.length)
      | none => false)
    | _ => false
  | _, _, _ => false
end
end
end PL
/-! PLq: what the check gives, for expressions -/
namespace PL
open PySem PySem.Spec PyProof.Rows L2
section
variable {Γ : Gm} {tb : List FS} {sc : Scope} {k : Nat} {W : WX} {X : Cx} {fx : Nat → Bool}
theorem slot_ok {i : Nat} {e : Expr} (c : Cok Γ tb sc k W X) (h : slotB Γ sc i e = true) : PE X e (tVar i) := by
  unfold slotB at h
  split at h
  · simp only [Bool.and_eq_true, decide_eq_true_eq] at h
    obtain ⟨⟨h1, h2⟩, h3⟩ := h
    exact pe_slot (by rw [c.N]; exact h1) (c.vis _ h2) h3
  · cases h
theorem var_ok {i : Nat} {e : Expr} (c : Cok Γ tb sc k W X) (h : slotB Γ sc i e = true) : PE X e (tE X.K X.mg fx W fun g => match g[i]? with
      | some (some (.pu d)) => .ok d g
      | some (some (.ml ds)) => .ok (.list ds) (g.set i (some (.pu (.list ds))))
      | _ => .no) := by
  unfold slotB at h
  split at h
  · simp only [Bool.and_eq_true, decide_eq_true_eq] at h
    obtain ⟨⟨h1, h2⟩, h3⟩ := h
    exact me_var (by rw [c.N]; exact h1) (c.vis _ h2) h3
  · cases h
theorem slot_star {i : Nat} {e : Expr} (h : slotB Γ sc i e = true) : isStar e = false ∧ isCall0 e = false := by
  unfold slotB at h
  split at h
  · exact ⟨rfl, rfl⟩
  · cases h
theorem glb_ok {nm : Str} {e : Expr} (c : Cok Γ tb sc k W X) (h : glbB sc nm e = true) : ∃ p, e = .Name nm p ∧ Gl X nm := by
  unfold glbB at h
  split at h
  · rename_i x p
    simp only [Bool.and_eq_true, decide_eq_true_eq] at h
    obtain ⟨h1, h2⟩ := h
    subst h1
    exact ⟨p, rfl, c.glo _ h2⟩
  · cases h
theorem nm_ok {i : Nat} {e : Expr} (c : Cok Γ tb sc k W X) (h : nmB Γ sc fx i e = true) : NmOk X e i ∧ fx i = false := by
  unfold nmB at h
  split at h
  · rename_i x p
    simp only [Bool.and_eq_true, decide_eq_true_eq, Bool.not_eq_true'] at h
    obtain ⟨⟨h1, h2⟩, h3⟩ := h
    exact ⟨⟨x, p, rfl, by rw [c.N]; exact h1, (c.loc x h2).1, (c.loc x h2).2⟩, h3⟩
  · cases h
theorem nms_ok (c : Cok Γ tb sc k W X) : ∀ {l : List Nat} {es : List Expr}, nmsB Γ sc fx l es = true → Paired (NmOk X) es l ∧ ∀ i ∈ l, fx i = false
  | [], [], _ => ⟨.nil, fun _ m => nomatch m⟩
  | i :: l, e :: es, h => by
    unfold nmsB at h
    rw [Bool.and_eq_true] at h
    obtain ⟨h1, h2⟩ := nm_ok c h.1
    obtain ⟨h3, h4⟩ := nms_ok c h.2
    exact ⟨.cons h1 h3, fun j m => by
      rcases List.mem_cons.mp m with rfl | m
      · exact h2
      · exact h4 j m⟩
  | [], _ :: _, h => nomatch h
  | _ :: _, [], h => nomatch h
theorem nqs_ok (c : Cok Γ tb sc k W X) : ∀ {l : List (List Nat ⊕ Nat)} {es : List Expr}, nqsB Γ sc fx l es = true → Paired (NqOk X) es l ∧ ∀ i ∈ tgS (.tq l), fx i = false
  | [], [], _ => ⟨.nil, fun _ m => nomatch m⟩
  | .inr i :: l, e :: es, h => by
    unfold nqsB at h
    rw [Bool.and_eq_true] at h
    obtain ⟨h1, h2⟩ := nm_ok c (show nmB Γ sc fx i e = true from h.1)
    obtain ⟨h3, h4⟩ := nqs_ok c h.2
    exact ⟨.cons (.nm h1) h3, fun j m => by
      have m : j ∈ [i] ++ tgS (.tq l) := m
      rcases List.mem_append.mp m with m | m
      · rw [List.mem_singleton.mp m]; exact h2
      · exact h4 j m⟩
  | .inl ll :: l, e :: es, h => by
    unfold nqsB at h
    rw [Bool.and_eq_true] at h
    obtain ⟨h0, h⟩ := h
    unfold nqB at h0
    obtain ⟨h3, h4⟩ := nqs_ok c h
    split at h0
    · rename_i hh
      cases hh
    · rename_i l' es' k' p' hh
      cases hh
      obtain ⟨h1, h2⟩ := nms_ok c h0
      exact ⟨.cons (.tp h1) h3, fun j m => by
        have m : j ∈ ll ++ tgS (.tq l) := m
        rcases List.mem_append.mp m with m | m
        · exact h2 j m
        · exact h4 j m⟩
    · cases h0
  | [], _ :: _, h => nomatch h
  | _ :: _, [], h => nomatch h
theorem tg_ok {pr : Bool} {tg : Tg} {e : Expr} (c : Cok Γ tb sc k W X) (h : tgB Γ sc fx pr tg e = true) : PG X e (tG X.K fx pr tg) := by
  have hN : X.N.Nodup := by rw [c.N]; exact c.nd
  unfold tgB at h
  split at h
  · rw [Bool.and_eq_true, Bool.not_eq_true'] at h
    obtain ⟨h1, h2⟩ := h
    subst h1
    obtain ⟨h3, h4⟩ := nm_ok c h2
    exact pg_nm hN h3 h4
  · obtain ⟨h1, h2⟩ := nms_ok c h
    exact pg_tp c.calm hN h1 h2
  · obtain ⟨h1, h2⟩ := nqs_ok c h
    exact pg_tq c.calm hN h1 h2
  · cases h
theorem tys_ok (c : Cok Γ tb sc k W X) : ∀ {ts : List Ty} {es : List Expr}, tysB sc ts es = true → (∀ t ∈ ts, t ≠ .non ∧ Gl X (PySem.Str.ofString t.name)) ∧ Paired (fun (t : Ty) (e : Expr) => ∃ q, e = .Name (PySem.Str.ofString t.name) q) ts es
  | [], [], _ => ⟨fun _ m => (nomatch m), .nil⟩
  | t :: ts, e :: es, h => by
    cases e with
    | Name x q =>
      unfold tysB at h
      simp only [Bool.and_eq_true, decide_eq_true_eq, Bool.not_eq_true', decide_eq_false_iff_not] at h
      obtain ⟨⟨⟨h1, h2⟩, h3⟩, h4⟩ := h
      subst h2
      obtain ⟨h5, h6⟩ := tys_ok c h4
      refine ⟨fun u m => ?_, .cons ⟨q, rfl⟩ h6⟩
      rcases List.mem_cons.mp m with rfl | m
      · exact ⟨h1, c.glo _ h3⟩
      · exact h5 u m
    | _ => exact nomatch h
  | [], _ :: _, h => nomatch h
  | _ :: _, [], h => nomatch h
theorem fold_ok {e : Expr} {env : PySem.Env} {x : Value} (h : isComp e = true) : foldedSetIterable e env x = pure x := by
  cases e <;> first | rfl | cases h
theorem bi_ok {f : Bi} {a : Expr} {es : List Expr} {p pos : Pos} {mr : M (List D)} (c : Cok Γ tb sc k W X) (hg : Gl X f.name) (hs : (a :: es).all (fun e => !isStar e) = true) (ha : PA X (a :: es) (tA X.K X.mg fx W mr)) :
    PE X (.Call (.Name f.name p) (a :: es) [] pos) (tE X.K X.mg fx W fun g => (mr g).bind fun ds g1 => lft (pBi f ds) g1) := by
  obtain ⟨n1, n2, n3⟩ := bi_name f
  rw [List.all_cons, Bool.and_eq_true, Bool.not_eq_true'] at hs
  rcases bi_B (X := X) c.calm c.un f with ⟨id, h1, h2⟩ | ⟨T, h1, h2⟩
  · exact me_bi h1 hg (c.blt _ n1) h2 hs.1 hs.2 ha n2 n3
  · exact me_biT h1 hg (c.blt _ n1) h2 hs.1 hs.2 ha n2 n3
theorem call_ok {j : Nat} {as : A} {x : Str} {es : List Expr} {p pos : Pos} {f : Fe} (c : Cok Γ tb sc k W X) (hf : Γ.fns[j]? = some f) (hx : x = f.name) (hg : gloB sc x = true) (hok : okN x = true) (hs : es.all (fun e => !isStar e) = true) (nd : (ios as).Nodup) (hl : alen as = f.io.length) (hn : es = [] → as = .nil)
    (ha : PA X es (tN X.K X.mg fx W (evV tb as))) : PE X (.Call (.Name x p) es [] pos) (tX X.K X.mg fx W (rC X.K) fun g => (evV tb as g).bind fun avs g1 => callF (fn tb j) avs g1) := by
  have fa := c.fns j f hf
  cases es with
  | nil =>
    cases hn rfl
    exact mc_call0 c.tk c.room fa hx (c.glo _ hg) hok hl
  | cons e es =>
    rw [List.all_cons, Bool.and_eq_true, Bool.not_eq_true'] at hs
    exact mc_call c.tk c.room fa hx (c.glo _ hg) hok hs.1 hs.2 ha fun g avs g' e => by
      obtain ⟨i1, i2⟩ := evV_ios e
      exact ⟨by rw [i1]; exact nd, by rw [i2]; exact hl⟩

theorem stars_of {es : List Expr} {sc : Scope} {as : A} (h : chkA Γ as sc es = true) : True := trivial
theorem chkV_nil {as : A} {sc : Scope} (h : chkV Γ as sc [] = true) : as = .nil := by
  cases as with
  | nil => rfl
  | cons a r => exact nomatch h
  | io s r => exact nomatch h
mutual
theorem sE : ∀ (e : E) {sc : Scope} {ast : Expr}, chkE Γ e sc ast = true → ∀ {k : Nat} {W : WX} {X : Cx} {fx : Nat → Bool}, Cok Γ tb sc k W X → PE X ast (tE X.K X.mg fx W (ev tb e))
  | .var i, sc, ast, h, k, W, X, fx, c => var_ok c h
  | .con d, sc, ast, h, k, W, X, fx, c => by
    obtain ⟨v, h1, _, h2⟩ := conB_ok (show conB d ast = true from h)
    exact me_con (h1 X) (h2 X.K)
  | .glob x d, sc, ast, h, k, W, X, fx, c => by
    have h : (glbB sc x ast && okN x && (Γ.cons.any fun p => decide (p.1 = x) && conEq p.2 d)) = true := h
    simp only [Bool.and_eq_true, List.any_eq_true, decide_eq_true_eq] at h
    obtain ⟨⟨h1, h2⟩, p, hp, h3, h4⟩ := h
    obtain ⟨q, rfl, hg⟩ := glb_ok c h1
    obtain ⟨v, u, g1, rv, hr⟩ := c.con p hp
    have e := conEq_ok h4
    subst h3
    rw [e] at hr
    exact me_con (pe_glob hg g1 rv (okN_1 h2)) hr
  | .tup as, sc, ast, h, k, W, X, fx, c => by
    cases ast with
    | Tuple es j pos => exact me_tup (sA as h c)
    | _ => exact absurd (show false = true from h) Bool.false_ne_true
  | .fz f, sc, ast, h, k, W, X, fx, c => me_fz (sF f h c)
  | .bin op a b, sc, ast, h, k, W, X, fx, c => by
    cases ast with
    | BinOp l op' r pos =>
      have h : (decide (op = op') && chkE Γ a sc l && chkE Γ b sc r) = true := h
      simp only [Bool.and_eq_true, decide_eq_true_eq] at h
      obtain ⟨⟨h1, h2⟩, h3⟩ := h
      subst h1
      exact me_bin (sE a h2 c) (sE b h3 c)
    | _ => exact absurd (show false = true from h) Bool.false_ne_true
  | .neg a, sc, ast, h, k, W, X, fx, c => by
    cases ast with
    | UnaryOp op x pos =>
      cases op with
      | USub => exact me_neg (sE a h c)
      | _ => exact absurd (show false = true from h) Bool.false_ne_true
    | _ => exact absurd (show false = true from h) Bool.false_ne_true
  | .not a, sc, ast, h, k, W, X, fx, c => by
    cases ast with
    | UnaryOp op x pos =>
      cases op with
      | Not => exact me_not (sE a h c)
      | _ => exact absurd (show false = true from h) Bool.false_ne_true
    | _ => exact absurd (show false = true from h) Bool.false_ne_true
  | .and l, sc, ast, h, k, W, X, fx, c => by
    cases ast with
    | BoolOp op es pos =>
      cases op with
      | And => exact (sEL l h c).1
      | Or => exact absurd (show false = true from h) Bool.false_ne_true
    | _ => exact absurd (show false = true from h) Bool.false_ne_true
  | .or l, sc, ast, h, k, W, X, fx, c => by
    cases ast with
    | BoolOp op es pos =>
      cases op with
      | Or => exact (sEL l h c).2
      | And => exact absurd (show false = true from h) Bool.false_ne_true
    | _ => exact absurd (show false = true from h) Bool.false_ne_true
  | .cmp op a b, sc, ast, h, k, W, X, fx, c => by
    cases ast with
    | Compare l ops rs pos =>
      match ops, rs, h with
      | [op'], [r], h =>
        have h : (decide (op = op') && !behindInMarks op r && chkE Γ a sc l && chkE Γ b sc r) = true := h
        simp only [Bool.and_eq_true, decide_eq_true_eq, Bool.not_eq_true'] at h
        obtain ⟨⟨⟨h1, h2⟩, h3⟩, h4⟩ := h
        subst h1
        exact me_cmp c.un h2 (sE a h3 c) (sE b h4 c)
    | _ => exact absurd (show false = true from h) Bool.false_ne_true
  | .cmpL op s b, sc, ast, h, k, W, X, fx, c => by
    cases ast with
    | Compare l ops rs pos =>
      match ops, rs, h with
      | [op'], [r], h =>
        have h : (decide (op = op') && !behindInMarks op r && slotB Γ sc s l && chkE Γ b sc r) = true := h
        simp only [Bool.and_eq_true, decide_eq_true_eq, Bool.not_eq_true'] at h
        obtain ⟨⟨⟨h1, h2⟩, h3⟩, h4⟩ := h
        subst h1
        exact me_cmpL c.un h2 (slot_ok c h3) (sE b h4 c)
    | _ => exact absurd (show false = true from h) Bool.false_ne_true
  | .cmpR op a s, sc, ast, h, k, W, X, fx, c => by
    cases ast with
    | Compare l ops rs pos =>
      match ops, rs, h with
      | [op'], [r], h =>
        have h : (decide (op = op') && !behindInMarks op r && chkE Γ a sc l && slotB Γ sc s r) = true := h
        simp only [Bool.and_eq_true, decide_eq_true_eq, Bool.not_eq_true'] at h
        obtain ⟨⟨⟨h1, h2⟩, h3⟩, h4⟩ := h
        subst h1
        exact me_cmpR c.un h2 (sE a h3 c) (slot_ok c h4)
    | _ => exact absurd (show false = true from h) Bool.false_ne_true
  | .chain op op' a b d, sc, ast, h, k, W, X, fx, c => by
    cases ast with
    | Compare l ops rs pos =>
      match ops, rs, h with
      | [o1, o2], [m, r], h =>
        have h : (decide (op = o1) && decide (op' = o2) && !lastMarks [op, op'] [m, r] && !behindInMarks op m && chkE Γ a sc l && chkE Γ b sc m && chkE Γ d sc r) = true := h
        simp only [Bool.and_eq_true, decide_eq_true_eq, Bool.not_eq_true'] at h
        obtain ⟨⟨⟨⟨⟨⟨h1, h2⟩, h3⟩, h4⟩, h5⟩, h6⟩, h7⟩ := h
        subst h1; subst h2
        exact me_chain c.un (sE a h5 c) (sE b h6 c) (sE d h7 c) h3 h4
    | _ => exact absurd (show false = true from h) Bool.false_ne_true
  | .ite t a b, sc, ast, h, k, W, X, fx, c => by
    cases ast with
    | IfExp u x y pos =>
      have h : (chkT Γ t sc u && chkE Γ a sc x && chkE Γ b sc y) = true := h
      simp only [Bool.and_eq_true] at h
      obtain ⟨⟨h1, h2⟩, h3⟩ := h
      exact me_ite (sT t h1 c) (sE a h2 c) (sE b h3 c)
    | _ => exact absurd (show false = true from h) Bool.false_ne_true
  | .call j as, sc, ast, h, k, W, X, fx, c => by
    cases ast with
    | Call fn es kws pos =>
      cases fn with
      | Name x p =>
        cases kws with
        | nil =>
          have h : (match Γ.fns[j]? with
            | some f => decide (x = f.name) && gloB sc x && okN x && es.all (fun e => !isStar e) && chkV Γ as sc es && decide ((ios as).Nodup) && decide (alen as = f.io.length)
            | none => false) = true := h
          cases hf : Γ.fns[j]? with
          | none => rw [hf] at h; cases h
          | some f =>
            rw [hf] at h
            simp only [Bool.and_eq_true, decide_eq_true_eq] at h
            obtain ⟨⟨⟨⟨⟨⟨h1, h2⟩, h3⟩, h4⟩, h5⟩, h6⟩, h7⟩ := h
            exact me_ofC (call_ok c hf h1 h2 h3 h4 h6 h7 (fun e => by subst e; exact chkV_nil h5) (sV as h5 c))
        | cons _ _ => exact absurd (show false = true from h) Bool.false_ne_true
      | _ => exact absurd (show false = true from h) Bool.false_ne_true
    | _ => exact absurd (show false = true from h) Bool.false_ne_true
  | .callK j ks perm as, sc, ast, h, k, W, X, fx, c => by
    cases ast with
    | Call fn es kws pos =>
      cases fn with
      | Name x p =>
        cases es with
        | nil =>
          have h : (match Γ.fns[j]? with
            | some f => decide (x = f.name) && gloB sc x && okN x && decide ((ks, perm) ∈ f.kws) && decide (kws.map (·.arg) = ks.map some) && chkK Γ as sc kws
            | none => false) = true := h
          cases hf : Γ.fns[j]? with
          | none => rw [hf] at h; cases h
          | some f =>
            rw [hf] at h
            simp only [Bool.and_eq_true, decide_eq_true_eq] at h
            obtain ⟨⟨⟨⟨⟨h1, h2⟩, h3⟩, h4⟩, h5⟩, h6⟩ := h
            exact me_ofC (mc_callK c.tk c.room (c.fns j f hf) h1 (c.glo _ h2) h3 h4 h5 (sK as h6 c))
        | cons _ _ => exact absurd (show false = true from h) Bool.false_ne_true
      | _ => exact absurd (show false = true from h) Bool.false_ne_true
    | _ => exact absurd (show false = true from h) Bool.false_ne_true
  | .bi f as, sc, ast, h, k, W, X, fx, c => by
    cases ast with
    | Call n es kws pos =>
      match es, kws, h with
      | x :: es, [], h =>
        have h : (glbB sc f.name n && (x :: es).all (fun e => !isStar e) && chkA Γ as sc (x :: es)) = true := h
        simp only [Bool.and_eq_true] at h
        obtain ⟨⟨h1, h2⟩, h3⟩ := h
        obtain ⟨p, rfl, hg⟩ := glb_ok c h1
        exact bi_ok c hg h2 (sA as h3 c)
    | _ => exact absurd (show false = true from h) Bool.false_ne_true
  | .biS f s, sc, ast, h, k, W, X, fx, c => by
    cases ast with
    | Call n es kws pos =>
      match es, kws, h with
      | [x], [], h =>
        have h : (glbB sc f.name n && slotB Γ sc s x) = true := h
        simp only [Bool.and_eq_true] at h
        obtain ⟨h1, h2⟩ := h
        obtain ⟨p, rfl, hg⟩ := glb_ok c h1
        obtain ⟨n1, n2, n3⟩ := bi_name f
        exact me_biS (bi_B c.calm c.un f) hg (c.blt _ n1) (slot_star h2).1 (slot_ok c h2) n2 n3
    | _ => exact absurd (show false = true from h) Bool.false_ne_true
  | .isa a ts, sc, ast, h, k, W, X, fx, c => by
    cases ast with
    | Call n es kws pos =>
      match es, kws, h with
      | [x, t], [], h =>
        unfold chkE at h
        simp only [Bool.and_eq_true, Bool.not_eq_true'] at h
        obtain ⟨⟨⟨h1, h2⟩, h3⟩, h4⟩ := h
        obtain ⟨p, rfl, hg⟩ := glb_ok c h1
        split at h4
        · simp only [Bool.and_eq_true, decide_eq_true_eq] at h4
          obtain ⟨q1, q2⟩ := tys_ok c h4.1
          exact me_isaT h4.2 q1 q2 h2 hg c.blt (sE a h3 c)
        · split at h4
          · obtain ⟨q1, q2⟩ := tys_ok c h4
            cases q2 with
            | cons e _ =>
              obtain ⟨q, rfl⟩ := e
              obtain ⟨q3, q4⟩ := q1 _ List.mem_cons_self
              exact me_isa1 q3 h2 hg q4 c.blt (sE a h3 c)
          · cases h4
    | _ => exact absurd (show false = true from h) Bool.false_ne_true
  | .idx a i, sc, ast, h, k, W, X, fx, c => by
    cases ast with
    | Subscript x y pos =>
      have h : (!isSlice y && chkE Γ a sc x && chkE Γ i sc y) = true := h
      simp only [Bool.and_eq_true, Bool.not_eq_true'] at h
      obtain ⟨⟨h1, h2⟩, h3⟩ := h
      exact me_idx h1 (sE a h2 c) (sE i h3 c)
    | _ => exact absurd (show false = true from h) Bool.false_ne_true
  | .idxS s i, sc, ast, h, k, W, X, fx, c => by
    cases ast with
    | Subscript x y pos =>
      have h : (!isSlice y && slotB Γ sc s x && chkE Γ i sc y) = true := h
      simp only [Bool.and_eq_true, Bool.not_eq_true'] at h
      obtain ⟨⟨h1, h2⟩, h3⟩ := h
      exact me_idxS h1 (slot_ok c h2) (sE i h3 c)
    | _ => exact absurd (show false = true from h) Bool.false_ne_true
  | .slc a lo hi, sc, ast, h, k, W, X, fx, c => by
    cases ast with
    | Subscript x y pos =>
      cases y with
      | Slice l u s p =>
        cases s with
        | none =>
          have h : (chkE Γ a sc x && chkO Γ lo sc l && chkO Γ hi sc u) = true := h
          simp only [Bool.and_eq_true] at h
          obtain ⟨⟨h1, h2⟩, h3⟩ := h
          exact me_slc (sE a h1 c) (sO lo h2 c) (sO hi h3 c)
        | some _ => exact absurd (show false = true from h) Bool.false_ne_true
      | _ => exact absurd (show false = true from h) Bool.false_ne_true
    | _ => exact absurd (show false = true from h) Bool.false_ne_true
  | .pop s i, sc, ast, h, k, W, X, fx, c => by
    cases ast with
    | Call n es kws pos =>
      cases n with
      | Attribute x nm ap =>
        match es, kws, h with
        | [y], [], h =>
          have h : (decide (nm = "pop") && (ap.endLine == pos.line) && !isStar y && slotB Γ sc s x && chkE Γ i sc y) = true := h
          simp only [Bool.and_eq_true, decide_eq_true_eq, Bool.not_eq_true'] at h
          obtain ⟨⟨⟨⟨h1, h2⟩, h3⟩, h4⟩, h5⟩ := h
          subst h1
          exact me_pop h3 (slot_star h4).2 h2 (slot_ok c h4) (sE i h5 c)
      | _ => exact absurd (show false = true from h) Bool.false_ne_true
    | _ => exact absurd (show false = true from h) Bool.false_ne_true
  | .popL s, sc, ast, h, k, W, X, fx, c => by
    cases ast with
    | Call n es kws pos =>
      cases n with
      | Attribute x nm ap =>
        match es, kws, h with
        | [], [], h =>
          have h : (decide (nm = "pop") && (ap.endLine == pos.line) && slotB Γ sc s x) = true := h
          simp only [Bool.and_eq_true, decide_eq_true_eq] at h
          obtain ⟨⟨h1, h2⟩, h4⟩ := h
          subst h1
          exact me_popL (slot_star h4).2 h2 (slot_ok c h4)
      | _ => exact absurd (show false = true from h) Bool.false_ne_true
    | _ => exact absurd (show false = true from h) Bool.false_ne_true
  | .app s i, sc, ast, h, k, W, X, fx, c => by
    cases ast with
    | Call n es kws pos =>
      cases n with
      | Attribute x nm ap =>
        match es, kws, h with
        | [y], [], h =>
          have h : (decide (nm = "append") && (ap.endLine == pos.line) && !isStar y && slotB Γ sc s x && chkE Γ i sc y) = true := h
          simp only [Bool.and_eq_true, decide_eq_true_eq, Bool.not_eq_true'] at h
          obtain ⟨⟨⟨⟨h1, h2⟩, h3⟩, h4⟩, h5⟩ := h
          subst h1
          exact me_app h3 (slot_star h4).2 h2 (slot_ok c h4) (sE i h5 c)
      | _ => exact absurd (show false = true from h) Bool.false_ne_true
    | _ => exact absurd (show false = true from h) Bool.false_ne_true
  | .ext s i, sc, ast, h, k, W, X, fx, c => by
    cases ast with
    | Call n es kws pos =>
      cases n with
      | Attribute x nm ap =>
        match es, kws, h with
        | [y], [], h =>
          have h : (decide (nm = "extend") && (ap.endLine == pos.line) && !isStar y && slotB Γ sc s x && chkE Γ i sc y) = true := h
          simp only [Bool.and_eq_true, decide_eq_true_eq, Bool.not_eq_true'] at h
          obtain ⟨⟨⟨⟨h1, h2⟩, h3⟩, h4⟩, h5⟩ := h
          subst h1
          exact me_ext h3 (slot_star h4).2 h2 (slot_ok c h4) (sE i h5 c)
      | _ => exact absurd (show false = true from h) Bool.false_ne_true
    | _ => exact absurd (show false = true from h) Bool.false_ne_true
  | .lenX s, sc, ast, h, k, W, X, fx, c => by
    cases ast with
    | Call n es kws pos =>
      match es, kws, h with
      | [x], [], h =>
        have h : (glbB sc "len" n && slotB Γ sc s x) = true := h
        simp only [Bool.and_eq_true] at h
        obtain ⟨h1, h2⟩ := h
        obtain ⟨p, rfl, hg⟩ := glb_ok c h1
        exact me_lenX (slot_star h2).1 hg c.blt (slot_ok c h2)
    | _ => exact absurd (show false = true from h) Bool.false_ne_true
  | .atX s i, sc, ast, h, k, W, X, fx, c => by
    cases ast with
    | Subscript x y pos =>
      have h : (!isSlice y && slotB Γ sc s x && chkE Γ i sc y) = true := h
      simp only [Bool.and_eq_true, Bool.not_eq_true'] at h
      obtain ⟨⟨h1, h2⟩, h3⟩ := h
      exact me_atX h1 (slot_ok c h2) (sE i h3 c)
    | _ => exact absurd (show false = true from h) Bool.false_ne_true
  | .tupR r, sc, ast, h, k, W, X, fx, c => by
    cases ast with
    | Call n es kws pos =>
      match es, kws, h with
      | [x], [], h =>
        have h : (glbB sc "tuple" n && !isStar x && chkRE Γ r sc x) = true := h
        simp only [Bool.and_eq_true, Bool.not_eq_true'] at h
        obtain ⟨⟨h1, h2⟩, h3⟩ := h
        obtain ⟨p, rfl, hg⟩ := glb_ok c h1
        exact me_trng h2 c.calm hg c.blt (sRE r h3 c)
    | _ => exact absurd (show false = true from h) Bool.false_ne_true
  | .rev a, sc, ast, h, k, W, X, fx, c => absurd (show false = true from h) Bool.false_ne_true
  | .index a b, sc, ast, h, k, W, X, fx, c => absurd (show false = true from h) Bool.false_ne_true
  | .indexS s b, sc, ast, h, k, W, X, fx, c => absurd (show false = true from h) Bool.false_ne_true
theorem sRE : ∀ (r : RE) {sc : Scope} {ast : Expr}, chkRE Γ r sc ast = true → ∀ {k : Nat} {W : WX} {X : Cx} {fx : Nat → Bool}, Cok Γ tb sc k W X → PRg X ast (tR X.K X.mg fx W (evR tb r))
  | .one a, sc, ast, h, k, W, X, fx, c => by
    cases ast with
    | Call n es kws pos =>
      match es, kws, h with
      | [x], [], h =>
        have h : (glbB sc "range" n && !isStar x && chkE Γ a sc x) = true := h
        simp only [Bool.and_eq_true, Bool.not_eq_true'] at h
        obtain ⟨⟨h1, h2⟩, h3⟩ := h
        obtain ⟨p, rfl, hg⟩ := glb_ok c h1
        exact mr_1 h2 hg c.blt (sE a h3 c)
    | _ => exact absurd (show false = true from h) Bool.false_ne_true
  | .two a b, sc, ast, h, k, W, X, fx, c => by
    cases ast with
    | Call n es kws pos =>
      match es, kws, h with
      | [x, y], [], h =>
        have h : (glbB sc "range" n && !isStar x && !isStar y && chkE Γ a sc x && chkE Γ b sc y) = true := h
        simp only [Bool.and_eq_true, Bool.not_eq_true'] at h
        obtain ⟨⟨⟨⟨h1, h2⟩, h3⟩, h4⟩, h5⟩ := h
        obtain ⟨p, rfl, hg⟩ := glb_ok c h1
        exact mr_2 h2 h3 hg c.blt (sE a h4 c) (sE b h5 c)
    | _ => exact absurd (show false = true from h) Bool.false_ne_true
theorem sO : ∀ (o : OE) {sc : Scope} {ast : Option Expr}, chkO Γ o sc ast = true → ∀ {k : Nat} {W : WX} {X : Cx} {fx : Nat → Bool}, Cok Γ tb sc k W X → PO X ast (tO X.K X.mg fx W (evO tb o))
  | .no, sc, none, h, k, W, X, fx, c => mo_no
  | .e a, sc, some e, h, k, W, X, fx, c => mo_e (sE a h c)
  | .no, sc, some _, h, k, W, X, fx, c => absurd (show false = true from h) Bool.false_ne_true
  | .e a, sc, none, h, k, W, X, fx, c => absurd (show false = true from h) Bool.false_ne_true
theorem sEL : ∀ (l : EL) {sc : Scope} {es : List Expr}, chkEL Γ l sc es = true → ∀ {k : Nat} {W : WX} {X : Cx} {fx : Nat → Bool} {pos : Pos}, Cok Γ tb sc k W X → PE X (.BoolOp .And es pos) (tE X.K X.mg fx W (evAnd tb l)) ∧ PE X (.BoolOp .Or es pos) (tE X.K X.mg fx W (evOr tb l))
  | .one a, sc, es, h, k, W, X, fx, pos, c => by
    match es, h with
    | [e], h => exact ⟨me_one (sE a h c), me_one (sE a h c)⟩
  | .cons a r, sc, es, h, k, W, X, fx, pos, c => by
    match es, h with
    | e :: e2 :: es, h =>
      have h : (chkE Γ a sc e && chkEL Γ r sc (e2 :: es)) = true := h
      rw [Bool.and_eq_true] at h
      obtain ⟨q1, q2⟩ := sEL r h.2 (pos := pos) (fx := fx) c
      exact ⟨me_and (sE a h.1 c) q1, me_or (sE a h.1 c) q2⟩
theorem sT : ∀ (t : T) {sc : Scope} {ast : Expr}, chkT Γ t sc ast = true → ∀ {k : Nat} {W : WX} {X : Cx} {fx : Nat → Bool}, Cok Γ tb sc k W X → PT X ast (tT X.K X.mg fx W (evT tb t))
  | .e a, sc, ast, h, k, W, X, fx, c => by
    have h : (plainT ast && chkE Γ a sc ast) = true := h
    rw [Bool.and_eq_true] at h
    exact mt_e h.1 (sE a h.2 c)
  | .cmp op a b, sc, ast, h, k, W, X, fx, c => by
    cases ast with
    | Compare l ops rs pos =>
      match ops, rs, h with
      | [op'], [r], h =>
        have h : (decide (op = op') && !behindInMarks op r && chkE Γ a sc l && chkE Γ b sc r) = true := h
        simp only [Bool.and_eq_true, decide_eq_true_eq, Bool.not_eq_true'] at h
        obtain ⟨⟨⟨h1, h2⟩, h3⟩, h4⟩ := h
        subst h1
        exact mt_cmp c.un h2 (sE a h3 c) (sE b h4 c)
    | _ => exact absurd (show false = true from h) Bool.false_ne_true
  | .cmpL op s b, sc, ast, h, k, W, X, fx, c => by
    cases ast with
    | Compare l ops rs pos =>
      match ops, rs, h with
      | [op'], [r], h =>
        have h : (decide (op = op') && !behindInMarks op r && slotB Γ sc s l && chkE Γ b sc r) = true := h
        simp only [Bool.and_eq_true, decide_eq_true_eq, Bool.not_eq_true'] at h
        obtain ⟨⟨⟨h1, h2⟩, h3⟩, h4⟩ := h
        subst h1
        exact mt_cmpL c.un h2 (slot_ok c h3) (sE b h4 c)
    | _ => exact absurd (show false = true from h) Bool.false_ne_true
  | .cmpR op a s, sc, ast, h, k, W, X, fx, c => by
    cases ast with
    | Compare l ops rs pos =>
      match ops, rs, h with
      | [op'], [r], h =>
        have h : (decide (op = op') && !behindInMarks op r && chkE Γ a sc l && slotB Γ sc s r) = true := h
        simp only [Bool.and_eq_true, decide_eq_true_eq, Bool.not_eq_true'] at h
        obtain ⟨⟨⟨h1, h2⟩, h3⟩, h4⟩ := h
        subst h1
        exact mt_cmpR c.un h2 (sE a h3 c) (slot_ok c h4)
    | _ => exact absurd (show false = true from h) Bool.false_ne_true
  | .chain op op' a b d, sc, ast, h, k, W, X, fx, c => by
    cases ast with
    | Compare l ops rs pos =>
      match ops, rs, h with
      | [o1, o2], [m, r], h =>
        have h : (decide (op = o1) && decide (op' = o2) && !lastMarks [op, op'] [m, r] && !behindInMarks op m && chkE Γ a sc l && chkE Γ b sc m && chkE Γ d sc r) = true := h
        simp only [Bool.and_eq_true, decide_eq_true_eq, Bool.not_eq_true'] at h
        obtain ⟨⟨⟨⟨⟨⟨h1, h2⟩, h3⟩, h4⟩, h5⟩, h6⟩, h7⟩ := h
        subst h1; subst h2
        exact mt_chain c.un (sE a h5 c) (sE b h6 c) (sE d h7 c) h3 h4
    | _ => exact absurd (show false = true from h) Bool.false_ne_true
  | .and l, sc, ast, h, k, W, X, fx, c => by
    cases ast with
    | BoolOp op es pos =>
      cases op with
      | And => exact (sTL l h c).1.pt
      | Or => exact absurd (show false = true from h) Bool.false_ne_true
    | _ => exact absurd (show false = true from h) Bool.false_ne_true
  | .or l, sc, ast, h, k, W, X, fx, c => by
    cases ast with
    | BoolOp op es pos =>
      cases op with
      | Or => exact (sTL l h c).2.pt
      | And => exact absurd (show false = true from h) Bool.false_ne_true
    | _ => exact absurd (show false = true from h) Bool.false_ne_true
  | .not a, sc, ast, h, k, W, X, fx, c => by
    cases ast with
    | UnaryOp op x pos =>
      cases op with
      | Not => exact mt_not (sT a h c)
      | _ => exact absurd (show false = true from h) Bool.false_ne_true
    | _ => exact absurd (show false = true from h) Bool.false_ne_true
theorem sTL : ∀ (l : TL) {sc : Scope} {es : List Expr}, chkTL Γ l sc es = true → ∀ {k : Nat} {W : WX} {X : Cx} {fx : Nat → Bool} {pos : Pos}, Cok Γ tb sc k W X → PW X (.BoolOp .And es pos) (tT X.K X.mg fx W (evTA tb l)) ∧ PW X (.BoolOp .Or es pos) (tT X.K X.mg fx W (evTO tb l))
  | .one a, sc, es, h, k, W, X, fx, pos, c => by
    match es, h with
    | [e], h => exact ⟨mw_and1 (sT a h c), mw_or1 (sT a h c)⟩
  | .cons a r, sc, es, h, k, W, X, fx, pos, c => by
    match es, h with
    | e :: e2 :: es, h =>
      have h : (chkT Γ a sc e && chkTL Γ r sc (e2 :: es)) = true := h
      rw [Bool.and_eq_true] at h
      obtain ⟨q1, q2⟩ := sTL r h.2 (pos := pos) (fx := fx) c
      exact ⟨mw_and (sT a h.1 c) q1, mw_or (sT a h.1 c) q2⟩
theorem sOT : ∀ (o : OT) {sc : Scope} {es : List Expr}, chkOT Γ o sc es = true → ∀ {k : Nat} {W : WX} {X : Cx} {fx : Nat → Bool}, Cok Γ tb sc k W X → PTs X es (tT X.K X.mg fx W (evOT tb o))
  | .no, sc, [], h, k, W, X, fx, c => mts_nil
  | .t a, sc, [e], h, k, W, X, fx, c => pts_one (sT a h c)
  | .no, sc, _ :: _, h, k, W, X, fx, c => absurd (show false = true from h) Bool.false_ne_true
  | .t a, sc, [], h, k, W, X, fx, c => absurd (show false = true from h) Bool.false_ne_true
  | .t a, sc, _ :: _ :: _, h, k, W, X, fx, c => absurd (show false = true from h) Bool.false_ne_true
theorem sA : ∀ (as : A) {sc : Scope} {es : List Expr}, chkA Γ as sc es = true → ∀ {k : Nat} {W : WX} {X : Cx} {fx : Nat → Bool}, Cok Γ tb sc k W X → PA X es (tA X.K X.mg fx W (evA tb as))
  | .nil, sc, [], h, k, W, X, fx, c => ma_nil
  | .cons a r, sc, e :: es, h, k, W, X, fx, c => by
    have h : (!isStar e && chkE Γ a sc e && chkA Γ r sc es) = true := h
    simp only [Bool.and_eq_true, Bool.not_eq_true'] at h
    exact ma_cons h.1.1 (sE a h.1.2 c) (sA r h.2 c)
  | .nil, sc, _ :: _, h, k, W, X, fx, c => absurd (show false = true from h) Bool.false_ne_true
  | .cons a r, sc, [], h, k, W, X, fx, c => absurd (show false = true from h) Bool.false_ne_true
  | .io s r, sc, es, h, k, W, X, fx, c => absurd (show false = true from h) Bool.false_ne_true
theorem sK : ∀ (as : A) {sc : Scope} {kws : List Keyword}, chkK Γ as sc kws = true → ∀ {k : Nat} {W : WX} {X : Cx} {fx : Nat → Bool}, Cok Γ tb sc k W X → PK X kws (tA X.K X.mg fx W (evA tb as))
  | .nil, sc, [], h, k, W, X, fx, c => mk_nil
  | .cons a r, sc, ⟨nm, e, kp⟩ :: kws, h, k, W, X, fx, c => by
    have h : (chkE Γ a sc e && chkK Γ r sc kws) = true := h
    simp only [Bool.and_eq_true] at h
    exact mk_cons (sE a h.1 c) (sK r h.2 c)
  | .nil, sc, _ :: _, h, k, W, X, fx, c => absurd (show false = true from h) Bool.false_ne_true
  | .cons a r, sc, [], h, k, W, X, fx, c => absurd (show false = true from h) Bool.false_ne_true
  | .io s r, sc, kws, h, k, W, X, fx, c => absurd (show false = true from h) Bool.false_ne_true
theorem sV : ∀ (as : A) {sc : Scope} {es : List Expr}, chkV Γ as sc es = true → ∀ {k : Nat} {W : WX} {X : Cx} {fx : Nat → Bool}, Cok Γ tb sc k W X → PA X es (tN X.K X.mg fx W (evV tb as))
  | .nil, sc, [], h, k, W, X, fx, c => mn_nil
  | .cons a r, sc, e :: es, h, k, W, X, fx, c => by
    have h : (!isStar e && chkE Γ a sc e && chkV Γ r sc es) = true := h
    simp only [Bool.and_eq_true, Bool.not_eq_true'] at h
    exact mn_cons h.1.1 (sE a h.1.2 c) (sV r h.2 c)
  | .io s r, sc, e :: es, h, k, W, X, fx, c => by
    have h : (!isStar e && slotB Γ sc s e && chkV Γ r sc es) = true := h
    simp only [Bool.and_eq_true, Bool.not_eq_true'] at h
    exact mn_io h.1.1 (slot_ok c h.1.2) (sV r h.2 c)
  | .nil, sc, _ :: _, h, k, W, X, fx, c => absurd (show false = true from h) Bool.false_ne_true
  | .cons a r, sc, [], h, k, W, X, fx, c => absurd (show false = true from h) Bool.false_ne_true
  | .io s r, sc, [], h, k, W, X, fx, c => absurd (show false = true from h) Bool.false_ne_true
theorem sI : ∀ (i : It) {sc : Scope} {ast tg : Expr}, chkI Γ i sc ast = true → (isPr i = true → isTup tg = true) → ∀ {k : Nat} {W : WX} {X : Cx} {fx : Nat → Bool}, Cok Γ tb sc k W X → PI X tg ast (tI X.K X.mg fx W (isPr i) (evI tb i))
  | .val a, sc, ast, tg, h, ht, k, W, X, fx, c => mi_val (sE a h c)
  | .rng1 a, sc, ast, tg, h, ht, k, W, X, fx, c => by
    cases ast with
    | Call n es kws pos =>
      match es, kws, h with
      | [x], [], h =>
        have h : (glbB sc "range" n && !isStar x && chkE Γ a sc x) = true := h
        simp only [Bool.and_eq_true, Bool.not_eq_true'] at h
        obtain ⟨⟨h1, h2⟩, h3⟩ := h
        obtain ⟨p, rfl, hg⟩ := glb_ok c h1
        exact mi_rng1 h2 hg c.blt (sE a h3 c)
    | _ => exact absurd (show false = true from h) Bool.false_ne_true
  | .rng2 a b, sc, ast, tg, h, ht, k, W, X, fx, c => by
    cases ast with
    | Call n es kws pos =>
      match es, kws, h with
      | [x, y], [], h =>
        have h : (glbB sc "range" n && !isStar x && !isStar y && chkE Γ a sc x && chkE Γ b sc y) = true := h
        simp only [Bool.and_eq_true, Bool.not_eq_true'] at h
        obtain ⟨⟨⟨⟨h1, h2⟩, h3⟩, h4⟩, h5⟩ := h
        obtain ⟨p, rfl, hg⟩ := glb_ok c h1
        exact mi_rng2 h2 h3 hg c.blt (sE a h4 c) (sE b h5 c)
    | _ => exact absurd (show false = true from h) Bool.false_ne_true
  | .rng3 a b d, sc, ast, tg, h, ht, k, W, X, fx, c => by
    cases ast with
    | Call n es kws pos =>
      match es, kws, h with
      | [x, y, z], [], h =>
        have h : (glbB sc "range" n && !isStar x && !isStar y && !isStar z && chkE Γ a sc x && chkE Γ b sc y && chkE Γ d sc z) = true := h
        simp only [Bool.and_eq_true, Bool.not_eq_true'] at h
        obtain ⟨⟨⟨⟨⟨⟨h1, h2⟩, h3⟩, h4⟩, h5⟩, h6⟩, h7⟩ := h
        obtain ⟨p, rfl, hg⟩ := glb_ok c h1
        exact mi_rng3 h2 h3 h4 hg c.blt (sE a h5 c) (sE b h6 c) (sE d h7 c)
    | _ => exact absurd (show false = true from h) Bool.false_ne_true
  | .enum a, sc, ast, tg, h, ht, k, W, X, fx, c => by
    cases ast with
    | Call n es kws pos =>
      match es, kws, h with
      | [x], [], h =>
        have h : (glbB sc "enumerate" n && !isStar x && chkE Γ a sc x) = true := h
        simp only [Bool.and_eq_true, Bool.not_eq_true'] at h
        obtain ⟨⟨h1, h2⟩, h3⟩ := h
        obtain ⟨p, rfl, hg⟩ := glb_ok c h1
        cases tg with
        | Tuple es j p2 => exact mi_enum h2 hg c.blt (sE a h3 c)
        | _ => exact absurd (show false = true from ht rfl) Bool.false_ne_true
    | _ => exact absurd (show false = true from h) Bool.false_ne_true
  | .zip a b, sc, ast, tg, h, ht, k, W, X, fx, c => by
    cases ast with
    | Call n es kws pos =>
      match es, kws, h with
      | [x, y], [], h =>
        have h : (glbB sc "zip" n && !isStar x && !isStar y && chkE Γ a sc x && chkE Γ b sc y) = true := h
        simp only [Bool.and_eq_true, Bool.not_eq_true'] at h
        obtain ⟨⟨⟨⟨h1, h2⟩, h3⟩, h4⟩, h5⟩ := h
        obtain ⟨p, rfl, hg⟩ := glb_ok c h1
        cases tg with
        | Tuple es j p2 => exact mi_zip h2 h3 hg c.blt (sE a h4 c) (sE b h5 c)
        | _ => exact absurd (show false = true from ht rfl) Bool.false_ne_true
    | _ => exact absurd (show false = true from h) Bool.false_ne_true
  | .slot s, sc, ast, tg, h, ht, k, W, X, fx, c => absurd (show false = true from h) Bool.false_ne_true
theorem sF : ∀ (f : F) {sc : Scope} {ast : Expr}, chkF Γ f sc ast = true → ∀ {k : Nat} {W : WX} {X : Cx} {fx : Nat → Bool}, Cok Γ tb sc k W X → PE X ast (tF X.K X.mg fx W (evF tb f))
  | .lst as, sc, ast, h, k, W, X, fx, c => by
    cases ast with
    | List es pos => exact mf_lst (sA as h c)
    | _ => exact absurd (show false = true from h) Bool.false_ne_true
  | .comp own tg it ifs elt, sc, ast, h, k, W, X, fx, c => by
    cases ast with
    | ListComp x gens scope pos =>
      match gens, h with
      | [⟨te, ie, ifs', 0⟩], h =>
        have h : (blkC Γ.N sc scope (own.map fun i => (Γ.N.getD i "", i)) && isComp ie && chkI Γ it sc ie && (!isPr it || isTup te) && tgB Γ scope (fxo own) (isPr it) tg te && chkOT Γ ifs scope ifs' && chkE Γ elt scope x) = true := h
        simp only [Bool.and_eq_true] at h
        obtain ⟨⟨⟨⟨⟨⟨h1, h2⟩, h3⟩, h4⟩, h5⟩, h6⟩, h7⟩ := h
        have e0 : (own.map fun i => (Γ.N.getD i "", i)).map (·.2) = own := by rw [List.map_map]; exact List.map_id' own
        have ok : BlkOk X.N X.env.scope scope (own.map fun i => (Γ.N.getD i "", i)) := by
          have b := blkOk_by h1
          exact ⟨b.kind, b.uniq, by rw [c.N]; exact b.ix, fun y hy e => c.cf _ (cf_of (b.free y hy e)), fun y hy e => by rw [c.N]; exact b.own y hy e⟩
        have key := mf_comp (X := X) (fx := fx) (W := W) (pos := pos) (mi := evI tb it) (mt := evOT tb ifs) (me := ev tb elt) (tg := tg) (pr := isPr it) c.calm (by rw [c.N]; exact c.nd) (sI it (tg := te) h3 (fun e => by rw [e] at h4; simpa using h4) c) ok
          (fun s H C cl fp => by rw [e0]; exact tg_ok (c.blk s H C cl fp) h5) (fun s H C cl fp => by rw [e0]; exact sOT ifs h6 (c.blk s H C cl fp)) (fun s H C cl fp => by rw [e0]; exact sE elt h7 (c.blk s H C cl fp)) (fun x => fold_ok h2)
        rw [e0] at key
        exact key
    | _ => exact absurd (show false = true from h) Bool.false_ne_true
  | .comp2 own own2 tg it ifs tg2 it2 ifs2 elt, sc, ast, h, k, W, X, fx, c => absurd (show false = true from h) Bool.false_ne_true
  | .copy a, sc, ast, h, k, W, X, fx, c => by
    cases ast with
    | Call n es kws pos =>
      match es, kws, h with
      | [x], [], h =>
        have h : (glbB sc "list" n && !isStar x && chkE Γ a sc x) = true := h
        simp only [Bool.and_eq_true, Bool.not_eq_true'] at h
        obtain ⟨⟨h1, h2⟩, h3⟩ := h
        obtain ⟨p, rfl, hg⟩ := glb_ok c h1
        exact mf_copy h2 hg c.blt (sE a h3 c)
    | _ => exact absurd (show false = true from h) Bool.false_ne_true
  | .copyS s, sc, ast, h, k, W, X, fx, c => by
    cases ast with
    | Call n es kws pos =>
      match es, kws, h with
      | [x], [], h =>
        have h : (glbB sc "list" n && slotB Γ sc s x) = true := h
        simp only [Bool.and_eq_true] at h
        obtain ⟨h1, h2⟩ := h
        obtain ⟨p, rfl, hg⟩ := glb_ok c h1
        exact mf_copyS (slot_star h2).1 hg c.blt (slot_ok c h2)
    | _ => exact absurd (show false = true from h) Bool.false_ne_true
  | .lrng r, sc, ast, h, k, W, X, fx, c => by
    cases ast with
    | Call n es kws pos =>
      match es, kws, h with
      | [x], [], h =>
        have h : (glbB sc "list" n && !isStar x && chkRE Γ r sc x) = true := h
        simp only [Bool.and_eq_true, Bool.not_eq_true'] at h
        obtain ⟨⟨h1, h2⟩, h3⟩ := h
        obtain ⟨p, rfl, hg⟩ := glb_ok c h1
        exact mf_lrng h2 c.calm hg c.blt (sRE r h3 c)
    | _ => exact absurd (show false = true from h) Bool.false_ne_true
  | .cutX s lo hi, sc, ast, h, k, W, X, fx, c => by
    cases ast with
    | Subscript x y pos =>
      cases y with
      | Slice l u st p =>
        cases st with
        | none =>
          have h : (slotB Γ sc s x && chkO Γ lo sc l && chkO Γ hi sc u) = true := h
          simp only [Bool.and_eq_true] at h
          obtain ⟨⟨h1, h2⟩, h3⟩ := h
          exact mf_cutX (slot_ok c h1) (sO lo h2 c) (sO hi h3 c)
        | some _ => exact absurd (show false = true from h) Bool.false_ne_true
      | _ => exact absurd (show false = true from h) Bool.false_ne_true
    | _ => exact absurd (show false = true from h) Bool.false_ne_true
  | .rep f n, sc, ast, h, k, W, X, fx, c => by
    cases ast with
    | BinOp l op' r pos =>
      cases op' with
      | Mult =>
        have h : (chkF Γ f sc l && chkE Γ n sc r) = true := h
        simp only [Bool.and_eq_true] at h
        exact mf_rep (sF f h.1 c) (sE n h.2 c)
      | _ => exact absurd (show false = true from h) Bool.false_ne_true
    | _ => exact absurd (show false = true from h) Bool.false_ne_true
  | .cat a b, sc, ast, h, k, W, X, fx, c => by
    cases ast with
    | BinOp l op' r pos =>
      cases op' with
      | Add =>
        have h : (chkE Γ a sc l && chkE Γ b sc r) = true := h
        simp only [Bool.and_eq_true] at h
        exact mf_cat (sE a h.1 c) (sE b h.2 c)
      | _ => exact absurd (show false = true from h) Bool.false_ne_true
    | _ => exact absurd (show false = true from h) Bool.false_ne_true
  | .sorted a, sc, ast, h, k, W, X, fx, c => by
    cases ast with
    | Call n es kws pos =>
      match es, kws, h with
      | [x], [], h =>
        have h : (glbB sc "sorted" n && !isStar x && chkE Γ a sc x) = true := h
        simp only [Bool.and_eq_true, Bool.not_eq_true'] at h
        obtain ⟨⟨h1, h2⟩, h3⟩ := h
        obtain ⟨p, rfl, hg⟩ := glb_ok c h1
        exact mf_sorted c.un h2 hg c.blt (sE a h3 c)
    | _ => exact absurd (show false = true from h) Bool.false_ne_true
  | .slc a lo hi, sc, ast, h, k, W, X, fx, c => by
    cases ast with
    | Subscript x y pos =>
      cases y with
      | Slice l u s p =>
        cases s with
        | none =>
          have h : (chkE Γ a sc x && chkO Γ lo sc l && chkO Γ hi sc u) = true := h
          simp only [Bool.and_eq_true] at h
          obtain ⟨⟨h1, h2⟩, h3⟩ := h
          exact mf_slc (sE a h1 c) (sO lo h2 c) (sO hi h3 c)
        | some _ => exact absurd (show false = true from h) Bool.false_ne_true
      | _ => exact absurd (show false = true from h) Bool.false_ne_true
    | _ => exact absurd (show false = true from h) Bool.false_ne_true
  | .rev a, sc, ast, h, k, W, X, fx, c => absurd (show false = true from h) Bool.false_ne_true
  | .call j as, sc, ast, h, k, W, X, fx, c => by
    cases ast with
    | Call fn es kws pos =>
      cases fn with
      | Name x p =>
        cases kws with
        | nil =>
          have h : (match Γ.fns[j]? with
            | some f => decide (x = f.name) && gloB sc x && okN x && es.all (fun e => !isStar e) && chkV Γ as sc es && decide ((ios as).Nodup) && decide (alen as = f.io.length)
            | none => false) = true := h
          cases hf : Γ.fns[j]? with
          | none => rw [hf] at h; cases h
          | some f =>
            rw [hf] at h
            simp only [Bool.and_eq_true, decide_eq_true_eq] at h
            obtain ⟨⟨⟨⟨⟨⟨h1, h2⟩, h3⟩, h4⟩, h5⟩, h6⟩, h7⟩ := h
            exact mf_ofC (call_ok c hf h1 h2 h3 h4 h6 h7 (fun e => by subst e; exact chkV_nil h5) (sV as h5 c))
        | cons _ _ => exact absurd (show false = true from h) Bool.false_ne_true
      | _ => exact absurd (show false = true from h) Bool.false_ne_true
    | _ => exact absurd (show false = true from h) Bool.false_ne_true
end
end
end PL
/-! PLr: statements: the language, the check, what it gives; a def's promise -/
namespace PL
open PySem PySem.Spec PyProof.Rows L2

mutual
inductive S where
  | pass
  | never
  | brk
  | cont
  | expr (e : E)
  | set (i : Nat) (e : E)
  | setF (i : Nat) (f : F)
  | setZ (i : Nat) (f : F)
  | unp (tg : Tg) (e : E)
  | par (is : List Nat) (as : List (E ⊕ F))
  | setI (s : Nat) (i e : E)
  | iff (c : T) (a b : SL)
  | for (tg : Tg) (it : It) (body : SL)
  | whl (n : Nat) (c : T) (body : SL)
  | ret (e : E)
  | retF (f : F)
  | retS (s : Nat)
  | retN
  | raise (c : Str)
  | tryS (body : SL) (c0 : Str) (n k : Nat) (tb : List (Str × D)) (d : D)
inductive SL where
  | nil
  | cons (s : S) (r : SL)
end
section
variable (tb : List FS) (sub : Str → Str → Option Bool)
def evP : List (E ⊕ F) → M (List C)
  | [], g => .ok [] g
  | .inl e :: r, g => (ev tb e g).bind fun x g1 => (evP r g1).bind fun xs g2 => .ok (.pu x :: xs) g2
  | .inr f :: r, g => (evF tb f g).bind fun x g1 => (evP r g1).bind fun xs g2 => .ok (.ml x :: xs) g2
mutual
def evS : S → MS
  | .pass, g => .nx g
  | .never, _ => .no
  | .brk, g => .bk g
  | .cont, g => .ct g
  | .expr e, g => (ev tb e g).andS fun _ g1 => .nx g1
  | .set i e, g => (ev tb e g).andS fun d g1 => .nx (g1.set i (some (.pu d)))
  | .setF i f, g => (evF tb f g).andS fun ds g1 => .nx (g1.set i (some (.ml ds)))
  | .setZ i f, g => (evF tb f g).andS fun ds g1 => .nx (g1.set i (some (.pu (.list ds))))
  | .unp tg e, g => (ev tb e g).andS fun d g1 => match setTg tg d g1 with
    | some g2 => .nx g2
    | none => .no
  | .par is as, g => (evP tb as g).andS fun cs g1 => match setCs is cs g1 with
    | some g2 => .nx g2
    | none => .no
  | .setI s i e, g => (ev tb e g).andS fun y g1 => match g1[s]? with
    | some (some (.ml _)) => (ev tb i g1).andS fun k g2 => (lft (isIn k) g2).andS fun k g3 => match g3[s]? with
      | some (some (.ml ds)) => match ixN ds.length k with
        | some j => .nx (g3.set s (some (.ml (ds.set j y))))
        | none => .no
      | _ => .no
    | _ => .no
  | .iff c a b, g => (evT tb c g).andS fun k g1 => if k then evSL a g1 else evSL b g1
  | .for tg it body, g => (evI tb it g).andS fun ds g1 => forL tg (evSL body) ds g1
  | .whl n c body, g => whileL (evT tb c) (evSL body) n g
  | .ret e, g => (ev tb e g).andS fun d g1 => .rt (.pu d) g1
  | .retF f, g => (evF tb f g).andS fun ds g1 => .rt (.ml ds) g1
  | .retS s, g => match g[s]? with
    | some (some (.ml ds)) => .rt (.ml ds) (g.set s none)
    | _ => .no
  | .retN, g => .rt (.pu .none) g
  | .raise c, g => .exc c g
  | .tryS body c0 n k tb' d, g => tryM sub c0 n k tb' d (evSL body g)
def evSL : SL → MS
  | .nil, g => .nx g
  | .cons s r, g => (evS s g).bind (evSL r)
end
end

/-! ### the check -/
def isLC : Expr → Bool
  | .ListComp _ _ _ _ => true
  | .SetComp _ _ _ _ => true
  | .DictComp _ _ _ _ _ => true
  | _ => false
theorem swap_no {e : Expr} {t : Option Expr} {l : Nat} {env : PySem.Env} (h : isLC e = false) : swapsWith e t l env = pure false := by
  cases e <;> first | rfl | cases h
theorem sole_tup {es : List Expr} {k : Nat} {p : Pos} {e : Expr} {l : Nat} {env : PySem.Env} : swapsWithSole [.Tuple es k p] e l env = pure false := by
  cases e <;> rfl
theorem sole_sub {a b : Expr} {p : Pos} {e : Expr} {l : Nat} {env : PySem.Env} : swapsWithSole [.Subscript a b p] e l env = pure false := by
  cases e <;> rfl
theorem stores_no {t e : Expr} {env : PySem.Env} (h : isTup e = false) : swappedStores [t] e env = pure none := by
  cases e <;> first | (cases t <;> rfl) | cases h
theorem stores_len {ts vs : List Expr} {k k2 : Nat} {p p2 : Pos} {env : PySem.Env} (h : ts.length ≠ 2 ∧ ts.length ≠ 3) : swappedStores [.Tuple ts k p] (.Tuple vs k2 p2) env = pure none := by
  unfold swappedStores
  simp [h.1, h.2]
theorem stores_sub {a b : Expr} {p : Pos} {e : Expr} {env : PySem.Env} : swappedStores [.Subscript a b p] e env = pure none := by
  cases e <;> rfl
theorem swap_lc {elt : Expr} {gens : List Comprehension} {scope : Scope} {pos p : Pos} {x : Str} {l : Nat} {env : PySem.Env} :
    swapsWith (.ListComp elt gens scope pos) (some (.Name x p)) l env = pure (env.blockKind == .function && env.kindOf x == some .local && p.line == pos.line && !(scope.names.any fun (n, k) => n == x && (k == .local || k == .cell))) := rfl
def lcT (sc : Scope) (x : Str) (p : Pos) : Expr → Bool
  | .ListComp _ _ scope pos => lclB sc x && (p.line == pos.line) && !(scope.names.any fun (n, k) => n == x && (k == .local || k == .cell))
  | _ => false
/-- a value that is stored as any other -/
def lcF (sc : Scope) (x : Str) : Expr → Bool
  | .ListComp _ _ _ _ => decide (sc.names.lookup x = some .cell)
  | e => !isLC e
section
variable (Γ : Gm) (sub : Str → Str → Option Bool)
def chkP : List (E ⊕ F) → Scope → List Expr → Bool
  | [], _, [] => true
  | .inl e :: r, sc, a :: as => !isStar a && chkE Γ e sc a && chkP r sc as
  | .inr f :: r, sc, a :: as => !isStar a && chkF Γ f sc a && chkP r sc as
  | _, _, _ => false
def locsB (sc : Scope) (fx : Nat → Bool) (line : Nat) : List Nat → List Expr → Bool
  | [], [] => true
  | i :: r, .Name x p :: es => decide (Γ.N[i]? = some x) && lclB sc x && !fx i && (p.line == line) && locsB sc fx line r es
  | _, _ => false
def chB (sc : Scope) (n : Str) : List (Str × D) → D → Expr → Bool
  | [], d, e => conB d e
  | (x, v) :: r, d, e => match e with
    | .IfExp (.Call (.Name f _) [.Name n' _, .Name x' _] [] _) a e' _ => decide (f = "isinstance") && gloB sc f && decide (n' = n) && decide (x' = x) && gloB sc x && okN x && conB v a && chB sc n r d e'
    | _ => false
mutual
def chkS : S → Scope → (Nat → Bool) → Stmt → Bool
  | .never, _, _, _ => true
  | .pass, _, _, st => match st with
    | .Pass _ => true
    | _ => false
  | .brk, _, _, st => match st with
    | .Break _ => true
    | _ => false
  | .cont, _, _, st => match st with
    | .Continue _ => true
    | _ => false
  | .expr e, sc, _, st => match st with
    | .Expr a _ => !isLC a && chkE Γ e sc a
    | _ => false
  | .set i e, sc, fx, st => match st with
    | .Assign [.Name x p] a _ => nmB Γ sc fx i (.Name x p) && lcF sc x a && chkE Γ e sc a
    | _ => false
  | .setF i f, sc, fx, st => match st with
    | .Assign [.Name x p] a _ => nmB Γ sc fx i (.Name x p) && (lcF sc x a || lcT sc x p a) && chkF Γ f sc a
    | _ => false
  | .setZ i f, sc, fx, st => match st with
    | .Assign [.Name x p] a _ => nmB Γ sc fx i (.Name x p) && lcT sc x p a && chkF Γ f sc a
    | _ => false
  | .unp tg e, sc, fx, st => match st with
    | .Assign [.Tuple es k p] a _ => tgB Γ sc fx false tg (.Tuple es k p) && (!isTup a || (decide (es.length ≠ 2) && decide (es.length ≠ 3))) && chkE Γ e sc a
    | _ => false
  | .par is as, sc, fx, st => match st with
    | .Assign [.Tuple ts _ _] (.Tuple vs _ _) _ => (match ts with
      | .Name _ p :: _ => locsB Γ sc fx p.line is ts
      | _ => false) && decide (is.Nodup) && (decide (is.length = 2) || decide (is.length = 3)) && decide (vs.length = is.length) && !vs.all (foldedForSure 8) && !vs.all (constantsAlone 8) && chkP Γ as sc vs
    | _ => false
  | .setI s i e, sc, _, st => match st with
    | .Assign [.Subscript a b _] v _ => slotB Γ sc s a && !isSlice b && chkE Γ i sc b && chkE Γ e sc v
    | _ => false
  | .iff c a b, sc, fx, st => match st with
    | .If t x y _ => chkT Γ c sc t && chkSL a sc fx x && chkSL b sc fx y
    | _ => false
  | .for tg it body, sc, fx, st => match st with
    | .For te ie bd [] _ => isComp ie && chkI Γ it sc ie && (!isPr it || isTup te) && tgB Γ sc fx (isPr it) tg te && chkSL body sc fx bd
    | _ => false
  | .whl _ c body, sc, fx, st => match st with
    | .While t bd [] _ => chkT Γ c sc t && chkSL body sc fx bd
    | _ => false
  | .ret e, sc, _, st => match st with
    | .Return (some a) _ => chkE Γ e sc a
    | _ => false
  | .retF f, sc, _, st => match st with
    | .Return (some a) _ => chkF Γ f sc a
    | _ => false
  | .retS s, sc, _, st => match st with
    | .Return (some a) _ => slotB Γ sc s a
    | _ => false
  | .retN, _, _, st => match st with
    | .Return none _ => true
    | _ => false
  | .raise c, sc, _, st => match st with
    | .Raise (some (.Call (.Name x _) [.Constant (.str _) _ _] [] _)) none _ => decide (x = c) && gloB sc x && okN x && (sub c c).isSome
    | _ => false
  | .tryS body c0 n k tb d, sc, fx, st => match st with
    | .Try bd [.ExceptHandler (some (.Name c1 _)) (some nm) [.Assign [.Name x p1] e _] _] [] [] _ => decide (c1 = c0) && gloB sc c0 && okN c0 && decide (Γ.N[n]? = some nm) && lclB sc nm && okN nm && !fx n && nmB Γ sc fx k (.Name x p1) && decide (n ≠ k) && gloB sc "isinstance" && chB sc nm tb d e && !isLC e && (sub c0 c0).isSome && chkSL body sc fx bd
    | _ => false
def chkSL : SL → Scope → (Nat → Bool) → List Stmt → Bool
  | .nil, _, _, [] => true
  | .cons s r, sc, fx, st :: sts => chkS s sc fx st && chkSL r sc fx sts
  | _, _, _, _ => false
end
end

/-! ### what it gives -/
structure Sok (Γ : Gm) (tb : List FS) (sub : Str → Str → Option Bool) (sc : Scope) (k : Nat) (W : WX) (X : Cx) : Prop extends Cok Γ tb sc k W X where
  own : PassesOwn (model X.prog X.w) X.A X.env X.xe
  stk : X.stack = X.env :: X.outer
  frm : X.env.frame = some X.env.locals
  so : SubOk X.K X.mg sub
  sce : X.env.scope = sc
  knd : sc.kind = .function
theorem Sok.tr {Γ : Gm} {tb : List FS} {sub : Str → Str → Option Bool} {sc : Scope} {k : Nat} {W W' : WX} {X : Cx} (c : Sok Γ tb sub sc k W X) {pn : List (Addr × Obj)} {xe : Value → Shared → Prop} (tk : Takes (X.tr pn xe) W') (ow : PassesOwn (model X.prog X.w) X.A X.env xe) : Sok Γ tb sub sc k W' (X.tr pn xe) where
  calm := c.calm
  N := c.N
  nd := c.nd
  room := c.room
  vis := c.vis
  glo := c.glo
  loc := c.loc
  lcl := c.lcl
  cf := c.cf
  blt := c.blt
  tk := tk
  con := c.con
  fns := c.fns
  own := ow
  stk := c.stk
  frm := c.frm
  so := c.so
  sce := c.sce
  knd := c.knd
section
variable {Γ : Gm} {tb : List FS} {sub : Str → Str → Option Bool} {sc : Scope} {k : Nat} {W : WX} {X : Cx} {fx : Nat → Bool}
theorem sP : ∀ (as : List (E ⊕ F)) {sc : Scope} {es : List Expr}, chkP Γ as sc es = true → ∀ {k : Nat} {W : WX} {X : Cx} {fx : Nat → Bool}, Cok Γ tb sc k W X → PA X es (tP X.K X.mg fx W (evP tb as))
  | [], sc, [], h, k, W, X, fx, c => mp_nil
  | .inl a :: r, sc, e :: es, h, k, W, X, fx, c => by
    have h : (!isStar e && chkE Γ a sc e && chkP Γ r sc es) = true := h
    simp only [Bool.and_eq_true, Bool.not_eq_true'] at h
    exact mp_e h.1.1 (sE a h.1.2 c) (sP r h.2 c)
  | .inr a :: r, sc, e :: es, h, k, W, X, fx, c => by
    have h : (!isStar e && chkF Γ a sc e && chkP Γ r sc es) = true := h
    simp only [Bool.and_eq_true, Bool.not_eq_true'] at h
    exact mp_f h.1.1 (sF a h.1.2 c) (sP r h.2 c)
  | [], sc, _ :: _, h, k, W, X, fx, c => absurd (show false = true from h) Bool.false_ne_true
  | .inl _ :: _, sc, [], h, k, W, X, fx, c => absurd (show false = true from h) Bool.false_ne_true
  | .inr _ :: _, sc, [], h, k, W, X, fx, c => absurd (show false = true from h) Bool.false_ne_true
theorem ch_ok {n : Str} (c : Cok Γ tb sc k W X) : ∀ {tb' : List (Str × D)} {d : D} {e : Expr}, chB sc n tb' d e = true → ChE n e tb' d ∧ ∀ p ∈ tb', Gl X p.1 ∧ okN p.1 = true
  | [], d, e, h => by
    obtain ⟨v, h1, h2, _⟩ := conB_ok (show conB d e = true from h)
    exact ⟨.last h2 h1, fun _ m => nomatch m⟩
  | (x, v) :: r, d, e, h => by
    unfold chB at h
    split at h
    · rename_i f p1 n' p2 x' p3 p4 a e' p5
      simp only [Bool.and_eq_true, decide_eq_true_eq] at h
      obtain ⟨⟨⟨⟨⟨⟨⟨h1, h2⟩, h3⟩, h4⟩, h5⟩, h6⟩, h7⟩, h8⟩ := h
      subst h1; subst h3; subst h4
      obtain ⟨w, q1, q2, _⟩ := conB_ok h7
      obtain ⟨i1, i2⟩ := ch_ok c h8
      refine ⟨.cons q2 q1 i1, fun p m => ?_⟩
      rcases List.mem_cons.mp m with rfl | m
      · exact ⟨c.glo _ h5, h6⟩
      · exact i2 p m
    · cases h
theorem nmL_ok {i : Nat} {x : Str} {p : Pos} (c : Cok Γ tb sc k W X) (h : nmB Γ sc fx i (.Name x p) = true) : X.N[i]? = some x ∧ Loc X.env.scope x ∧ (X.fn x = true ∨ X.env.scope.names.lookup x = some .local) ∧ fx i = false := by
  have h : (decide (Γ.N[i]? = some x) && locB sc x && !fx i) = true := h
  simp only [Bool.and_eq_true, decide_eq_true_eq, Bool.not_eq_true'] at h
  obtain ⟨⟨h1, h2⟩, h3⟩ := h
  exact ⟨by rw [c.N]; exact h1, (c.loc x h2).1, (c.loc x h2).2, h3⟩
theorem lcF_ok {x : Str} {p : Pos} {e : Expr} {l : Nat} (c : Sok Γ tb sub sc k W X) (h : lcF sc x e = true) : swapsWith e (some (.Name x p)) l X.env = pure false := by
  unfold lcF at h
  split at h
  · rename_i elt gens scope pos
    rw [decide_eq_true_eq] at h
    rw [swap_lc]
    have : (X.env.kindOf x == some NameKind.local) = false := by
      show (X.env.scope.names.lookup x == some NameKind.local) = false
      rw [c.sce, h]; rfl
    rw [this, Bool.and_false, Bool.false_and, Bool.false_and]
  · rw [Bool.not_eq_true'] at h
    exact swap_no h
theorem blockKind_ok (c : Sok Γ tb sub sc k W X) : X.env.blockKind = .function := by
  unfold PySem.Env.blockKind
  rw [c.sce, c.knd]
  rfl
theorem lcT_ok {x : Str} {p : Pos} {e : Expr} {l : Nat} (c : Sok Γ tb sub sc k W X) (h : lcT sc x p e = true) : swapsWith e (some (.Name x p)) l X.env = pure true ∧ X.env.scope.names.lookup x = some .local := by
  unfold lcT at h
  split at h
  · rename_i elt gens scope pos
    simp only [Bool.and_eq_true] at h
    obtain ⟨⟨h1, h2⟩, h3⟩ := h
    have h4 := c.lcl x h1
    refine ⟨?_, h4⟩
    rw [swap_lc, blockKind_ok c]
    have : (X.env.kindOf x == some NameKind.local) = true := by
      show (X.env.scope.names.lookup x == some NameKind.local) = true
      rw [h4]; rfl
    rw [this, h2, h3]
    rfl
  · cases h
/-- x = [..] on one line -/
theorem lcset_ok {i : Nat} {f : F} {x : Str} {p spos : Pos} {e : Expr} (c : Sok Γ tb sub sc k W X) (hi : X.N[i]? = some x) (ht : lcT sc x p e = true) (h : chkF Γ f sc e = true) : PS X (.Assign [.Name x p] e spos) (tAsg (tF X.K X.mg fx W (evF tb f)) (gName i)) := by
  obtain ⟨q1, q2⟩ := lcT_ok (l := spos.line) c ht
  cases e with
  | ListComp x' gens scope pos =>
    cases f with
    | comp own tg it ifs elt =>
      match gens, h with
      | [⟨te, ie, ifs', 0⟩], h =>
        have h : (blkC Γ.N sc scope (own.map fun i => (Γ.N.getD i "", i)) && isComp ie && chkI Γ it sc ie && (!isPr it || isTup te) && tgB Γ scope (fxo own) (isPr it) tg te && chkOT Γ ifs scope ifs' && chkE Γ elt scope x') = true := h
        simp only [Bool.and_eq_true] at h
        obtain ⟨⟨⟨⟨⟨⟨h1, h2⟩, h3⟩, h4⟩, h5⟩, h6⟩, h7⟩ := h
        have e0 : (own.map fun i => (Γ.N.getD i "", i)).map (·.2) = own := by rw [List.map_map]; exact List.map_id' own
        have ok : BlkOk X.N X.env.scope scope (own.map fun i => (Γ.N.getD i "", i)) := by
          have b := blkOk_by h1
          exact ⟨b.kind, b.uniq, by rw [c.N]; exact b.ix, fun y hy e => c.cf _ (cf_of (b.free y hy e)), fun y hy e => by rw [c.N]; exact b.own y hy e⟩
        have key := mf_setcomp (X := X) (fx := fx) (W := W) (pos := pos) (mi := evI tb it) (mt := evOT tb ifs) (me := ev tb elt) (tg := tg) (pr := isPr it) (spos := spos) (py := p) hi q2 q1 c.calm (by rw [c.N]; exact c.nd) (sI it (tg := te) h3 (fun e => by rw [e] at h4; simpa using h4) c.toCok) ok
          (fun s H C cl fp => by rw [e0]; exact tg_ok (c.toCok.blk s H C cl fp) h5) (fun s H C cl fp => by rw [e0]; exact sOT ifs h6 (c.toCok.blk s H C cl fp)) (fun s H C cl fp => by rw [e0]; exact sE elt h7 (c.toCok.blk s H C cl fp)) (fun x => fold_ok h2)
        rw [e0] at key
        exact key
    | _ => exact absurd (show false = true from h) Bool.false_ne_true
  | _ => exact absurd (show false = true from ht) Bool.false_ne_true
theorem isSome_get {α : Type} {o : Option α} (h : o.isSome = true) : ∃ a, o = some a := by
  cases o with
  | some a => exact ⟨a, rfl⟩
  | none => cases h
end
end PL
/-! PLs: what the check gives, for statements; a def's promise -/
namespace PL
open PySem PySem.Spec PyProof.Rows L2
theorem noStar (e : Expr) : isStar e = false → ¬ ((match e with
    | .Starred _ _ => true
    | _ => false) = true) := by
  intro h
  cases e <;> first | (intro z; cases z; done) | cases h
theorem all2 {a b : Expr} (h : [a, b].all (fun e => !isStar e) = true) : isStar a = false ∧ isStar b = false := by
  simpa using h
theorem all3 {a b c : Expr} (h : [a, b, c].all (fun e => !isStar e) = true) : isStar a = false ∧ isStar b = false ∧ isStar c = false := by
  simpa using h
theorem store2 {x y : Str} {px py pt pt2 : Pos} {kt k2 : Nat} {a b : Expr} {env : PySem.Env} (hb : env.blockKind = .function) (hx : env.kindOf x = some .local) (hy : env.kindOf y = some .local) (hl : py.line = px.line) (hxy : x ≠ y) (hs : [a, b].all (fun e => !isStar e) = true)
    (h1 : [a, b].all (foldedForSure 8) = false) (h2 : [a, b].all (constantsAlone 8) = false) : swappedStores [.Tuple [.Name x px, .Name y py] kt pt] (.Tuple [a, b] k2 pt2) env = pure (some [x, y]) := by
  unfold swappedStores
  simp only [List.length_cons, List.length_nil, hb, h1, h2, hx, hy, hl, List.filterMap_cons, List.filterMap_nil, List.head?_cons, Option.map_some, Option.getD_some, Expr.pos, pure_bind]
  have he : [x, y].eraseDups = [x, y] := by
    simp [List.eraseDups_cons, hxy, Ne.symm hxy]
  obtain ⟨sa, sb⟩ := all2 hs
  simp [he]
  intro z
  rcases z with z | z
  · exact absurd z (noStar _ sa)
  · exact absurd z (noStar _ sb)
theorem store3 {x y z : Str} {px py pz pt pt2 : Pos} {kt k2 : Nat} {a b c : Expr} {env : PySem.Env} (hb : env.blockKind = .function) (hx : env.kindOf x = some .local) (hy : env.kindOf y = some .local) (hz : env.kindOf z = some .local) (hl : py.line = px.line) (hl2 : pz.line = px.line) (hxy : x ≠ y) (hxz : x ≠ z) (hyz : y ≠ z) (hs : [a, b, c].all (fun e => !isStar e) = true)
    (h1 : [a, b, c].all (foldedForSure 8) = false) (h2 : [a, b, c].all (constantsAlone 8) = false) : swappedStores [.Tuple [.Name x px, .Name y py, .Name z pz] kt pt] (.Tuple [a, b, c] k2 pt2) env = pure (some [x, y, z]) := by
  unfold swappedStores
  simp only [List.length_cons, List.length_nil, hb, h1, h2, hx, hy, hz, hl, hl2, List.filterMap_cons, List.filterMap_nil, List.head?_cons, Option.map_some, Option.getD_some, Expr.pos, pure_bind]
  have he : [x, y, z].eraseDups = [x, y, z] := by
    simp [List.eraseDups_cons, hxy, Ne.symm hxy, hxz, Ne.symm hxz, hyz, Ne.symm hyz]
  obtain ⟨sa, sb, sc⟩ := all3 hs
  simp [he]
  intro z
  rcases z with z | z | z
  · exact absurd z (noStar _ sa)
  · exact absurd z (noStar _ sb)
  · exact absurd z (noStar _ sc)
section
variable {Γ : Gm} {tb : List FS} {sub : Str → Str → Option Bool}
theorem chkP_star : ∀ {as : List (E ⊕ F)} {sc : Scope} {es : List Expr}, chkP Γ as sc es = true → es.all (fun e => !isStar e) = true
  | [], sc, [], h => rfl
  | .inl a :: r, sc, e :: es, h => by
    have h : (!isStar e && chkE Γ a sc e && chkP Γ r sc es) = true := h
    simp only [Bool.and_eq_true] at h
    rw [List.all_cons, h.1.1, chkP_star h.2]
    rfl
  | .inr a :: r, sc, e :: es, h => by
    have h : (!isStar e && chkF Γ a sc e && chkP Γ r sc es) = true := h
    simp only [Bool.and_eq_true] at h
    rw [List.all_cons, h.1.1, chkP_star h.2]
    rfl
  | [], sc, _ :: _, h => absurd (show false = true from h) Bool.false_ne_true
  | .inl _ :: _, sc, [], h => absurd (show false = true from h) Bool.false_ne_true
  | .inr _ :: _, sc, [], h => absurd (show false = true from h) Bool.false_ne_true
theorem locs_nil {sc : Scope} {fx : Nat → Bool} {line : Nat} {ts : List Expr} (h : locsB Γ sc fx line [] ts = true) : ts = [] := by
  cases ts with
  | nil => rfl
  | cons _ _ => exact absurd (show false = true from h) Bool.false_ne_true
theorem locs_cons {sc : Scope} {fx : Nat → Bool} {line i : Nat} {r : List Nat} {ts : List Expr} (h : locsB Γ sc fx line (i :: r) ts = true) :
    ∃ x p es, ts = .Name x p :: es ∧ Γ.N[i]? = some x ∧ lclB sc x = true ∧ fx i = false ∧ p.line = line ∧ locsB Γ sc fx line r es = true := by
  cases ts with
  | nil => exact absurd (show false = true from h) Bool.false_ne_true
  | cons t es =>
    cases t with
    | Name x p =>
      have h : (decide (Γ.N[i]? = some x) && lclB sc x && !fx i && (p.line == line) && locsB Γ sc fx line r es) = true := h
      simp only [Bool.and_eq_true, decide_eq_true_eq, Bool.not_eq_true', beq_iff_eq] at h
      obtain ⟨⟨⟨⟨h1, h2⟩, h3⟩, h4⟩, h5⟩ := h
      exact ⟨x, p, es, rfl, h1, h2, h3, h4, h5⟩
    | _ => exact absurd (show false = true from h) Bool.false_ne_true
theorem len2 {α : Type} {l : List α} (h : l.length = 2) : ∃ a b, l = [a, b] := by
  match l, h with
  | [a, b], _ => exact ⟨a, b, rfl⟩
theorem len3 {α : Type} {l : List α} (h : l.length = 3) : ∃ a b c, l = [a, b, c] := by
  match l, h with
  | [a, b, c], _ => exact ⟨a, b, c, rfl⟩
theorem par_ok {sc : Scope} {k : Nat} {W : WX} {X : Cx} {fx : Nat → Bool} {is : List Nat} {as : List (E ⊕ F)} {ts vs : List Expr} {kt k2 line : Nat} {pt pt2 pos : Pos} (c : Sok Γ tb sub sc k W X)
    (h1 : locsB Γ sc fx line is ts = true) (hline : ∀ x p es, ts = .Name x p :: es → line = p.line) (nd : is.Nodup) (hl : is.length = 2 ∨ is.length = 3) (hv : vs.length = is.length) (f1 : vs.all (foldedForSure 8) = false) (f2 : vs.all (constantsAlone 8) = false) (hp : chkP Γ as sc vs = true) :
    PS X (.Assign [.Tuple ts kt pt] (.Tuple vs k2 pt2) pos) (tS X.K X.mg fx W fun g => (evP tb as g).andS fun cs g1 => match setCs is cs g1 with
      | some g2 => .nx g2
      | none => .no) := by
  have ss := chkP_star hp
  have hb := blockKind_ok c
  have hN : X.N.Nodup := by rw [c.N]; exact c.nd
  have ne : ∀ {i j : Nat} {x y : Str}, i ≠ j → Γ.N[i]? = some x → Γ.N[j]? = some y → x ≠ y := fun {i j x y} hij h1 h2 e => by
    subst e
    exact hij ((List.getElem?_inj (List.getElem?_eq_some_iff.mp h1).1 c.nd).mp (h1.trans h2.symm))
  have kd : ∀ {x : Str}, X.env.scope.names.lookup x = some .local → X.env.kindOf x = some .local := fun h => h
  rcases hl with hl | hl
  · obtain ⟨i, j, rfl⟩ := len2 hl
    obtain ⟨a, b, rfl⟩ := len2 (hv.trans hl)
    have hij : i ≠ j := by simp at nd; exact nd
    obtain ⟨x, px, es, rfl, a1, a2, a3, a4, h1⟩ := locs_cons h1
    obtain ⟨y, py, es, rfl, b1, b2, b3, b4, h1⟩ := locs_cons h1
    cases locs_nil h1
    have lx := c.lcl _ a2
    have ly := c.lcl _ b2
    exact s_par2 c.calm hN (by rw [c.N]; exact a1) (by rw [c.N]; exact b1) hij lx ly ⟨a3, b3⟩ (sP as hp c.toCok) (store2 hb (kd lx) (kd ly) (b4.trans a4.symm) (ne hij a1 b1) ss f1 f2)
  · obtain ⟨i, j, l, rfl⟩ := len3 hl
    obtain ⟨a, b, d, rfl⟩ := len3 (hv.trans hl)
    have hij : i ≠ j ∧ i ≠ l ∧ j ≠ l := by simp at nd; exact ⟨nd.1.1, nd.1.2, nd.2⟩
    obtain ⟨x, px, es, rfl, a1, a2, a3, a4, h1⟩ := locs_cons h1
    obtain ⟨y, py, es, rfl, b1, b2, b3, b4, h1⟩ := locs_cons h1
    obtain ⟨z, pz, es, rfl, d1, d2, d3, d4, h1⟩ := locs_cons h1
    cases locs_nil h1
    have lx := c.lcl _ a2
    have ly := c.lcl _ b2
    have lz := c.lcl _ d2
    exact s_par3 c.calm hN (by rw [c.N]; exact a1) (by rw [c.N]; exact b1) (by rw [c.N]; exact d1) hij.1 hij.2.1 hij.2.2 lx ly lz ⟨a3, b3, d3⟩ (sP as hp c.toCok) (store3 hb (kd lx) (kd ly) (kd lz) (b4.trans a4.symm) (d4.trans a4.symm) (ne hij.1 a1 b1) (ne hij.2.1 a1 d1) (ne hij.2.2 b1 d1) ss f1 f2)
mutual
theorem sS : ∀ (s : S) {sc : Scope} {fx : Nat → Bool} {st : Stmt}, chkS Γ sub s sc fx st = true → ∀ {k : Nat} {W : WX} {X : Cx}, Sok Γ tb sub sc k W X → PS X st (tS X.K X.mg fx W (evS tb sub s))
  | .pass, sc, fx, st, h, k, W, X, c => by
    cases st with
    | Pass p => exact s_pass
    | _ => exact absurd (show false = true from h) Bool.false_ne_true
  | .never, sc, fx, st, h, k, W, X, c => PS.wk ps_never fun D σ H ⟨g, r, h⟩ => h
  | .brk, sc, fx, st, h, k, W, X, c => by
    cases st with
    | Break p => exact s_break
    | _ => exact absurd (show false = true from h) Bool.false_ne_true
  | .cont, sc, fx, st, h, k, W, X, c => by
    cases st with
    | Continue p => exact s_continue
    | _ => exact absurd (show false = true from h) Bool.false_ne_true
  | .expr e, sc, fx, st, h, k, W, X, c => by
    cases st with
    | Expr a p =>
      have h : (!isLC a && chkE Γ e sc a) = true := h
      simp only [Bool.and_eq_true, Bool.not_eq_true'] at h
      exact s_expr (sE e h.2 c.toCok) (swap_no h.1)
    | _ => exact absurd (show false = true from h) Bool.false_ne_true
  | .set i e, sc, fx, st, h, k, W, X, c => by
    cases st with
    | Assign ts a pos =>
      match ts, h with
      | [.Name x p], h =>
        have h : (nmB Γ sc fx i (.Name x p) && lcF sc x a && chkE Γ e sc a) = true := h
        simp only [Bool.and_eq_true] at h
        obtain ⟨⟨h1, h2⟩, h3⟩ := h
        obtain ⟨q1, q2, q3, q4⟩ := nmL_ok c.toCok h1
        exact s_set (by rw [c.N]; exact c.nd) q1 q2 q3 q4 (sE e h3 c.toCok) (lcF_ok c h2)
    | _ => exact absurd (show false = true from h) Bool.false_ne_true
  | .setF i f, sc, fx, st, h, k, W, X, c => by
    cases st with
    | Assign ts a pos =>
      match ts, h with
      | [.Name x p], h =>
        have h : (nmB Γ sc fx i (.Name x p) && (lcF sc x a || lcT sc x p a) && chkF Γ f sc a) = true := h
        simp only [Bool.and_eq_true, Bool.or_eq_true] at h
        obtain ⟨⟨h1, h2⟩, h3⟩ := h
        obtain ⟨q1, q2, q3, q4⟩ := nmL_ok c.toCok h1
        rcases h2 with h2 | h2
        · exact s_setF (by rw [c.N]; exact c.nd) q1 q2 q3 q4 (sF f h3 c.toCok) (lcF_ok c h2)
        · exact s_setFl q4 (lcset_ok c q1 h2 h3)
    | _ => exact absurd (show false = true from h) Bool.false_ne_true
  | .setZ i f, sc, fx, st, h, k, W, X, c => by
    cases st with
    | Assign ts a pos =>
      match ts, h with
      | [.Name x p], h =>
        have h : (nmB Γ sc fx i (.Name x p) && lcT sc x p a && chkF Γ f sc a) = true := h
        simp only [Bool.and_eq_true] at h
        obtain ⟨⟨h1, h2⟩, h3⟩ := h
        obtain ⟨q1, q2, q3, q4⟩ := nmL_ok c.toCok h1
        exact s_setZl q4 (lcset_ok c q1 h2 h3)
    | _ => exact absurd (show false = true from h) Bool.false_ne_true
  | .unp tg e, sc, fx, st, h, k, W, X, c => by
    cases st with
    | Assign ts a pos =>
      match ts, h with
      | [.Tuple es kk p], h =>
        have h : (tgB Γ sc fx false tg (.Tuple es kk p) && (!isTup a || (decide (es.length ≠ 2) && decide (es.length ≠ 3))) && chkE Γ e sc a) = true := h
        simp only [Bool.and_eq_true, Bool.or_eq_true, Bool.not_eq_true', decide_eq_true_eq] at h
        obtain ⟨⟨h1, h2⟩, h3⟩ := h
        have hw : swappedStores [.Tuple es kk p] a X.env = pure none := by
          rcases h2 with h2 | h2
          · exact stores_no h2
          · cases a <;> first | exact stores_len h2 | exact stores_no rfl
        exact s_unp (sE e h3 c.toCok) (tg_ok c.toCok h1) sole_tup hw rfl
    | _ => exact absurd (show false = true from h) Bool.false_ne_true
  | .par is as, sc, fx, st, h, k, W, X, c => by
    cases st with
    | Assign ts a pos =>
      match ts, a, h with
      | [.Tuple ts kt pt], .Tuple vs k2 pt2, h =>
        unfold chkS at h
        simp only [Bool.and_eq_true, Bool.or_eq_true, decide_eq_true_eq, Bool.not_eq_true'] at h
        obtain ⟨⟨⟨⟨⟨⟨h1, h2⟩, h3⟩, h4⟩, h5⟩, h6⟩, h7⟩ := h
        split at h1
        · rename_i x0 p0 es0
          exact par_ok c h1 (fun x p es e => by cases e; rfl) h2 h3 h4 h5 h6 h7
        · cases h1
    | _ => exact absurd (show false = true from h) Bool.false_ne_true
  | .setI s i e, sc, fx, st, h, k, W, X, c => by
    cases st with
    | Assign ts v pos =>
      match ts, h with
      | [.Subscript a b p], h =>
        have h : (slotB Γ sc s a && !isSlice b && chkE Γ i sc b && chkE Γ e sc v) = true := h
        simp only [Bool.and_eq_true, Bool.not_eq_true'] at h
        obtain ⟨⟨⟨h1, h2⟩, h3⟩, h4⟩ := h
        exact s_setI (slot_ok c.toCok h1) (sE i h3 c.toCok) (sE e h4 c.toCok) h2 sole_sub stores_sub
    | _ => exact absurd (show false = true from h) Bool.false_ne_true
  | .iff t a b, sc, fx, st, h, k, W, X, c => by
    cases st with
    | If u x y pos =>
      have h : (chkT Γ t sc u && chkSL Γ sub a sc fx x && chkSL Γ sub b sc fx y) = true := h
      simp only [Bool.and_eq_true] at h
      exact s_if (sT t h.1.1 c.toCok) (sSL a h.1.2 c) (sSL b h.2 c)
    | _ => exact absurd (show false = true from h) Bool.false_ne_true
  | .for tg it body, sc, fx, st, h, k, W, X, c => by
    cases st with
    | For te ie bd orelse pos =>
      match orelse, h with
      | [], h =>
        have h : (isComp ie && chkI Γ it sc ie && (!isPr it || isTup te) && tgB Γ sc fx (isPr it) tg te && chkSL Γ sub body sc fx bd) = true := h
        simp only [Bool.and_eq_true] at h
        obtain ⟨⟨⟨⟨h1, h2⟩, h3⟩, h4⟩, h5⟩ := h
        exact s_for c.own c.calm (sI it h2 (fun e => by rw [e] at h3; simpa using h3) c.toCok) (tg_ok c.toCok h4) (sSL body h5 c) (fun x => fold_ok h1)
    | _ => exact absurd (show false = true from h) Bool.false_ne_true
  | .whl n t body, sc, fx, st, h, k, W, X, c => by
    cases st with
    | While u bd orelse pos =>
      match orelse, h with
      | [], h =>
        have h : (chkT Γ t sc u && chkSL Γ sub body sc fx bd) = true := h
        simp only [Bool.and_eq_true] at h
        exact s_while n c.own (sT t h.1 c.toCok) (sSL body h.2 c)
    | _ => exact absurd (show false = true from h) Bool.false_ne_true
  | .ret e, sc, fx, st, h, k, W, X, c => by
    cases st with
    | Return a pos =>
      cases a with
      | some a => exact s_ret (sE e h c.toCok)
      | none => exact absurd (show false = true from h) Bool.false_ne_true
    | _ => exact absurd (show false = true from h) Bool.false_ne_true
  | .retF f, sc, fx, st, h, k, W, X, c => by
    cases st with
    | Return a pos =>
      cases a with
      | some a => exact s_retF (sF f h c.toCok)
      | none => exact absurd (show false = true from h) Bool.false_ne_true
    | _ => exact absurd (show false = true from h) Bool.false_ne_true
  | .retS s, sc, fx, st, h, k, W, X, c => by
    cases st with
    | Return a pos =>
      cases a with
      | some a => exact s_retS (slot_ok c.toCok h)
      | none => exact absurd (show false = true from h) Bool.false_ne_true
    | _ => exact absurd (show false = true from h) Bool.false_ne_true
  | .retN, sc, fx, st, h, k, W, X, c => by
    cases st with
    | Return a pos =>
      cases a with
      | none => exact s_retN
      | some a => exact absurd (show false = true from h) Bool.false_ne_true
    | _ => exact absurd (show false = true from h) Bool.false_ne_true
  | .raise cl, sc, fx, st, h, k, W, X, c => by
    unfold chkS at h
    split at h
    · rename_i x p m j p2 p3 p4
      simp only [Bool.and_eq_true, decide_eq_true_eq] at h
      obtain ⟨⟨⟨h1, h2⟩, h3⟩, h4⟩ := h
      subst h1
      obtain ⟨b, hb⟩ := isSome_get h4
      obtain ⟨C, D', g1, _, eC, _⟩ := c.so.ex x x b hb
      exact s_raise c.calm c.tk eC g1 (c.glo _ h2) h3
    · cases h
  | .tryS body c0 n kk tb' d, sc, fx, st, h, k, W, X, c => by
    unfold chkS at h
    split at h
    · rename_i bd c1 np nm x p1 e p2 pos' pos
      simp only [Bool.and_eq_true, decide_eq_true_eq, Bool.not_eq_true'] at h
      obtain ⟨⟨⟨⟨⟨⟨⟨⟨⟨⟨⟨⟨⟨h1, h2⟩, h3⟩, h4⟩, h5⟩, h6⟩, h7⟩, h8⟩, h9⟩, h10⟩, h11⟩, h12⟩, h13⟩, h14⟩ := h
      subst h1
      obtain ⟨q1, q2, q3, q4⟩ := nmL_ok c.toCok h8
      obtain ⟨b, hb⟩ := isSome_get h13
      obtain ⟨C, D', g1, _, eC, _⟩ := c.so.ex c1 c1 b hb
      obtain ⟨z1, z2⟩ := ch_ok c.toCok h11
      exact s_try c.stk c.frm (by rw [c.N]; exact c.nd) c.tk c.so g1 (c.glo _ h2) h3 (by rw [c.N]; exact h4) (c.lcl _ h5) h6 q1 q2 q3 h9 (c.blt _ (by decide +kernel)) (c.glo _ h10) z1 z2 (swap_no h12) h7 q4
        (fun W' pn xe tk ow => sSL body h14 (c.tr tk ow))
    · cases h
theorem sSL : ∀ (s : SL) {sc : Scope} {fx : Nat → Bool} {sts : List Stmt}, chkSL Γ sub s sc fx sts = true → ∀ {k : Nat} {W : WX} {X : Cx}, Sok Γ tb sub sc k W X → PSs X sts (tS X.K X.mg fx W (evSL tb sub s))
  | .nil, sc, fx, [], h, k, W, X, c => ss_nil
  | .cons s r, sc, fx, st :: sts, h, k, W, X, c => by
    have h : (chkS Γ sub s sc fx st && chkSL Γ sub r sc fx sts) = true := h
    rw [Bool.and_eq_true] at h
    exact ss_cons (sS s h.1 c) (sSL r h.2 c)
  | .nil, sc, fx, _ :: _, h, k, W, X, c => absurd (show false = true from h) Bool.false_ne_true
  | .cons s r, sc, fx, [], h, k, W, X, c => absurd (show false = true from h) Bool.false_ne_true
end
end
end PL
/-! PLt: a def's promise -/
namespace PL
open PySem PySem.Spec PyProof.Rows L2

/-- what the arguments' slots hold behind the call -/
def fixA : List Bool → List C → Env → List (Option C)
  | b :: io, c :: cs, o :: g => (if b then o else some c) :: fixA io cs g
  | _, _, _ => []
/-- arguments that are not handed back are values -/
def argsOk : List Bool → List C → Bool
  | b :: io, c :: cs => (b || (match c with | .pu _ => true | _ => false)) && argsOk io cs
  | [], [] => true
  | _, _ => false
def runD (tb : List FS) (sub : Str → Str → Option Bool) (n : Nat) (io : List Bool) (b : SL) : FS := fun cs =>
  if argsOk io cs then
    match evSL tb sub b (cs.map some ++ List.replicate (n - cs.length) none) with
    | .nx g => if cs.length ≤ g.length then .ok (.pu .none) (fixA io cs g) else .no
    | .rt c g => if cs.length ≤ g.length then .ok c (fixA io cs g) else .no
    | .exc c g => if cs.length ≤ g.length then .exc c (fixA io cs g) else .no
    | _ => .no
  else .no
theorem argsOk_len : ∀ {io : List Bool} {cs : List C}, argsOk io cs = true → cs.length = io.length
  | [], [], _ => rfl
  | b :: io, c :: cs, h => by
    unfold argsOk at h
    rw [Bool.and_eq_true] at h
    rw [List.length_cons, List.length_cons, argsOk_len h.2]
  | [], _ :: _, h => nomatch h
  | _ :: _, [], h => nomatch h
theorem fixA_len : ∀ {io : List Bool} {cs : List C} {g : Env}, cs.length = io.length → cs.length ≤ g.length → (fixA io cs g).length = cs.length
  | [], [], _, _, _ => rfl
  | b :: io, c :: cs, o :: g, h, h2 => by
    show (fixA io cs g).length + 1 = cs.length + 1
    rw [fixA_len (by simpa using h) (by simpa using h2)]
  | _ :: _, _ :: _, [], _, h2 => by simp at h2
  | [], _ :: _, _, h, _ => by simp at h
  | _ :: _, [], _, h, _ => by simp at h
theorem fixA_at : ∀ {io : List Bool} {cs : List C} {g : Env} {j : Nat} {c : C}, argsOk io cs = true → (fixA io cs g)[j]? = some (some c) → (io[j]? = some true ∧ g[j]? = some (some c)) ∨ (cs[j]? = some c ∧ ∃ d, c = .pu d)
  | b :: io, c0 :: cs, o :: g, 0, c, h, e => by
    unfold argsOk at h
    rw [Bool.and_eq_true] at h
    have e : some (if b then o else some c0) = some (some c) := e
    cases b with
    | true => simp at e; exact .inl ⟨rfl, by rw [← e]; rfl⟩
    | false =>
      simp at e
      subst e
      refine .inr ⟨rfl, ?_⟩
      cases c0 with
      | pu d => exact ⟨d, rfl⟩
      | _ => exact absurd h.1 (by simp)
  | b :: io, c0 :: cs, o :: g, j + 1, c, h, e => by
    unfold argsOk at h
    rw [Bool.and_eq_true] at h
    exact fixA_at (io := io) (cs := cs) (g := g) (j := j) h.2 e
  | [], _, _, _, _, _, e => by simp [fixA] at e
  | _ :: _, [], _, _, _, _, e => by simp [fixA] at e
  | _ :: _, _ :: _, [], _, _, _, e => by simp [fixA] at e
section
variable {K : PySem.W.Frag} {H : Hp} {vs : List V} {cs : List C} {N : List Str}
theorem pad_at {α : Type} {l : List α} {m j : Nat} {x : α} (h : (l.map some ++ List.replicate m none)[j]? = some (some x)) : l[j]? = some x := by
  by_cases hj : j < l.length
  · rw [List.getElem?_append_left (by simpa using hj), List.getElem?_map] at h
    cases e : l[j]? with
    | none => rw [e] at h; cases h
    | some y => rw [e] at h; cases h; rfl
  · rw [List.getElem?_append_right (by simpa using hj), List.getElem?_replicate] at h
    split at h <;> cases h
theorem at_pad {α : Type} {l : List α} {m j : Nat} {x : α} (h : l[j]? = some x) : (l.map some ++ List.replicate m none)[j]? = some (some x) := by
  have hj := (List.getElem?_eq_some_iff.mp h).1
  rw [List.getElem?_append_left (by simpa using hj), List.getElem?_map, h]
  rfl
/-- the names' values at the entry -/
theorem start_env (hl : vs.length = cs.length) (r : RelEnv K (vs.map some) H (cs.map some)) : RelEnv K (L2.start N vs) H (cs.map some ++ List.replicate (N.length - cs.length) none) ∧ (∀ b, MAd (L2.start N vs) (cs.map some ++ List.replicate (N.length - cs.length) none) H b ↔ MAd (vs.map some) (cs.map some) H b) := by
  unfold L2.start
  refine ⟨⟨by simp [hl], fun i c e => ?_, fun i j b c c' v v' e1 s1 m1 e2 s2 m2 => ?_⟩, fun b => ⟨fun ⟨j, c, v, e, s, m⟩ => ⟨j, c, v, at_map_some (pad_at e), at_map_some (pad_at s), m⟩, fun ⟨j, c, v, e, s, m⟩ => ⟨j, c, v, at_pad (map_some_at e), at_pad (map_some_at s), m⟩⟩⟩
  · obtain ⟨v, s, q⟩ := r.val i c (at_map_some (pad_at e))
    exact ⟨v, at_pad (map_some_at s), q⟩
  · exact r.sep i j b c c' v v' (at_map_some (pad_at e1)) (at_map_some (pad_at s1)) m1 (at_map_some (pad_at e2)) (at_map_some (pad_at s2)) m2
/-- behind the body: what the arguments' slots hold -/
theorem end_env {io : List Bool} {fx : Nat → Bool} {σ' : St} {g' : Env} {H' : Hp} (ok : argsOk io cs = true) (hl : vs.length = cs.length) (hN : cs.length ≤ N.length) (hfx : ∀ j, io[j]? = some true → fx j = true) (r : RelEnv K (vs.map some) H (cs.map some))
    (r' : RelEnv K σ' H' g') (s : Step fx (L2.start N vs) (cs.map some ++ List.replicate (N.length - cs.length) none) H σ' g' H') (hg : cs.length ≤ g'.length) :
    RelEnv K (vs.map some) H' (fixA io cs g') ∧ Step (fun _ => false) (vs.map some) (cs.map some) H (vs.map some) (fixA io cs g') H' ∧ ∀ b, MAd (vs.map some) (fixA io cs g') H' b → MAd σ' g' H' b := by
  obtain ⟨r0, m0⟩ := start_env (N := N) hl r
  have x : Ex H H' := s.ex r0
  have li := argsOk_len ok
  have back : ∀ {j : Nat} {c : C} {v : V}, (fixA io cs g')[j]? = some (some c) → (vs.map some)[j]? = some (some v) → (g'[j]? = some (some c) ∧ σ'[j]? = some (some v)) ∨ (∃ d, c = .pu d ∧ cs[j]? = some c) := fun {j c v} e sv => by
    rcases fixA_at ok e with ⟨h1, h2⟩ | ⟨h1, d, h2⟩
    · refine .inl ⟨h2, ?_⟩
      rw [s.fix j (hfx j h1)]
      exact at_pad (map_some_at sv)
    · exact .inr ⟨d, h2, h1⟩
  have val : ∀ {j : Nat} {c : C}, (fixA io cs g')[j]? = some (some c) → ∃ v, (vs.map some)[j]? = some (some v) := fun {j c} e => by
    have hj : j < vs.length := by
      have := (List.getElem?_eq_some_iff.mp e).1
      rw [fixA_len li hg] at this
      omega
    exact ⟨vs[j], at_map_some (List.getElem?_eq_getElem hj)⟩
  have mm : ∀ b, MAd (vs.map some) (fixA io cs g') H' b → MAd σ' g' H' b := fun b ⟨j, c, v, e, sv, m⟩ => by
    rcases back e sv with ⟨h1, h2⟩ | ⟨d, rfl, h1⟩
    · exact ⟨j, c, v, h1, h2, m⟩
    · exact nomatch m
  refine ⟨⟨by rw [List.length_map, fixA_len li hg]; exact hl, fun j c e => ?_, fun i j b c c' v v' e1 s1 m1 e2 s2 m2 => ?_⟩, ⟨fun b o e n => s.keep b o e fun z => n ((m0 b).mp z), fun b m => (s.mad b (mm b m)).imp (m0 b).mp id, fun _ h => (nomatch h), s.dom⟩, mm⟩
  · obtain ⟨v, sv⟩ := val e
    refine ⟨v, sv, ?_⟩
    rcases back e sv with ⟨h1, h2⟩ | ⟨d, rfl, h1⟩
    · exact r'.at h1 h2
    · exact Rp.ex x (r.at (at_map_some h1) sv)
  · rcases back e1 s1 with ⟨a1, a2⟩ | ⟨d, rfl, h1⟩
    · rcases back e2 s2 with ⟨b1, b2⟩ | ⟨d, rfl, h1⟩
      · exact r'.sep i j b c c' v v' a1 a2 m1 b1 b2 m2
      · exact nomatch m2
    · exact nomatch m1
end
/-- what is known of a module's names -/
structure Mok (P : Program) (w : World) (K : PySem.W.Frag) (mg : Str → Option Value) (base : Heap) (Γ : Gm) (tb : List FS) (sub : Str → Str → Option Bool) (k : Nat) : Prop where
  blt : ∀ x, x ∈ bnames → mg x = none
  con : ∀ p, p ∈ Γ.cons → ∃ v u, mg p.1 = some u ∧ RelV v u ∧ ∀ H, Rp K H v p.2
  fns : ∀ (j : Nat) (e : Fe), Γ.fns[j]? = some e → ∃ (f : Addr) (fd : FuncData) (ps : List Str) (i : Nat), mg e.name = some (.ref f) ∧ PySem.W.keepIn K (.ref f) = true ∧
    FnOk P w K mg base (L2.CX P w) i f fd ps (spF K mg e.io.length (fn tb j)) ∧ i ≤ k ∧ Binds K fd ps [] ∧ ps.length = e.io.length ∧
    ∀ q, q ∈ e.kws → KBn K fd ps 0 q.1 (fun _ ws => permN q.2 ws) (fun _ zs => permN q.2 zs) ∧ q.2.length = e.io.length
  so : SubOk K mg sub
def ioF (io : List Bool) : Nat → Bool := fun j => io.getD j false
theorem ioF_at {io : List Bool} {j : Nat} (h : io[j]? = some true) : ioF io j = true := by
  unfold ioF
  rw [List.getD_eq_getElem?_getD, h]
  rfl
theorem fn_ok {P : Program} {w : World} {K : PySem.W.Frag} {mg : Str → Option Value} {base : Heap} {Γ : Gm} {tb : List FS} {sub : Str → Str → Option Bool} {k : Nat} (M : Mok P w K mg base Γ tb sub k)
    {x qual : Str} {params : Arguments} {body : List Stmt} {sc : Scope} {f : Addr} {fd : FuncData} (F : FunD K x qual params body sc [] [] f fd) {ps : List Str} {io : List Bool} {b : SL} (S : FnScope Γ.N ps sc) (hio : ps.length = io.length) (hc : chkSL Γ sub b sc (ioF io) body = true) :
    FnOk P w K mg base (L2.CX P w) (k + 1) f fd ps (spF K mg io.length (runD tb sub Γ.N.length io b)) := by
  have hpl : ps.length ≤ Γ.N.length := by have := congrArg List.length S.pre; rw [List.length_take] at this; omega
  refine F.ok S (fun vs H Q E h => by rw [hio]; exact h.1) fun cdv A outer s H vs Q E hr ⟨h1, cs, h2, r, h⟩ => ?_
  have sok : Sok Γ tb sub sc k (fun cls d _ H' => E cls d H') (cxOf (L2.CX P w) P w K mg base Γ.N qual sc f cdv A outer s H E) := by
    refine { calm := rfl, N := rfl, nd := S.nd, room := hr, vis := fun x h => visB_iff h, glo := fun x h => gloB_iff h, loc := fun x h => ⟨locB_iff h, .inl rfl⟩, lcl := fun x h => lclB_iff h, cf := fun x h => cfB_iff h, blt := M.blt, tk := takes_of rfl rfl rfl rfl, con := M.con, fns := M.fns, own := passes_of rfl, stk := rfl, frm := rfl, so := M.so, sce := rfl, knd := S.kind }
  refine ⟨_, sSL (fx := ioF io) b hc sok, ?_⟩
  obtain ⟨r0, m0⟩ := start_env (N := Γ.N) (by omega) r
  refine ⟨_, r0, ?_⟩
  unfold runD at h
  cases ok : argsOk io cs with
  | false => rw [ok] at h; exact h.elim
  | true =>
    rw [ok] at h
    simp only [if_true] at h
    have hl : vs.length = cs.length := by omega
    have hcn : cs.length ≤ Γ.N.length := by omega
    have gl : ∀ {σ' : St} {H' : Hp} {g' : Env}, RelEnv K σ' H' g' → Step (ioF io) (L2.start Γ.N vs) (cs.map some ++ List.replicate (Γ.N.length - cs.length) none) H σ' g' H' → cs.length ≤ g'.length → RelEnv K (vs.map some) H' (fixA io cs g') ∧ Step (fun _ => false) (vs.map some) (cs.map some) H (vs.map some) (fixA io cs g') H' ∧ ∀ b, MAd (vs.map some) (fixA io cs g') H' b → MAd σ' g' H' b :=
      fun r' s' hg => end_env ok hl hcn (fun j => ioF_at) r r' s' hg
    cases em : evSL tb sub b (cs.map some ++ List.replicate (Γ.N.length - cs.length) none) with
    | nx g' =>
      rw [em] at h
      by_cases hg : cs.length ≤ g'.length
      · simp only [hg, if_true] at h
        intro σ' H' r' s'
        obtain ⟨e1, e2, _⟩ := gl r' s' hg
        exact h .non H' e1 e2 .non
      · simp only [hg, if_false] at h
    | rt c g' =>
      rw [em] at h
      by_cases hg : cs.length ≤ g'.length
      · simp only [hg, if_true] at h
        intro v σ' H' r' s' q
        obtain ⟨e1, e2, e3⟩ := gl r' s' hg
        refine h v H' e1 e2 ?_
        cases c with
        | pu d => exact q
        | ml ds =>
          obtain ⟨a, ws, q1, q2, q3, q4, q5⟩ := q
          exact ⟨a, ws, q1, q2, q3, q4.imp id (m0 a).mp, fun z => q5 (e3 a z)⟩
        | _ => exact q
      · simp only [hg, if_false] at h
    | exc c g' =>
      rw [em] at h
      by_cases hg : cs.length ≤ g'.length
      · simp only [hg, if_true] at h
        intro C σ' H' eC r' s'
        obtain ⟨e1, e2, _⟩ := gl r' s' hg
        exact h C H' eC e1 e2
      · simp only [hg, if_false] at h
    | bk g' => rw [em] at h; exact h.elim
    | ct g' => rw [em] at h; exact h.elim
    | no => rw [em] at h; exact h.elim
end PL
/-! PLu: a module's defs, one behind another; the law itself -/
namespace PL
open PySem PySem.Spec PyProof.Rows L2

/-- a def that keeps its promise at level k -/
def AtFn (P : Program) (w : World) (K : PySem.W.Frag) (mg : Str → Option Value) (base : Heap) (k : Nat) (e : Fe) (F : FS) : Prop := ∃ (f : Addr) (fd : FuncData) (ps : List Str) (i : Nat), mg e.name = some (.ref f) ∧ PySem.W.keepIn K (.ref f) = true ∧
    FnOk P w K mg base (L2.CX P w) i f fd ps (spF K mg e.io.length F) ∧ i ≤ k ∧ Binds K fd ps [] ∧ ps.length = e.io.length ∧
    ∀ q, q ∈ e.kws → KBn K fd ps 0 q.1 (fun _ ws => permN q.2 ws) (fun _ zs => permN q.2 zs) ∧ q.2.length = e.io.length
section
variable {P : Program} {w : World} {K : PySem.W.Frag} {mg : Str → Option Value} {base : Heap}
theorem AtFn.mono {j k : Nat} {e : Fe} {F : FS} (h : AtFn P w K mg base j e F) (hj : j ≤ k) : AtFn P w K mg base k e F := by
  obtain ⟨f, fd, ps, i, h1, h2, h3, h4, h5⟩ := h
  exact ⟨f, fd, ps, i, h1, h2, h3, Nat.le_trans h4 hj, h5⟩
theorem fns_nil {k : Nat} {tb : List FS} : ∀ (j : Nat) (e : Fe), ([] : List Fe)[j]? = some e → AtFn P w K mg base k e (fn tb j) := fun _ _ h => by simp at h
theorem fns_cons {k : Nat} {e : Fe} {F : FS} {es : List Fe} {tb : List FS} (h : AtFn P w K mg base k e F) (r : ∀ (j : Nat) (e : Fe), es[j]? = some e → AtFn P w K mg base k e (fn tb j)) :
    ∀ (j : Nat) (e' : Fe), (e :: es)[j]? = some e' → AtFn P w K mg base k e' (fn (F :: tb) j)
  | 0, e', q => by cases q; exact h
  | j + 1, e', q => r j e' q
theorem all_nil {α : Type} {p : α → Prop} : ∀ q, q ∈ ([] : List α) → p q := fun _ h => nomatch h
theorem all_cons {α : Type} {p : α → Prop} {a : α} {l : List α} (h : p a) (r : ∀ q, q ∈ l → p q) : ∀ q, q ∈ a :: l → p q := fun q m => by
  rcases List.mem_cons.mp m with rfl | m
  · exact h
  · exact r q m
def ConAt (K : PySem.W.Frag) (mg : Str → Option Value) (p : Str × D) : Prop := ∃ v u, mg p.1 = some u ∧ RelV v u ∧ ∀ H, Rp K H v p.2
theorem con_nil : ∀ p : Str × D, p ∈ ([] : List (Str × D)) → ∃ v u, mg p.1 = some u ∧ RelV v u ∧ ∀ H, Rp K H v p.2 := fun _ h => nomatch h
theorem con_cons {x : Str} {d : D} {l : List (Str × D)} (h : ∃ v u, mg x = some u ∧ RelV v u ∧ ∀ H, Rp K H v d) (r : ∀ p : Str × D, p ∈ l → ∃ v u, mg p.1 = some u ∧ RelV v u ∧ ∀ H, Rp K H v p.2) : ∀ p : Str × D, p ∈ (x, d) :: l → ∃ v u, mg p.1 = some u ∧ RelV v u ∧ ∀ H, Rp K H v p.2 := fun p m => by
  rcases List.mem_cons.mp m with rfl | m
  · exact h
  · exact r p m
theorem permN_vals {zs : List V} {ws : List Value} (r : Vals zs ws) : ∀ perm : List Nat, Vals (permN perm zs) (permN perm ws)
  | [] => .nil
  | j :: perm => by
    have ih := permN_vals r perm
    unfold permN at ih ⊢
    rw [List.filterMap_cons, List.filterMap_cons]
    cases e : zs[j]? with
    | none =>
      have : ws[j]? = none := by rw [List.getElem?_eq_none_iff] at e ⊢; rw [← r.length]; exact e
      rw [this]
      exact ih
    | some v =>
      obtain ⟨u, eu, ru⟩ := r.get e
      rw [eu]
      exact .cons ru ih
theorem kbn_of {x qual : Str} {params : Arguments} {body : List Stmt} {sc : Scope} {f : Addr} {fd : FuncData} (F : FunD K x qual params body sc [] [] f fd) {ps ks : List Str} {perm : List Nat}
    (h : ∀ (kV doc pm : Value) (an : Option Addr) (cdv ct : Value) (ws : List Value), ws.length = ks.length → bindArgs (PySem.W.fnOf x qual params body sc .none kV doc pm an cdv ct) ⟨[], ks.zip ws⟩ = pure (ps.zip (permN perm ws))) :
    KBn K fd ps 0 ks (fun _ ws => permN perm ws) (fun _ zs => permN perm zs) := by
  obtain ⟨oc, od, dV, kV, doc, pm, an, cdv, ct, osl, rfl, lk, hcd, hD, hK⟩ := F.ex
  rcases hD with ⟨_, rfl⟩ | ⟨e, _⟩
  · refine ⟨fun s us ws _ l1 l2 => ?_, fun _ rz => permN_vals rz perm⟩
    have : us = [] := List.eq_nil_of_length_eq_zero l1
    subst this
    exact .of_eq (h kV doc pm an cdv ct ws l2)
  · exact absurd rfl e
/-- THE RULE for a def of the module -/
theorem at_fn {Γ : Gm} {tb : List FS} {sub : Str → Str → Option Bool} {k : Nat} (M : Mok P w K mg base Γ tb sub k) {x qual : Str} {params : Arguments} {body : List Stmt} {sc : Scope} {f : Addr} {fd : FuncData} {e : Fe} {b : SL} (F : FunD K x qual params body sc [] [] f fd)
    (gm : mg e.name = some (.ref f)) (ps : List Str) (hs : C8.scC Γ.N ps sc = true) (hio : ps.length = e.io.length) (hc : chkSL Γ sub b sc (ioF e.io) body = true)
    (hb : ∀ (kV doc pm : Value) (an : Option Addr) (cdv ct : Value) (us : List Value), us.length = ps.length → bindArgs (PySem.W.fnOf x qual params body sc .none kV doc pm an cdv ct) ⟨us, []⟩ = pure (ps.zip us))
    (hk : ∀ q, q ∈ e.kws → q.2.length = e.io.length ∧ ∀ (kV doc pm : Value) (an : Option Addr) (cdv ct : Value) (ws : List Value), ws.length = q.1.length → bindArgs (PySem.W.fnOf x qual params body sc .none kV doc pm an cdv ct) ⟨[], q.1.zip ws⟩ = pure (ps.zip (permN q.2 ws))) :
    AtFn P w K mg base (k + 1) e (runD tb sub Γ.N.length e.io b) :=
  ⟨f, fd, ps, k + 1, gm, F.kp, fn_ok M F (C8.fnScope_by hs) hio hc, Nat.le_refl _, FunD.bindsN F hb, hio, fun q hq => ⟨kbn_of F (hk q hq).2, (hk q hq).1⟩⟩
theorem blt_of {h : Heap} {fa : List He.Fa} {fns : List He.DefD} (X : K.In h) (G : h.Ns mainGlobals mg) (c : He.SaysD fa fns K) (hf : fa.take bnames.length = bnames.map He.Fa.free) : ∀ x, x ∈ bnames → mg x = none := fun x m => by
  have : He.Fa.free x ∈ fa := List.mem_of_mem_take (i := bnames.length) (by rw [hf]; exact List.mem_map.mpr ⟨x, m, rfl⟩)
  exact He.free_ok X G (c.facts this)
theorem con_int {h : Heap} {fa : List He.Fa} {fns : List He.DefD} (X : K.In h) (G : h.Ns mainGlobals mg) (c : He.SaysD fa fns K) (j : Nat) {x : Str} {i : Int} (hj : fa[j]? = some (.int x i)) : ∃ v u, mg x = some u ∧ RelV v u ∧ ∀ H, Rp K H v (.int i) := by
  obtain ⟨t, e⟩ := He.int_ok X G (c.fact j hj)
  exact ⟨.int i, _, e, ⟨t, rfl⟩, fun _ => .int i⟩
theorem con_str {h : Heap} {fa : List He.Fa} {fns : List He.DefD} (X : K.In h) (G : h.Ns mainGlobals mg) (c : He.SaysD fa fns K) (j : Nat) {x z : Str} (hj : fa[j]? = some (.str x z)) : ∃ v u, mg x = some u ∧ RelV v u ∧ ∀ H, Rp K H v (.str z) := by
  obtain ⟨t, e⟩ := He.str_ok X G (c.fact j hj)
  exact ⟨.str z, _, e, ⟨t, rfl⟩, fun _ => .str z⟩
/-- a def that lets nothing out -/
theorem fn_calm {k : Nat} {f : Addr} {fd : FuncData} {ps : List Str} {sp : Sp} (F : FnOk P w K mg base (L2.CX P w) k f fd ps sp) : FnOk P w K mg base CX0 k f fd ps (fun vs H Q _ => sp vs H Q fun _ _ _ => False) :=
  ⟨fun vs H Q E h => F.len vs H Q _ h, fun A outer s H args us vs Q E hr e0 hb hv hs => codeAny_mono (F.run A outer s H args us vs Q (fun _ _ _ => False) hr e0 hb hv hs) fun r s' hq => by
    cases r with
    | ok fl => cases fl <;> exact hq
    | error e =>
      obtain ⟨a, B, H', cls, d, _, _, _, _, _, _, _, z⟩ := hq
      exact z.elim⟩
theorem fn_no {k : Nat} {f : Addr} {fd : FuncData} {ps : List Str} {n : Nat} (hl : ps.length = n) : FnOk P w K mg base (L2.CX P w) k f fd ps (spF K mg n fun _ => .no) :=
  ⟨fun vs H Q E h => h.1.trans hl.symm, fun A outer s H args us vs Q E hr e0 hb hv ⟨_, _, _, _, z⟩ => z.elim⟩
/-- no class is known -/
def sub0 : Str → Str → Option Bool := fun _ _ => none
theorem so_none : SubOk K mg sub0 := ⟨fun _ _ _ h => nomatch h⟩
/-- the law's own promise: the script comes as a list that nobody writes -/
theorem sp_law {F : FS} {H : Hp} {a : Addr} {ns : List Int} {as : List (Option C)} (hO : Only H) (hS : SqL K H a (ns.map V.int)) (h : F [.sl (ns.map PyData.int)] = .ok (.pu (.bool true)) as) :
    spF K mg 1 F [.ref a] H (fun v _ => v = .bl true) fun _ _ _ => False := by
  have hx : SlX K H a (ns.map V.int) := by
    rcases hS with (hS | hS) | hS
    · rcases hO a with z | ⟨o, xs, z⟩
      · rw [hS] at z; cases z
      · rw [hS] at z; cases z
    · exact .inl hS
    · exact .inr hS
  have hr : RpAll K H (ns.map V.int) (ns.map PyData.int) := by
    induction ns with
    | nil => exact .nil
    | cons n ns ih =>
      rw [List.map_cons, List.map_cons]
      refine .cons (.int n) ?_
      clear ih h hx hS
      induction ns with
      | nil => exact .nil
      | cons m ms ih => exact .cons (.int m) ih
  refine ⟨rfl, [.sl (ns.map PyData.int)], rfl, ⟨rfl, fun i c e => ?_, fun i j b c c' v v' e1 s1 m1 e2 s2 m2 => ?_⟩, ?_⟩
  · match i, e with
    | 0, e =>
      cases e
      exact ⟨_, rfl, a, _, rfl, hx, hr⟩
  · match i, j, e1, e2 with
    | 0, 0, _, _ => rfl
  · rw [h]
    intro v H' _ _ q
    exact rp_bl q
end
end PL
namespace LW
open PySem PySem.Spec PyProof.Rows L2 PL
def top (i : Nat) : Stmt := PySem.Challenge.pw_behindeachlot_k65_whole_lines_stuck_join.main.body.getD i (.Pass ⟨0, 0, 0, 0⟩)
/-! ### _law_feed -/
abbrev s__law_feed : Stmt := top 21
def e__law_feed : Fe := { name := "_law_feed", io := [true, false], kws := [] }
def N__law_feed : List Str := ["script", "k", "cell"]
def P__law_feed : List Str := ["script", "k"]
def g__law_feed : Gm := { N := N__law_feed, fns := [], cons := [] }
def b__law_feed_0 : S := (.set 2 (.bin .Add (.bin .Mult (.con (.int 9403)) (.var 1)) (.bin .Mult (.con (.int 683)) (.bi .sum (.cons (.fz (.cutX 0 .no (.e (.con (.int 3))))) .nil)))))
def b__law_feed_1 : S := (.iff (.cmp .Lt (.var 1) (.lenX 0)) (.cons (.set 2 (.atX 0 (.var 1))) .nil) .nil)
def b__law_feed_2 : S := (.retF (.lst (.cons (.bi .max2 (.cons (.con (.int 0)) (.cons (.bin .Sub (.var 2) (.bin .Pow (.con (.int 10)) (.con (.int 18)))) .nil))) (.cons (.bin .Mod (.bi .int (.cons (.bin .Add (.bin .Add (.bin .Mult (.var 2) (.con (.int 1423))) (.bin .Mult (.con (.int 557)) (.var 1))) (.con (.int 283))) .nil)) (.bin .Add (.bin .Pow (.con (.int 10)) (.con (.int 40))) (.con (.int 121)))) (.cons (.con (.int 0)) .nil)))))
def b__law_feed : SL := (.cons b__law_feed_0 (.cons b__law_feed_1 (.cons b__law_feed_2 .nil)))
def tb__law_feed : List FS := []
def F__law_feed : FS := runD tb__law_feed sub0 g__law_feed.N.length e__law_feed.io b__law_feed
theorem ck__law_feed : chkSL g__law_feed sub0 b__law_feed (defScope s__law_feed) (ioF e__law_feed.io) (defBody s__law_feed) = true := by decide +kernel
theorem sc__law_feed : C8.scC N__law_feed P__law_feed (defScope s__law_feed) = true := by decide +kernel
def d__law_feed : He.DefD := ⟨("_law_feed", none), "_law_feed", "_law_feed", defArgs s__law_feed, defBody s__law_feed, defScope s__law_feed, [], []⟩
/-! ### _law_same -/
abbrev s__law_same : Stmt := top 24
def e__law_same : Fe := { name := "_law_same", io := [false, false], kws := [] }
def N__law_same : List Str := ["told", "due", "one", "other"]
def P__law_same : List Str := ["told", "due"]
def g__law_same : Gm := { N := N__law_same, fns := [e__law_same], cons := [] }
def b__law_same_0 : S := (.iff (.cmp .Is (.var 1) (.con .none)) (.cons (.ret (.cmp .Is (.var 0) (.con .none))) .nil) .nil)
def b__law_same_1 : S := (.iff (.e (.isa (.var 1) [.bool])) (.cons (.ret (.and (.cons (.isa (.var 0) [.bool]) (.one (.cmp .Eq (.var 0) (.var 1)))))) .nil) .nil)
def b__law_same_2 : S := (.iff (.e (.isa (.var 1) [.int])) (.cons (.ret (.and (.cons (.isa (.var 0) [.int]) (.cons (.not (.isa (.var 0) [.bool])) (.one (.cmp .Eq (.var 0) (.var 1))))))) .nil) .nil)
def b__law_same_3 : S := (.iff (.e (.isa (.var 1) [.str])) (.cons (.ret (.and (.cons (.isa (.var 0) [.str]) (.one (.cmp .Eq (.var 0) (.var 1)))))) .nil) .nil)
def b__law_same_4 : S := (.iff (.or (.cons (.cmp .NotEq (.isa (.var 1) [.list]) (.isa (.var 0) [.list])) (.cons (.not (.e (.isa (.var 0) [.list, .tuple]))) (.one (.cmp .NotEq (.bi .len (.cons (.var 0) .nil)) (.bi .len (.cons (.var 1) .nil))))))) (.cons (.ret (.con (.bool false))) .nil) .nil)
def b__law_same_5 : S := (.ret (.cmp .Eq (.fz (.comp [2, 3] (.tp [2, 3]) (.zip (.var 0) (.var 1)) (.t (.not (.e (.call 0 (.cons (.var 2) (.cons (.var 3) .nil)))))) (.con (.int 1)))) (.fz (.lst .nil))))
def b__law_same : SL := (.cons b__law_same_0 (.cons b__law_same_1 (.cons b__law_same_2 (.cons b__law_same_3 (.cons b__law_same_4 (.cons b__law_same_5 .nil))))))
def F__law_same : Nat → FS
  | 0 => fun _ => .no
  | k + 1 => runD [F__law_same k] sub0 g__law_same.N.length e__law_same.io b__law_same
theorem ck__law_same : chkSL g__law_same sub0 b__law_same (defScope s__law_same) (ioF e__law_same.io) (defBody s__law_same) = true := by decide +kernel
theorem sc__law_same : C8.scC N__law_same P__law_same (defScope s__law_same) = true := by decide +kernel
def d__law_same : He.DefD := ⟨("_law_same", none), "_law_same", "_law_same", defArgs s__law_same, defBody s__law_same, defScope s__law_same, [], []⟩
/-! ### _law_draw -/
abbrev s__law_draw : Stmt := top 22
def e__law_draw : Fe := { name := "_law_draw", io := [true, false], kws := [] }
def N__law_draw : List Str := ["feed", "many", "got", "stir"]
def P__law_draw : List Str := ["feed", "many"]
def g__law_draw : Gm := { N := N__law_draw, fns := [], cons := [] }
def b__law_draw_0 : S := (.iff (.cmp .Gt (.idxS 0 (.con (.int 0))) (.con (.int 0))) (.cons (.set 2 (.bin .Mod (.bi .int (.cons (.idxS 0 (.con (.int 0))) .nil)) (.var 1))) (.cons (.setI 0 (.con (.int 0)) (.bin .FloorDiv (.idxS 0 (.con (.int 0))) (.var 1))) (.cons (.ret (.var 2)) .nil))) .nil)
def b__law_draw_1 : S := (.setI 0 (.con (.int 2)) (.bin .Add (.idxS 0 (.con (.int 2))) (.con (.int 1))))
def b__law_draw_2 : S := (.set 3 (.bin .Add (.idxS 0 (.con (.int 1))) (.bin .Mult (.con (.int 86029057)) (.idxS 0 (.con (.int 2))))))
def b__law_draw_3 : S := (.set 3 (.bin .Mod (.bi .int (.cons (.bin .Add (.bin .Add (.bin .Mult (.bin .Mult (.var 3) (.var 3)) (.var 3)) (.bin .Mult (.con (.int 32453437)) (.idxS 0 (.con (.int 2))))) (.con (.int 313))) .nil)) (.bin .Add (.bin .Pow (.con (.int 10)) (.con (.int 41))) (.con (.int 81)))))
def b__law_draw_4 : S := (.set 3 (.bin .Mod (.bi .int (.cons (.bin .Add (.bin .Mult (.var 3) (.var 3)) (.con (.int 982451653))) .nil)) (.bin .Add (.bin .Pow (.con (.int 10)) (.con (.int 38))) (.con (.int 133)))))
def b__law_draw_5 : S := (.ret (.bin .Mod (.bi .int (.cons (.bin .FloorDiv (.var 3) (.bin .Pow (.con (.int 10)) (.con (.int 9)))) .nil)) (.var 1)))
def b__law_draw : SL := (.cons b__law_draw_0 (.cons b__law_draw_1 (.cons b__law_draw_2 (.cons b__law_draw_3 (.cons b__law_draw_4 (.cons b__law_draw_5 .nil))))))
def tb__law_draw : List FS := []
def F__law_draw : FS := runD tb__law_draw sub0 g__law_draw.N.length e__law_draw.io b__law_draw
theorem ck__law_draw : chkSL g__law_draw sub0 b__law_draw (defScope s__law_draw) (ioF e__law_draw.io) (defBody s__law_draw) = true := by decide +kernel
theorem sc__law_draw : C8.scC N__law_draw P__law_draw (defScope s__law_draw) = true := by decide +kernel
def d__law_draw : He.DefD := ⟨("_law_draw", none), "_law_draw", "_law_draw", defArgs s__law_draw, defBody s__law_draw, defScope s__law_draw, [], []⟩
/-! ### _law_figures -/
abbrev s__law_figures : Stmt := top 26
def e__law_figures : Fe := { name := "_law_figures", io := [false, false], kws := [] }
def N__law_figures : List Str := ["name", "bits", "line"]
def P__law_figures : List Str := ["name", "bits"]
def g__law_figures : Gm := { N := N__law_figures, fns := [], cons := [] }
def b__law_figures_0 : S := (.retF (.comp [2] (.nm 2) (.rng1 (.var 1)) .no (.bin .BitAnd (.bin .RShift (.var 0) (.var 2)) (.con (.int 1)))))
def b__law_figures : SL := (.cons b__law_figures_0 .nil)
def tb__law_figures : List FS := []
def F__law_figures : FS := runD tb__law_figures sub0 g__law_figures.N.length e__law_figures.io b__law_figures
theorem ck__law_figures : chkSL g__law_figures sub0 b__law_figures (defScope s__law_figures) (ioF e__law_figures.io) (defBody s__law_figures) = true := by decide +kernel
theorem sc__law_figures : C8.scC N__law_figures P__law_figures (defScope s__law_figures) = true := by decide +kernel
def d__law_figures : He.DefD := ⟨("_law_figures", none), "_law_figures", "_law_figures", defArgs s__law_figures, defBody s__law_figures, defScope s__law_figures, [], []⟩
/-! ### _law_led -/
abbrev s__law_led : Stmt := top 28
def e__law_led : Fe := { name := "_law_led", io := [false, false, false], kws := [] }
def N__law_led : List Str := ["names", "cells", "places", "cell", "name"]
def P__law_led : List Str := ["names", "cells", "places"]
def g__law_led : Gm := { N := N__law_led, fns := [], cons := [] }
def b__law_led_0 : S := (.ret (.tup (.cons (.var 0) (.cons (.bi .tuple (.cons (.fz (.comp [3] (.nm 3) (.rng1 (.var 1)) .no (.bi .tuple (.cons (.fz (.comp [4] (.nm 4) (.rng1 (.var 0)) (.t (.cmp .In (.var 3) (.idx (.var 2) (.var 4)))) (.var 4))) .nil)))) .nil)) .nil))))
def b__law_led : SL := (.cons b__law_led_0 .nil)
def tb__law_led : List FS := []
def F__law_led : FS := runD tb__law_led sub0 g__law_led.N.length e__law_led.io b__law_led
theorem ck__law_led : chkSL g__law_led sub0 b__law_led (defScope s__law_led) (ioF e__law_led.io) (defBody s__law_led) = true := by decide +kernel
theorem sc__law_led : C8.scC N__law_led P__law_led (defScope s__law_led) = true := by decide +kernel
def d__law_led : He.DefD := ⟨("_law_led", none), "_law_led", "_law_led", defArgs s__law_led, defBody s__law_led, defScope s__law_led, [], []⟩
/-! ### is_integer -/
abbrev s_is_integer : Stmt := top 6
def e_is_integer : Fe := { name := "is_integer", io := [false, false, false], kws := [] }
def N_is_integer : List Str := ["thing", "least", "most"]
def P_is_integer : List Str := ["thing", "least", "most"]
def g_is_integer : Gm := { N := N_is_integer, fns := [], cons := [] }
def b_is_integer_0 : S := (.ret (.and (.cons (.isa (.var 0) [.int]) (.cons (.not (.isa (.var 0) [.bool])) (.one (.chain .LtE .LtE (.var 1) (.var 0) (.var 2)))))))
def b_is_integer : SL := (.cons b_is_integer_0 .nil)
def tb_is_integer : List FS := []
def F_is_integer : FS := runD tb_is_integer sub0 g_is_integer.N.length e_is_integer.io b_is_integer
theorem ck_is_integer : chkSL g_is_integer sub0 b_is_integer (defScope s_is_integer) (ioF e_is_integer.io) (defBody s_is_integer) = true := by decide +kernel
theorem sc_is_integer : C8.scC N_is_integer P_is_integer (defScope s_is_integer) = true := by decide +kernel
def d_is_integer : He.DefD := ⟨("is_integer", none), "is_integer", "is_integer", defArgs s_is_integer, defBody s_is_integer, defScope s_is_integer, [], []⟩
/-! ### need_number -/
abbrev s_need_number : Stmt := top 7
def e_need_number : Fe := { name := "need_number", io := [false, false, false], kws := [] }
def N_need_number : List Str := ["thing", "least", "most"]
def P_need_number : List Str := ["thing", "least", "most"]
def g_need_number : Gm := { N := N_need_number, fns := [e_is_integer], cons := [] }
def b_need_number_0 : S := (.iff (.not (.e (.call 0 (.cons (.var 0) (.cons (.var 1) (.cons (.var 2) .nil)))))) (.cons .never .nil) .nil)
def b_need_number : SL := (.cons b_need_number_0 .nil)
def tb_need_number : List FS := [F_is_integer]
def F_need_number : FS := runD tb_need_number sub0 g_need_number.N.length e_need_number.io b_need_number
theorem ck_need_number : chkSL g_need_number sub0 b_need_number (defScope s_need_number) (ioF e_need_number.io) (defBody s_need_number) = true := by decide +kernel
theorem sc_need_number : C8.scC N_need_number P_need_number (defScope s_need_number) = true := by decide +kernel
def d_need_number : He.DefD := ⟨("need_number", none), "need_number", "need_number", defArgs s_need_number, defBody s_need_number, defScope s_need_number, [], []⟩
/-! ### led_by -/
abbrev s_led_by : Stmt := top 12
def e_led_by : Fe := { name := "led_by", io := [false, false, false], kws := [] }
def N_led_by : List Str := ["names", "cells", "places", "cell", "name"]
def P_led_by : List Str := ["names", "cells", "places"]
def g_led_by : Gm := { N := N_led_by, fns := [], cons := [] }
def b_led_by_0 : S := (.ret (.tup (.cons (.var 0) (.cons (.bi .tuple (.cons (.fz (.comp [3] (.nm 3) (.rng1 (.var 1)) .no (.bi .tuple (.cons (.fz (.comp [4] (.nm 4) (.rng1 (.var 0)) (.t (.cmp .In (.var 3) (.idx (.var 2) (.var 4)))) (.var 4))) .nil)))) .nil)) .nil))))
def b_led_by : SL := (.cons b_led_by_0 .nil)
def tb_led_by : List FS := []
def F_led_by : FS := runD tb_led_by sub0 g_led_by.N.length e_led_by.io b_led_by
theorem ck_led_by : chkSL g_led_by sub0 b_led_by (defScope s_led_by) (ioF e_led_by.io) (defBody s_led_by) = true := by decide +kernel
theorem sc_led_by : C8.scC N_led_by P_led_by (defScope s_led_by) = true := by decide +kernel
def d_led_by : He.DefD := ⟨("led_by", none), "led_by", "led_by", defArgs s_led_by, defBody s_led_by, defScope s_led_by, [], []⟩
/-! ### with_bit -/
abbrev s_with_bit : Stmt := top 13
def e_with_bit : Fe := { name := "with_bit", io := [false, false, false], kws := [] }
def N_with_bit : List Str := ["name", "line", "letter", "weight"]
def P_with_bit : List Str := ["name", "line", "letter"]
def g_with_bit : Gm := { N := N_with_bit, fns := [], cons := [] }
def b_with_bit_0 : S := (.set 3 (.idx (.fz (.lst (.cons (.con (.int 1)) (.cons (.con (.int 2)) (.cons (.con (.int 4)) .nil))))) (.var 1)))
def b_with_bit_1 : S := (.ret (.bin .Add (.bin .Sub (.var 0) (.bin .Mult (.bin .Mod (.bin .FloorDiv (.var 0) (.var 3)) (.con (.int 2))) (.var 3))) (.bin .Mult (.var 2) (.var 3))))
def b_with_bit : SL := (.cons b_with_bit_0 (.cons b_with_bit_1 .nil))
def tb_with_bit : List FS := []
def F_with_bit : FS := runD tb_with_bit sub0 g_with_bit.N.length e_with_bit.io b_with_bit
theorem ck_with_bit : chkSL g_with_bit sub0 b_with_bit (defScope s_with_bit) (ioF e_with_bit.io) (defBody s_with_bit) = true := by decide +kernel
theorem sc_with_bit : C8.scC N_with_bit P_with_bit (defScope s_with_bit) = true := by decide +kernel
def d_with_bit : He.DefD := ⟨("with_bit", none), "with_bit", "with_bit", defArgs s_with_bit, defBody s_with_bit, defScope s_with_bit, [], []⟩
/-! ### stuck_line -/
abbrev s_stuck_line : Stmt := top 14
def e_stuck_line : Fe := { name := "stuck_line", io := [false, false, false], kws := [(["letter", "line", "bits"], [2, 1, 0])] }
def N_stuck_line : List Str := ["bits", "line", "letter", "names", "name"]
def P_stuck_line : List Str := ["bits", "line", "letter"]
def g_stuck_line : Gm := { N := N_stuck_line, fns := [e_led_by, e_with_bit, e_need_number], cons := [] }
def b_stuck_line_0 : S := (.expr (.call 2 (.cons (.var 0) (.cons (.con (.int 1)) (.cons (.con (.int 3)) .nil)))))
def b_stuck_line_1 : S := (.expr (.call 2 (.cons (.var 1) (.cons (.con (.int 0)) (.cons (.bin .Sub (.var 0) (.con (.int 1))) .nil)))))
def b_stuck_line_2 : S := (.expr (.call 2 (.cons (.var 2) (.cons (.con (.int 0)) (.cons (.con (.int 1)) .nil)))))
def b_stuck_line_3 : S := (.set 3 (.idx (.fz (.lst (.cons (.con (.int 1)) (.cons (.con (.int 2)) (.cons (.con (.int 4)) (.cons (.con (.int 8)) .nil)))))) (.var 0)))
def b_stuck_line_4 : S := (.ret (.call 0 (.cons (.var 3) (.cons (.var 3) (.cons (.fz (.comp [4] (.nm 4) (.rng1 (.var 3)) .no (.fz (.lst (.cons (.call 1 (.cons (.var 4) (.cons (.var 1) (.cons (.var 2) .nil)))) .nil))))) .nil)))))
def b_stuck_line : SL := (.cons b_stuck_line_0 (.cons b_stuck_line_1 (.cons b_stuck_line_2 (.cons b_stuck_line_3 (.cons b_stuck_line_4 .nil)))))
def tb_stuck_line : List FS := [F_led_by, F_with_bit, F_need_number]
def F_stuck_line : FS := runD tb_stuck_line sub0 g_stuck_line.N.length e_stuck_line.io b_stuck_line
theorem ck_stuck_line : chkSL g_stuck_line sub0 b_stuck_line (defScope s_stuck_line) (ioF e_stuck_line.io) (defBody s_stuck_line) = true := by decide +kernel
theorem sc_stuck_line : C8.scC N_stuck_line P_stuck_line (defScope s_stuck_line) = true := by decide +kernel
def d_stuck_line : He.DefD := ⟨("stuck_line", none), "stuck_line", "stuck_line", defArgs s_stuck_line, defBody s_stuck_line, defScope s_stuck_line, [], []⟩
/-! ### joined_lines -/
abbrev s_joined_lines : Stmt := top 15
def e_joined_lines : Fe := { name := "joined_lines", io := [false, false, false, false], kws := [(["letter", "other", "line", "bits"], [3, 2, 1, 0])] }
def N_joined_lines : List Str := ["bits", "line", "other", "letter", "names", "places", "name", "both", "shown"]
def P_joined_lines : List Str := ["bits", "line", "other", "letter"]
def g_joined_lines : Gm := { N := N_joined_lines, fns := [e_led_by, e_with_bit, e_need_number], cons := [] }
def b_joined_lines_0 : S := (.expr (.call 2 (.cons (.var 0) (.cons (.con (.int 1)) (.cons (.con (.int 3)) .nil)))))
def b_joined_lines_1 : S := (.expr (.call 2 (.cons (.var 1) (.cons (.con (.int 0)) (.cons (.bin .Sub (.var 0) (.con (.int 1))) .nil)))))
def b_joined_lines_2 : S := (.expr (.call 2 (.cons (.var 2) (.cons (.con (.int 0)) (.cons (.bin .Sub (.var 0) (.con (.int 1))) .nil)))))
def b_joined_lines_3 : S := (.expr (.call 2 (.cons (.var 3) (.cons (.con (.int 0)) (.cons (.con (.int 1)) .nil)))))
def b_joined_lines_4 : S := (.par [4, 5] [.inl (.idx (.fz (.lst (.cons (.con (.int 1)) (.cons (.con (.int 2)) (.cons (.con (.int 4)) (.cons (.con (.int 8)) .nil)))))) (.var 0)), .inr (.lst .nil)])
def b_joined_lines_5 : S := (.for (.nm 6) (.rng1 (.var 4)) (.cons (.set 7 (.fz (.lst (.cons (.bin .Mod (.bin .FloorDiv (.var 6) (.idx (.fz (.lst (.cons (.con (.int 1)) (.cons (.con (.int 2)) (.cons (.con (.int 4)) .nil))))) (.var 1))) (.con (.int 2))) (.cons (.bin .Mod (.bin .FloorDiv (.var 6) (.idx (.fz (.lst (.cons (.con (.int 1)) (.cons (.con (.int 2)) (.cons (.con (.int 4)) .nil))))) (.var 2))) (.con (.int 2))) .nil))))) (.cons (.set 8 (.ite (.cmp .In (.var 3) (.var 7)) (.var 3) (.bin .Sub (.con (.int 1)) (.var 3)))) (.cons (.expr (.app 5 (.fz (.lst (.cons (.call 1 (.cons (.call 1 (.cons (.var 6) (.cons (.var 1) (.cons (.var 8) .nil)))) (.cons (.var 2) (.cons (.var 8) .nil)))) .nil))))) .nil))))
def b_joined_lines_6 : S := (.ret (.call 0 (.cons (.var 4) (.cons (.var 4) (.cons (.var 5) .nil)))))
def b_joined_lines : SL := (.cons b_joined_lines_0 (.cons b_joined_lines_1 (.cons b_joined_lines_2 (.cons b_joined_lines_3 (.cons b_joined_lines_4 (.cons b_joined_lines_5 (.cons b_joined_lines_6 .nil)))))))
def tb_joined_lines : List FS := [F_led_by, F_with_bit, F_need_number]
def F_joined_lines : FS := runD tb_joined_lines sub0 g_joined_lines.N.length e_joined_lines.io b_joined_lines
theorem ck_joined_lines : chkSL g_joined_lines sub0 b_joined_lines (defScope s_joined_lines) (ioF e_joined_lines.io) (defBody s_joined_lines) = true := by decide +kernel
theorem sc_joined_lines : C8.scC N_joined_lines P_joined_lines (defScope s_joined_lines) = true := by decide +kernel
def d_joined_lines : He.DefD := ⟨("joined_lines", none), "joined_lines", "joined_lines", defArgs s_joined_lines, defBody s_joined_lines, defScope s_joined_lines, [], []⟩
/-! ### drifting_line -/
abbrev s_drifting_line : Stmt := top 16
def e_drifting_line : Fe := { name := "drifting_line", io := [false, false], kws := [(["line", "bits"], [1, 0])] }
def N_drifting_line : List Str := ["bits", "line", "names", "name"]
def P_drifting_line : List Str := ["bits", "line"]
def g_drifting_line : Gm := { N := N_drifting_line, fns := [e_led_by, e_with_bit, e_need_number], cons := [] }
def b_drifting_line_0 : S := (.expr (.call 2 (.cons (.var 0) (.cons (.con (.int 1)) (.cons (.con (.int 3)) .nil)))))
def b_drifting_line_1 : S := (.expr (.call 2 (.cons (.var 1) (.cons (.con (.int 0)) (.cons (.bin .Sub (.var 0) (.con (.int 1))) .nil)))))
def b_drifting_line_2 : S := (.set 2 (.idx (.fz (.lst (.cons (.con (.int 1)) (.cons (.con (.int 2)) (.cons (.con (.int 4)) (.cons (.con (.int 8)) .nil)))))) (.var 0)))
def b_drifting_line_3 : S := (.ret (.call 0 (.cons (.var 2) (.cons (.var 2) (.cons (.fz (.comp [3] (.nm 3) (.rng1 (.var 2)) .no (.fz (.lst (.cons (.call 1 (.cons (.var 3) (.cons (.var 1) (.cons (.con (.int 0)) .nil)))) (.cons (.call 1 (.cons (.var 3) (.cons (.var 1) (.cons (.con (.int 1)) .nil)))) .nil)))))) .nil)))))
def b_drifting_line : SL := (.cons b_drifting_line_0 (.cons b_drifting_line_1 (.cons b_drifting_line_2 (.cons b_drifting_line_3 .nil))))
def tb_drifting_line : List FS := [F_led_by, F_with_bit, F_need_number]
def F_drifting_line : FS := runD tb_drifting_line sub0 g_drifting_line.N.length e_drifting_line.io b_drifting_line
theorem ck_drifting_line : chkSL g_drifting_line sub0 b_drifting_line (defScope s_drifting_line) (ioF e_drifting_line.io) (defBody s_drifting_line) = true := by decide +kernel
theorem sc_drifting_line : C8.scC N_drifting_line P_drifting_line (defScope s_drifting_line) = true := by decide +kernel
def d_drifting_line : He.DefD := ⟨("drifting_line", none), "drifting_line", "drifting_line", defArgs s_drifting_line, defBody s_drifting_line, defScope s_drifting_line, [], []⟩
/-! ### plain -/
abbrev s_plain : Stmt := top 11
def e_plain : Fe := { name := "plain", io := [false], kws := [(["names"], [0])] }
def N_plain : List Str := ["names", "name"]
def P_plain : List Str := ["names"]
def g_plain : Gm := { N := N_plain, fns := [e_need_number], cons := [("MOST_NAMES", (.int 8))] }
def b_plain_0 : S := (.expr (.call 0 (.cons (.var 0) (.cons (.con (.int 1)) (.cons (.glob "MOST_NAMES" (.int 8)) .nil)))))
def b_plain_1 : S := (.ret (.tup (.cons (.var 0) (.cons (.bi .tuple (.cons (.fz (.comp [1] (.nm 1) (.rng1 (.var 0)) .no (.tup (.cons (.var 1) .nil)))) .nil)) .nil))))
def b_plain : SL := (.cons b_plain_0 (.cons b_plain_1 .nil))
def tb_plain : List FS := [F_need_number]
def F_plain : FS := runD tb_plain sub0 g_plain.N.length e_plain.io b_plain
theorem ck_plain : chkSL g_plain sub0 b_plain (defScope s_plain) (ioF e_plain.io) (defBody s_plain) = true := by decide +kernel
theorem sc_plain : C8.scC N_plain P_plain (defScope s_plain) = true := by decide +kernel
def d_plain : He.DefD := ⟨("plain", none), "plain", "plain", defArgs s_plain, defBody s_plain, defScope s_plain, [], []⟩
/-! ### banks -/
abbrev s_banks : Stmt := top 17
def e_banks : Fe := { name := "banks", io := [false, false], kws := [(["size", "names"], [1, 0])] }
def N_banks : List Str := ["names", "size", "name"]
def P_banks : List Str := ["names", "size"]
def g_banks : Gm := { N := N_banks, fns := [e_led_by, e_need_number], cons := [("MOST_NAMES", (.int 8))] }
def b_banks_0 : S := (.expr (.call 1 (.cons (.var 0) (.cons (.con (.int 1)) (.cons (.glob "MOST_NAMES" (.int 8)) .nil)))))
def b_banks_1 : S := (.expr (.call 1 (.cons (.var 1) (.cons (.con (.int 1)) (.cons (.var 0) .nil)))))
def b_banks_2 : S := (.ret (.call 0 (.cons (.var 0) (.cons (.var 1) (.cons (.fz (.comp [2] (.nm 2) (.rng1 (.var 0)) .no (.fz (.lst (.cons (.bin .Mod (.var 2) (.var 1)) .nil))))) .nil)))))
def b_banks : SL := (.cons b_banks_0 (.cons b_banks_1 (.cons b_banks_2 .nil)))
def tb_banks : List FS := [F_led_by, F_need_number]
def F_banks : FS := runD tb_banks sub0 g_banks.N.length e_banks.io b_banks
theorem ck_banks : chkSL g_banks sub0 b_banks (defScope s_banks) (ioF e_banks.io) (defBody s_banks) = true := by decide +kernel
theorem sc_banks : C8.scC N_banks P_banks (defScope s_banks) = true := by decide +kernel
def d_banks : He.DefD := ⟨("banks", none), "banks", "banks", defArgs s_banks, defBody s_banks, defScope s_banks, [], []⟩
/-! ### _law_number -/
abbrev s__law_number : Stmt := top 27
def e__law_number : Fe := { name := "_law_number", io := [false], kws := [] }
def N__law_number : List Str := ["figures", "line", "figure"]
def P__law_number : List Str := ["figures"]
def g__law_number : Gm := { N := N__law_number, fns := [], cons := [] }
def b__law_number_0 : S := (.ret (.bi .sum (.cons (.fz (.comp [1, 2] (.tp [1, 2]) (.enum (.var 0)) .no (.bin .LShift (.var 2) (.var 1)))) .nil)))
def b__law_number : SL := (.cons b__law_number_0 .nil)
def tb__law_number : List FS := []
def F__law_number : FS := runD tb__law_number sub0 g__law_number.N.length e__law_number.io b__law_number
theorem ck__law_number : chkSL g__law_number sub0 b__law_number (defScope s__law_number) (ioF e__law_number.io) (defBody s__law_number) = true := by decide +kernel
theorem sc__law_number : C8.scC N__law_number P__law_number (defScope s__law_number) = true := by decide +kernel
def d__law_number : He.DefD := ⟨("_law_number", none), "_law_number", "_law_number", defArgs s__law_number, defBody s__law_number, defScope s__law_number, [], []⟩
/-! ### _law_put -/
abbrev s__law_put : Stmt := top 29
def e__law_put : Fe := { name := "_law_put", io := [false, false, false], kws := [] }
def N__law_put : List Str := ["figures", "line", "letter"]
def P__law_put : List Str := ["figures", "line", "letter"]
def g__law_put : Gm := { N := N__law_put, fns := [], cons := [] }
def b__law_put_0 : S := (.retF (.cat (.bin .Add (.slc (.var 0) .no (.e (.var 1))) (.fz (.lst (.cons (.var 2) .nil)))) (.slc (.var 0) (.e (.bin .Add (.var 1) (.con (.int 1)))) .no)))
def b__law_put : SL := (.cons b__law_put_0 .nil)
def tb__law_put : List FS := []
def F__law_put : FS := runD tb__law_put sub0 g__law_put.N.length e__law_put.io b__law_put
theorem ck__law_put : chkSL g__law_put sub0 b__law_put (defScope s__law_put) (ioF e__law_put.io) (defBody s__law_put) = true := by decide +kernel
theorem sc__law_put : C8.scC N__law_put P__law_put (defScope s__law_put) = true := by decide +kernel
def d__law_put : He.DefD := ⟨("_law_put", none), "_law_put", "_law_put", defArgs s__law_put, defBody s__law_put, defScope s__law_put, [], []⟩
/-! ### is_lot_form -/
abbrev s_is_lot_form : Stmt := top 8
def e_is_lot_form : Fe := { name := "is_lot_form", io := [false, false], kws := [] }
def N_is_lot_form : List Str := ["names", "thing", "one", "other"]
def P_is_lot_form : List Str := ["names", "thing"]
def g_is_lot_form : Gm := { N := N_is_lot_form, fns := [e_is_integer], cons := [] }
def b_is_lot_form_0 : S := (.iff (.or (.cons (.not (.e (.isa (.var 1) [.tuple]))) (.one (.not (.e (.bi .all (.cons (.fz (.comp [2] (.nm 2) (.val (.var 1)) .no (.call 0 (.cons (.var 2) (.cons (.con (.int 0)) (.cons (.bin .Sub (.var 0) (.con (.int 1))) .nil)))))) .nil))))))) (.cons (.ret (.con (.bool false))) .nil) .nil)
def b_is_lot_form_1 : S := (.ret (.bi .all (.cons (.fz (.comp [2, 3] (.tp [2, 3]) (.zip (.var 1) (.slc (.var 1) (.e (.con (.int 1))) .no)) .no (.cmp .Lt (.var 2) (.var 3)))) .nil)))
def b_is_lot_form : SL := (.cons b_is_lot_form_0 (.cons b_is_lot_form_1 .nil))
def tb_is_lot_form : List FS := [F_is_integer]
def F_is_lot_form : FS := runD tb_is_lot_form sub0 g_is_lot_form.N.length e_is_lot_form.io b_is_lot_form
theorem ck_is_lot_form : chkSL g_is_lot_form sub0 b_is_lot_form (defScope s_is_lot_form) (ioF e_is_lot_form.io) (defBody s_is_lot_form) = true := by decide +kernel
theorem sc_is_lot_form : C8.scC N_is_lot_form P_is_lot_form (defScope s_is_lot_form) = true := by decide +kernel
def d_is_lot_form : He.DefD := ⟨("is_lot_form", none), "is_lot_form", "is_lot_form", defArgs s_is_lot_form, defBody s_is_lot_form, defScope s_is_lot_form, [], []⟩
/-! ### is_wiring_form -/
abbrev s_is_wiring_form : Stmt := top 9
def e_is_wiring_form : Fe := { name := "is_wiring_form", io := [false], kws := [] }
def N_is_wiring_form : List Str := ["thing", "names", "cells", "cell", "name"]
def P_is_wiring_form : List Str := ["thing"]
def g_is_wiring_form : Gm := { N := N_is_wiring_form, fns := [e_is_lot_form, e_is_integer], cons := [("MOST_NAMES", (.int 8)), ("MOST_SPARE", (.int 8))] }
def b_is_wiring_form_0 : S := (.iff (.or (.cons (.not (.e (.isa (.var 0) [.tuple]))) (.cons (.cmp .NotEq (.bi .len (.cons (.var 0) .nil)) (.con (.int 2))) (.one (.not (.e (.call 1 (.cons (.idx (.var 0) (.con (.int 0))) (.cons (.con (.int 1)) (.cons (.glob "MOST_NAMES" (.int 8)) .nil)))))))))) (.cons (.ret (.con (.bool false))) .nil) .nil)
def b_is_wiring_form_1 : S := (.unp (.tp [1, 2]) (.var 0))
def b_is_wiring_form_2 : S := (.iff (.or (.cons (.not (.e (.isa (.var 2) [.tuple]))) (.one (.cmp .Gt (.bi .len (.cons (.var 2) .nil)) (.bin .Add (.glob "MOST_NAMES" (.int 8)) (.glob "MOST_SPARE" (.int 8))))))) (.cons (.ret (.con (.bool false))) .nil) .nil)
def b_is_wiring_form_3 : S := (.iff (.not (.e (.bi .all (.cons (.fz (.comp [3] (.nm 3) (.val (.var 2)) .no (.call 0 (.cons (.var 1) (.cons (.var 3) .nil))))) .nil)))) (.cons (.ret (.con (.bool false))) .nil) .nil)
def b_is_wiring_form_4 : S := (.ret (.bi .all (.cons (.fz (.comp [4] (.nm 4) (.rng1 (.var 1)) .no (.bi .any (.cons (.fz (.comp [3] (.nm 3) (.val (.var 2)) .no (.cmp .In (.var 4) (.var 3)))) .nil)))) .nil)))
def b_is_wiring_form : SL := (.cons b_is_wiring_form_0 (.cons b_is_wiring_form_1 (.cons b_is_wiring_form_2 (.cons b_is_wiring_form_3 (.cons b_is_wiring_form_4 .nil)))))
def tb_is_wiring_form : List FS := [F_is_lot_form, F_is_integer]
def F_is_wiring_form : FS := runD tb_is_wiring_form sub0 g_is_wiring_form.N.length e_is_wiring_form.io b_is_wiring_form
theorem ck_is_wiring_form : chkSL g_is_wiring_form sub0 b_is_wiring_form (defScope s_is_wiring_form) (ioF e_is_wiring_form.io) (defBody s_is_wiring_form) = true := by decide +kernel
theorem sc_is_wiring_form : C8.scC N_is_wiring_form P_is_wiring_form (defScope s_is_wiring_form) = true := by decide +kernel
def d_is_wiring_form : He.DefD := ⟨("is_wiring_form", none), "is_wiring_form", "is_wiring_form", defArgs s_is_wiring_form, defBody s_is_wiring_form, defScope s_is_wiring_form, [], []⟩
/-! ### is_wiring -/
abbrev s_is_wiring : Stmt := top 19
def e_is_wiring : Fe := { name := "is_wiring", io := [false], kws := [] }
def N_is_wiring : List Str := ["thing"]
def P_is_wiring : List Str := ["thing"]
def g_is_wiring : Gm := { N := N_is_wiring, fns := [e_is_wiring_form], cons := [] }
def b_is_wiring_0 : S := (.ret (.call 0 (.cons (.var 0) .nil)))
def b_is_wiring : SL := (.cons b_is_wiring_0 .nil)
def tb_is_wiring : List FS := [F_is_wiring_form]
def F_is_wiring : FS := runD tb_is_wiring sub0 g_is_wiring.N.length e_is_wiring.io b_is_wiring
theorem ck_is_wiring : chkSL g_is_wiring sub0 b_is_wiring (defScope s_is_wiring) (ioF e_is_wiring.io) (defBody s_is_wiring) = true := by decide +kernel
theorem sc_is_wiring : C8.scC N_is_wiring P_is_wiring (defScope s_is_wiring) = true := by decide +kernel
def d_is_wiring : He.DefD := ⟨("is_wiring", none), "is_wiring", "is_wiring", defArgs s_is_wiring, defBody s_is_wiring, defScope s_is_wiring, [], []⟩
/-! ### _law_right -/
abbrev s__law_right : Stmt := top 30
def e__law_right : Fe := { name := "_law_right", io := [true, false], kws := [] }
def N__law_right : List Str := ["feed", "bits", "names", "line", "other", "letter", "rows", "stuck", "drift", "joined", "row", "shown", "due", "told", "again", "here", "there", "many", "size", "rests", "own", "name", "one", "two"]
def P__law_right : List Str := ["feed", "bits"]
def g__law_right : Gm := { N := N__law_right, fns := [e__law_same, e__law_led, e_banks, e_plain, e__law_draw, e_joined_lines, e_stuck_line, e_is_wiring, e_drifting_line, e__law_number, e__law_put, e__law_figures], cons := [] }
def b__law_right_0 : S := (.unp (.tp [2, 3, 4, 5]) (.tup (.cons (.bin .LShift (.con (.int 1)) (.var 1)) (.cons (.call 4 (.io 0 (.cons (.var 1) .nil))) (.cons (.call 4 (.io 0 (.cons (.var 1) .nil))) (.cons (.call 4 (.io 0 (.cons (.con (.int 2)) .nil))) .nil))))))
def b__law_right_1 : S := (.setZ 6 (.comp [21] (.nm 21) (.rng1 (.var 2)) .no (.call 11 (.cons (.var 21) (.cons (.var 1) .nil)))))
def b__law_right_2 : S := (.setZ 7 (.comp [10] (.nm 10) (.val (.var 6)) .no (.fz (.lst (.cons (.call 9 (.cons (.call 10 (.cons (.var 10) (.cons (.var 3) (.cons (.var 5) .nil)))) .nil)) .nil)))))
def b__law_right_3 : S := (.setZ 8 (.comp [10] (.nm 10) (.val (.var 6)) .no (.fz (.lst (.cons (.call 9 (.cons (.call 10 (.cons (.var 10) (.cons (.var 3) (.cons (.con (.int 0)) .nil)))) .nil)) (.cons (.call 9 (.cons (.call 10 (.cons (.var 10) (.cons (.var 3) (.cons (.con (.int 1)) .nil)))) .nil)) .nil))))))
def b__law_right_4 : S := (.setF 9 (.lst .nil))
def b__law_right_5 : S := (.for (.nm 10) (.val (.var 6)) (.cons (.set 11 (.ite (.cmp .In (.var 5) (.tup (.cons (.idx (.var 10) (.var 3)) (.cons (.idx (.var 10) (.var 4)) .nil)))) (.var 5) (.bin .Sub (.con (.int 1)) (.var 5)))) (.cons (.expr (.app 9 (.fz (.lst (.cons (.call 9 (.cons (.call 10 (.cons (.call 10 (.cons (.var 10) (.cons (.var 3) (.cons (.var 11) .nil)))) (.cons (.var 4) (.cons (.var 11) .nil)))) .nil)) .nil))))) .nil)))
def b__law_right_6 : S := (.set 12 (.fz (.lst (.cons (.call 1 (.cons (.var 2) (.cons (.var 2) (.cons (.var 7) .nil)))) (.cons (.call 1 (.cons (.var 2) (.cons (.var 2) (.cons (.var 9) .nil)))) (.cons (.call 1 (.cons (.var 2) (.cons (.var 2) (.cons (.var 8) .nil)))) .nil))))))
def b__law_right_7 : S := (.set 13 (.fz (.lst (.cons (.call 6 (.cons (.var 1) (.cons (.var 3) (.cons (.var 5) .nil)))) (.cons (.call 5 (.cons (.var 1) (.cons (.var 3) (.cons (.var 4) (.cons (.var 5) .nil))))) (.cons (.call 8 (.cons (.var 1) (.cons (.var 3) .nil))) .nil))))))
def b__law_right_8 : S := (.set 14 (.fz (.lst (.cons (.callK 6 ["letter", "line", "bits"] [2, 1, 0] (.cons (.var 5) (.cons (.var 3) (.cons (.var 1) .nil)))) (.cons (.callK 5 ["letter", "other", "line", "bits"] [3, 2, 1, 0] (.cons (.var 5) (.cons (.var 4) (.cons (.var 3) (.cons (.var 1) .nil))))) (.cons (.callK 8 ["line", "bits"] [1, 0] (.cons (.var 3) (.cons (.var 1) .nil))) .nil))))))
def b__law_right_9 : S := (.iff (.or (.cons (.not (.e (.call 0 (.cons (.fz (.lst (.cons (.var 13) (.cons (.var 14) (.cons (.call 5 (.cons (.var 1) (.cons (.var 4) (.cons (.var 3) (.cons (.var 5) .nil))))) .nil))))) (.cons (.fz (.lst (.cons (.var 12) (.cons (.var 12) (.cons (.idx (.var 12) (.con (.int 1))) .nil))))) .nil))))) (.one (.cmp .NotEq (.fz (.comp [22] (.nm 22) (.val (.var 13)) (.t (.cmp .IsNot (.call 7 (.cons (.var 22) .nil)) (.con (.bool true)))) (.con (.int 1)))) (.fz (.lst .nil)))))) (.cons (.ret (.con (.bool false))) .nil) .nil)
def b__law_right_10 : S := (.par [15, 16] [.inl (.call 6 (.cons (.var 1) (.cons (.var 3) (.cons (.con (.int 0)) .nil)))), .inl (.call 6 (.cons (.var 1) (.cons (.var 3) (.cons (.con (.int 1)) .nil))))])
def b__law_right_11 : S := (.iff (.or (.cons (.cmp .NotEq (.fz (.comp [22, 23] (.tp [22, 23]) (.zip (.idx (.var 15) (.con (.int 1))) (.idx (.var 16) (.con (.int 1)))) (.t (.cmp .Eq (.cmp .Eq (.var 22) (.tup .nil)) (.cmp .Eq (.var 23) (.tup .nil)))) (.con (.int 1)))) (.fz (.lst .nil))) (.one (.not (.e (.call 0 (.cons (.call 5 (.cons (.var 1) (.cons (.var 3) (.cons (.var 3) (.cons (.var 5) .nil))))) (.cons (.call 3 (.cons (.var 2) .nil)) .nil)))))))) (.cons (.ret (.con (.bool false))) .nil) .nil)
def b__law_right_12 : S := (.set 17 (.bin .Add (.con (.int 1)) (.call 4 (.io 0 (.cons (.con (.int 8)) .nil)))))
def b__law_right_13 : S := (.set 18 (.bin .Add (.con (.int 1)) (.call 4 (.io 0 (.cons (.var 17) .nil)))))
def b__law_right_14 : S := (.setZ 19 (.comp [21] (.nm 21) (.rng1 (.var 17)) .no (.fz (.lst (.cons (.bin .Mod (.bi .int (.cons (.var 21) .nil)) (.var 18)) .nil)))))
def b__law_right_15 : S := (.set 13 (.fz (.lst (.cons (.call 3 (.cons (.var 17) .nil)) (.cons (.callK 3 ["names"] [0] (.cons (.var 17) .nil)) (.cons (.call 2 (.cons (.var 17) (.cons (.var 18) .nil))) (.cons (.callK 2 ["size", "names"] [1, 0] (.cons (.var 18) (.cons (.var 17) .nil))) (.cons (.call 2 (.cons (.var 17) (.cons (.var 17) .nil))) (.cons (.call 2 (.cons (.var 17) (.cons (.con (.int 1)) .nil))) .nil)))))))))
def b__law_right_16 : S := (.set 20 (.tup (.cons (.var 17) (.cons (.bi .tuple (.cons (.fz (.comp [21] (.nm 21) (.rng1 (.var 17)) .no (.tup (.cons (.var 21) .nil)))) .nil)) .nil))))
def b__law_right_17 : S := (.ret (.call 0 (.cons (.var 13) (.cons (.fz (.lst (.cons (.var 20) (.cons (.var 20) (.cons (.call 1 (.cons (.var 17) (.cons (.var 18) (.cons (.var 19) .nil)))) (.cons (.call 1 (.cons (.var 17) (.cons (.var 18) (.cons (.var 19) .nil)))) (.cons (.var 20) (.cons (.tup (.cons (.var 17) (.cons (.tup (.cons (.tupR (.one (.var 17))) .nil)) .nil))) .nil)))))))) .nil))))
def b__law_right : SL := (.cons b__law_right_0 (.cons b__law_right_1 (.cons b__law_right_2 (.cons b__law_right_3 (.cons b__law_right_4 (.cons b__law_right_5 (.cons b__law_right_6 (.cons b__law_right_7 (.cons b__law_right_8 (.cons b__law_right_9 (.cons b__law_right_10 (.cons b__law_right_11 (.cons b__law_right_12 (.cons b__law_right_13 (.cons b__law_right_14 (.cons b__law_right_15 (.cons b__law_right_16 (.cons b__law_right_17 .nil))))))))))))))))))
def tb__law_right : List FS := [F__law_same 12, F__law_led, F_banks, F_plain, F__law_draw, F_joined_lines, F_stuck_line, F_is_wiring, F_drifting_line, F__law_number, F__law_put, F__law_figures]
def F__law_right : FS := runD tb__law_right sub0 g__law_right.N.length e__law_right.io b__law_right
theorem ck__law_right : chkSL g__law_right sub0 b__law_right (defScope s__law_right) (ioF e__law_right.io) (defBody s__law_right) = true := by decide +kernel
theorem sc__law_right : C8.scC N__law_right P__law_right (defScope s__law_right) = true := by decide +kernel
def d__law_right : He.DefD := ⟨("_law_right", none), "_law_right", "_law_right", defArgs s__law_right, defBody s__law_right, defScope s__law_right, [], []⟩
/-! ### law -/
abbrev s_law : Stmt := top 31
def e_law : Fe := { name := "law", io := [true], kws := [] }
def N_law : List Str := ["script", "k", "feed", "bits"]
def P_law : List Str := ["script"]
def g_law : Gm := { N := N_law, fns := [e__law_right, e__law_feed], cons := [] }
def b_law_0 : S := (.for (.nm 1) (.rng1 (.bi .max2 (.cons (.con (.int 1)) (.cons (.bi .min2 (.cons (.lenX 0) (.cons (.con (.int 3)) .nil))) .nil)))) (.cons (.setF 2 (.call 1 (.io 0 (.cons (.var 1) .nil)))) (.cons (.for (.nm 3) (.val (.tup (.cons (.con (.int 1)) (.cons (.con (.int 2)) (.cons (.con (.int 3)) .nil))))) (.cons (.iff (.or (.cons (.not (.e (.call 0 (.io 2 (.cons (.var 3) .nil))))) (.one (.not (.e (.call 0 (.io 2 (.cons (.var 3) .nil)))))))) (.cons (.ret (.con (.bool false))) .nil) .nil) .nil)) .nil)))
def b_law_1 : S := (.ret (.con (.bool true)))
def b_law : SL := (.cons b_law_0 (.cons b_law_1 .nil))
def tb_law : List FS := [F__law_right, F__law_feed]
def F_law : FS := runD tb_law sub0 g_law.N.length e_law.io b_law
theorem ck_law : chkSL g_law sub0 b_law (defScope s_law) (ioF e_law.io) (defBody s_law) = true := by decide +kernel
theorem sc_law : C8.scC N_law P_law (defScope s_law) = true := by decide +kernel
def d_law : He.DefD := ⟨("law", none), "law", "law", defArgs s_law, defBody s_law, defScope s_law, [], []⟩
/-! ### the head -/
def dfs : List He.DefD := [d__law_feed, d__law_same, d__law_draw, d__law_figures, d__law_led, d_is_integer, d_need_number, d_led_by, d_with_bit, d_stuck_line, d_joined_lines, d_drifting_line, d_plain, d_banks, d__law_number, d__law_put, d_is_lot_form, d_is_wiring_form, d_is_wiring, d__law_right, d_law]
def fas : List He.Fa := bnames.map He.Fa.free ++ [.glo "_law_feed", .glo "_law_same", .glo "_law_draw", .glo "_law_figures", .glo "_law_led", .glo "is_integer", .glo "need_number", .glo "led_by", .glo "with_bit", .glo "stuck_line", .glo "joined_lines", .glo "drifting_line", .glo "plain", .glo "banks", .glo "_law_number", .glo "_law_put", .glo "is_lot_form", .glo "is_wiring_form", .glo "is_wiring", .glo "_law_right", .glo "law", .int "MOST_NAMES" 8, .int "MOST_SPARE" 8]
section
variable {P : Program} {w : World} {K : PySem.W.Frag} {mg : Str → Option Value} {base h : Heap}
theorem at__law_feed (X : K.In h) (G : h.Ns mainGlobals mg) (c : He.SaysD fas dfs K) : AtFn P w K mg base 1 e__law_feed F__law_feed := by
  obtain ⟨fd, F⟩ := c.def_ 0 (d := d__law_feed) rfl
  exact at_fn (e := e__law_feed) (k := 0) (M := ⟨blt_of X G c rfl, con_nil, fns_nil, so_none⟩) F (He.glo_ok X G (c.fact 16 (f := .glo "_law_feed") rfl)) P__law_feed sc__law_feed rfl ck__law_feed (fun _ _ _ _ _ _ us hl => match us, hl with | [_, _], _ => rfl) all_nil
theorem at__law_same (X : K.In h) (G : h.Ns mainGlobals mg) (c : He.SaysD fas dfs K) : ∀ k, AtFn P w K mg base (0 + k) e__law_same (F__law_same k)
  | 0 => by
    obtain ⟨fd, F⟩ := c.def_ 1 (d := d__law_same) rfl
    exact ⟨_, fd, P__law_same, 0, He.glo_ok X G (c.fact 17 (f := .glo "_law_same") rfl), F.kp, fn_no rfl, by omega, FunD.bindsN F (fun _ _ _ _ _ _ us hl => match us, hl with | [_, _], _ => rfl), rfl, all_nil⟩
  | k + 1 => by
    obtain ⟨fd, F⟩ := c.def_ 1 (d := d__law_same) rfl
    have ih := at__law_same X G c k
    exact (at_fn (e := e__law_same) (k := 0 + k) (M := ⟨blt_of X G c rfl, con_nil, (fns_cons (ih.mono (by omega)) fns_nil), so_none⟩) F (He.glo_ok X G (c.fact 17 (f := .glo "_law_same") rfl)) P__law_same sc__law_same rfl ck__law_same (fun _ _ _ _ _ _ us hl => match us, hl with | [_, _], _ => rfl) all_nil)
theorem at__law_draw (X : K.In h) (G : h.Ns mainGlobals mg) (c : He.SaysD fas dfs K) : AtFn P w K mg base 1 e__law_draw F__law_draw := by
  obtain ⟨fd, F⟩ := c.def_ 2 (d := d__law_draw) rfl
  exact at_fn (e := e__law_draw) (k := 0) (M := ⟨blt_of X G c rfl, con_nil, fns_nil, so_none⟩) F (He.glo_ok X G (c.fact 18 (f := .glo "_law_draw") rfl)) P__law_draw sc__law_draw rfl ck__law_draw (fun _ _ _ _ _ _ us hl => match us, hl with | [_, _], _ => rfl) all_nil
theorem at__law_figures (X : K.In h) (G : h.Ns mainGlobals mg) (c : He.SaysD fas dfs K) : AtFn P w K mg base 1 e__law_figures F__law_figures := by
  obtain ⟨fd, F⟩ := c.def_ 3 (d := d__law_figures) rfl
  exact at_fn (e := e__law_figures) (k := 0) (M := ⟨blt_of X G c rfl, con_nil, fns_nil, so_none⟩) F (He.glo_ok X G (c.fact 19 (f := .glo "_law_figures") rfl)) P__law_figures sc__law_figures rfl ck__law_figures (fun _ _ _ _ _ _ us hl => match us, hl with | [_, _], _ => rfl) all_nil
theorem at__law_led (X : K.In h) (G : h.Ns mainGlobals mg) (c : He.SaysD fas dfs K) : AtFn P w K mg base 1 e__law_led F__law_led := by
  obtain ⟨fd, F⟩ := c.def_ 4 (d := d__law_led) rfl
  exact at_fn (e := e__law_led) (k := 0) (M := ⟨blt_of X G c rfl, con_nil, fns_nil, so_none⟩) F (He.glo_ok X G (c.fact 20 (f := .glo "_law_led") rfl)) P__law_led sc__law_led rfl ck__law_led (fun _ _ _ _ _ _ us hl => match us, hl with | [_, _, _], _ => rfl) all_nil
theorem at_is_integer (X : K.In h) (G : h.Ns mainGlobals mg) (c : He.SaysD fas dfs K) : AtFn P w K mg base 1 e_is_integer F_is_integer := by
  obtain ⟨fd, F⟩ := c.def_ 5 (d := d_is_integer) rfl
  exact at_fn (e := e_is_integer) (k := 0) (M := ⟨blt_of X G c rfl, con_nil, fns_nil, so_none⟩) F (He.glo_ok X G (c.fact 21 (f := .glo "is_integer") rfl)) P_is_integer sc_is_integer rfl ck_is_integer (fun _ _ _ _ _ _ us hl => match us, hl with | [_, _, _], _ => rfl) all_nil
theorem at_need_number (X : K.In h) (G : h.Ns mainGlobals mg) (c : He.SaysD fas dfs K) : AtFn P w K mg base 2 e_need_number F_need_number := by
  obtain ⟨fd, F⟩ := c.def_ 6 (d := d_need_number) rfl
  exact at_fn (e := e_need_number) (k := 1) (M := ⟨blt_of X G c rfl, con_nil, (fns_cons ((at_is_integer X G c (P := P) (w := w) (base := base)).mono (by decide)) fns_nil), so_none⟩) F (He.glo_ok X G (c.fact 22 (f := .glo "need_number") rfl)) P_need_number sc_need_number rfl ck_need_number (fun _ _ _ _ _ _ us hl => match us, hl with | [_, _, _], _ => rfl) all_nil
theorem at_led_by (X : K.In h) (G : h.Ns mainGlobals mg) (c : He.SaysD fas dfs K) : AtFn P w K mg base 1 e_led_by F_led_by := by
  obtain ⟨fd, F⟩ := c.def_ 7 (d := d_led_by) rfl
  exact at_fn (e := e_led_by) (k := 0) (M := ⟨blt_of X G c rfl, con_nil, fns_nil, so_none⟩) F (He.glo_ok X G (c.fact 23 (f := .glo "led_by") rfl)) P_led_by sc_led_by rfl ck_led_by (fun _ _ _ _ _ _ us hl => match us, hl with | [_, _, _], _ => rfl) all_nil
theorem at_with_bit (X : K.In h) (G : h.Ns mainGlobals mg) (c : He.SaysD fas dfs K) : AtFn P w K mg base 1 e_with_bit F_with_bit := by
  obtain ⟨fd, F⟩ := c.def_ 8 (d := d_with_bit) rfl
  exact at_fn (e := e_with_bit) (k := 0) (M := ⟨blt_of X G c rfl, con_nil, fns_nil, so_none⟩) F (He.glo_ok X G (c.fact 24 (f := .glo "with_bit") rfl)) P_with_bit sc_with_bit rfl ck_with_bit (fun _ _ _ _ _ _ us hl => match us, hl with | [_, _, _], _ => rfl) all_nil
theorem at_stuck_line (X : K.In h) (G : h.Ns mainGlobals mg) (c : He.SaysD fas dfs K) : AtFn P w K mg base 3 e_stuck_line F_stuck_line := by
  obtain ⟨fd, F⟩ := c.def_ 9 (d := d_stuck_line) rfl
  exact at_fn (e := e_stuck_line) (k := 2) (M := ⟨blt_of X G c rfl, con_nil, (fns_cons ((at_led_by X G c (P := P) (w := w) (base := base)).mono (by decide)) (fns_cons ((at_with_bit X G c (P := P) (w := w) (base := base)).mono (by decide)) (fns_cons ((at_need_number X G c (P := P) (w := w) (base := base)).mono (by decide)) fns_nil))), so_none⟩) F (He.glo_ok X G (c.fact 25 (f := .glo "stuck_line") rfl)) P_stuck_line sc_stuck_line rfl ck_stuck_line (fun _ _ _ _ _ _ us hl => match us, hl with | [_, _, _], _ => rfl) (all_cons ⟨rfl, fun _ _ _ _ _ _ us hl => match us, hl with | [_, _, _], _ => rfl⟩ all_nil)
theorem at_joined_lines (X : K.In h) (G : h.Ns mainGlobals mg) (c : He.SaysD fas dfs K) : AtFn P w K mg base 3 e_joined_lines F_joined_lines := by
  obtain ⟨fd, F⟩ := c.def_ 10 (d := d_joined_lines) rfl
  exact at_fn (e := e_joined_lines) (k := 2) (M := ⟨blt_of X G c rfl, con_nil, (fns_cons ((at_led_by X G c (P := P) (w := w) (base := base)).mono (by decide)) (fns_cons ((at_with_bit X G c (P := P) (w := w) (base := base)).mono (by decide)) (fns_cons ((at_need_number X G c (P := P) (w := w) (base := base)).mono (by decide)) fns_nil))), so_none⟩) F (He.glo_ok X G (c.fact 26 (f := .glo "joined_lines") rfl)) P_joined_lines sc_joined_lines rfl ck_joined_lines (fun _ _ _ _ _ _ us hl => match us, hl with | [_, _, _, _], _ => rfl) (all_cons ⟨rfl, fun _ _ _ _ _ _ us hl => match us, hl with | [_, _, _, _], _ => rfl⟩ all_nil)
theorem at_drifting_line (X : K.In h) (G : h.Ns mainGlobals mg) (c : He.SaysD fas dfs K) : AtFn P w K mg base 3 e_drifting_line F_drifting_line := by
  obtain ⟨fd, F⟩ := c.def_ 11 (d := d_drifting_line) rfl
  exact at_fn (e := e_drifting_line) (k := 2) (M := ⟨blt_of X G c rfl, con_nil, (fns_cons ((at_led_by X G c (P := P) (w := w) (base := base)).mono (by decide)) (fns_cons ((at_with_bit X G c (P := P) (w := w) (base := base)).mono (by decide)) (fns_cons ((at_need_number X G c (P := P) (w := w) (base := base)).mono (by decide)) fns_nil))), so_none⟩) F (He.glo_ok X G (c.fact 27 (f := .glo "drifting_line") rfl)) P_drifting_line sc_drifting_line rfl ck_drifting_line (fun _ _ _ _ _ _ us hl => match us, hl with | [_, _], _ => rfl) (all_cons ⟨rfl, fun _ _ _ _ _ _ us hl => match us, hl with | [_, _], _ => rfl⟩ all_nil)
theorem at_plain (X : K.In h) (G : h.Ns mainGlobals mg) (c : He.SaysD fas dfs K) : AtFn P w K mg base 3 e_plain F_plain := by
  obtain ⟨fd, F⟩ := c.def_ 12 (d := d_plain) rfl
  exact at_fn (e := e_plain) (k := 2) (M := ⟨blt_of X G c rfl, (con_cons (con_int X G c 37 rfl) con_nil), (fns_cons ((at_need_number X G c (P := P) (w := w) (base := base)).mono (by decide)) fns_nil), so_none⟩) F (He.glo_ok X G (c.fact 28 (f := .glo "plain") rfl)) P_plain sc_plain rfl ck_plain (fun _ _ _ _ _ _ us hl => match us, hl with | [_], _ => rfl) (all_cons ⟨rfl, fun _ _ _ _ _ _ us hl => match us, hl with | [_], _ => rfl⟩ all_nil)
theorem at_banks (X : K.In h) (G : h.Ns mainGlobals mg) (c : He.SaysD fas dfs K) : AtFn P w K mg base 3 e_banks F_banks := by
  obtain ⟨fd, F⟩ := c.def_ 13 (d := d_banks) rfl
  exact at_fn (e := e_banks) (k := 2) (M := ⟨blt_of X G c rfl, (con_cons (con_int X G c 37 rfl) con_nil), (fns_cons ((at_led_by X G c (P := P) (w := w) (base := base)).mono (by decide)) (fns_cons ((at_need_number X G c (P := P) (w := w) (base := base)).mono (by decide)) fns_nil)), so_none⟩) F (He.glo_ok X G (c.fact 29 (f := .glo "banks") rfl)) P_banks sc_banks rfl ck_banks (fun _ _ _ _ _ _ us hl => match us, hl with | [_, _], _ => rfl) (all_cons ⟨rfl, fun _ _ _ _ _ _ us hl => match us, hl with | [_, _], _ => rfl⟩ all_nil)
theorem at__law_number (X : K.In h) (G : h.Ns mainGlobals mg) (c : He.SaysD fas dfs K) : AtFn P w K mg base 1 e__law_number F__law_number := by
  obtain ⟨fd, F⟩ := c.def_ 14 (d := d__law_number) rfl
  exact at_fn (e := e__law_number) (k := 0) (M := ⟨blt_of X G c rfl, con_nil, fns_nil, so_none⟩) F (He.glo_ok X G (c.fact 30 (f := .glo "_law_number") rfl)) P__law_number sc__law_number rfl ck__law_number (fun _ _ _ _ _ _ us hl => match us, hl with | [_], _ => rfl) all_nil
theorem at__law_put (X : K.In h) (G : h.Ns mainGlobals mg) (c : He.SaysD fas dfs K) : AtFn P w K mg base 1 e__law_put F__law_put := by
  obtain ⟨fd, F⟩ := c.def_ 15 (d := d__law_put) rfl
  exact at_fn (e := e__law_put) (k := 0) (M := ⟨blt_of X G c rfl, con_nil, fns_nil, so_none⟩) F (He.glo_ok X G (c.fact 31 (f := .glo "_law_put") rfl)) P__law_put sc__law_put rfl ck__law_put (fun _ _ _ _ _ _ us hl => match us, hl with | [_, _, _], _ => rfl) all_nil
theorem at_is_lot_form (X : K.In h) (G : h.Ns mainGlobals mg) (c : He.SaysD fas dfs K) : AtFn P w K mg base 2 e_is_lot_form F_is_lot_form := by
  obtain ⟨fd, F⟩ := c.def_ 16 (d := d_is_lot_form) rfl
  exact at_fn (e := e_is_lot_form) (k := 1) (M := ⟨blt_of X G c rfl, con_nil, (fns_cons ((at_is_integer X G c (P := P) (w := w) (base := base)).mono (by decide)) fns_nil), so_none⟩) F (He.glo_ok X G (c.fact 32 (f := .glo "is_lot_form") rfl)) P_is_lot_form sc_is_lot_form rfl ck_is_lot_form (fun _ _ _ _ _ _ us hl => match us, hl with | [_, _], _ => rfl) all_nil
theorem at_is_wiring_form (X : K.In h) (G : h.Ns mainGlobals mg) (c : He.SaysD fas dfs K) : AtFn P w K mg base 3 e_is_wiring_form F_is_wiring_form := by
  obtain ⟨fd, F⟩ := c.def_ 17 (d := d_is_wiring_form) rfl
  exact at_fn (e := e_is_wiring_form) (k := 2) (M := ⟨blt_of X G c rfl, (con_cons (con_int X G c 37 rfl) (con_cons (con_int X G c 38 rfl) con_nil)), (fns_cons ((at_is_lot_form X G c (P := P) (w := w) (base := base)).mono (by decide)) (fns_cons ((at_is_integer X G c (P := P) (w := w) (base := base)).mono (by decide)) fns_nil)), so_none⟩) F (He.glo_ok X G (c.fact 33 (f := .glo "is_wiring_form") rfl)) P_is_wiring_form sc_is_wiring_form rfl ck_is_wiring_form (fun _ _ _ _ _ _ us hl => match us, hl with | [_], _ => rfl) all_nil
theorem at_is_wiring (X : K.In h) (G : h.Ns mainGlobals mg) (c : He.SaysD fas dfs K) : AtFn P w K mg base 4 e_is_wiring F_is_wiring := by
  obtain ⟨fd, F⟩ := c.def_ 18 (d := d_is_wiring) rfl
  exact at_fn (e := e_is_wiring) (k := 3) (M := ⟨blt_of X G c rfl, con_nil, (fns_cons ((at_is_wiring_form X G c (P := P) (w := w) (base := base)).mono (by decide)) fns_nil), so_none⟩) F (He.glo_ok X G (c.fact 34 (f := .glo "is_wiring") rfl)) P_is_wiring sc_is_wiring rfl ck_is_wiring (fun _ _ _ _ _ _ us hl => match us, hl with | [_], _ => rfl) all_nil
theorem at__law_right (X : K.In h) (G : h.Ns mainGlobals mg) (c : He.SaysD fas dfs K) : AtFn P w K mg base 13 e__law_right F__law_right := by
  obtain ⟨fd, F⟩ := c.def_ 19 (d := d__law_right) rfl
  exact at_fn (e := e__law_right) (k := 12) (M := ⟨blt_of X G c rfl, con_nil, (fns_cons ((at__law_same X G c 12 (P := P) (w := w) (base := base)).mono (by decide)) (fns_cons ((at__law_led X G c (P := P) (w := w) (base := base)).mono (by decide)) (fns_cons ((at_banks X G c (P := P) (w := w) (base := base)).mono (by decide)) (fns_cons ((at_plain X G c (P := P) (w := w) (base := base)).mono (by decide)) (fns_cons ((at__law_draw X G c (P := P) (w := w) (base := base)).mono (by decide)) (fns_cons ((at_joined_lines X G c (P := P) (w := w) (base := base)).mono (by decide)) (fns_cons ((at_stuck_line X G c (P := P) (w := w) (base := base)).mono (by decide)) (fns_cons ((at_is_wiring X G c (P := P) (w := w) (base := base)).mono (by decide)) (fns_cons ((at_drifting_line X G c (P := P) (w := w) (base := base)).mono (by decide)) (fns_cons ((at__law_number X G c (P := P) (w := w) (base := base)).mono (by decide)) (fns_cons ((at__law_put X G c (P := P) (w := w) (base := base)).mono (by decide)) (fns_cons ((at__law_figures X G c (P := P) (w := w) (base := base)).mono (by decide)) fns_nil)))))))))))), so_none⟩) F (He.glo_ok X G (c.fact 35 (f := .glo "_law_right") rfl)) P__law_right sc__law_right rfl ck__law_right (fun _ _ _ _ _ _ us hl => match us, hl with | [_, _], _ => rfl) all_nil
theorem facts {f : Addr} (X : K.In h) (G : h.Ns mainGlobals mg) (hfa : mg ("law" : Str) = some (.ref f)) (c : He.SaysD fas dfs K) :
    ∃ fd : FuncData, (∀ (s : Shared) (v : Value), BindsTo s fd ⟨[v], []⟩ [("script", v)]) ∧ ∀ base : Heap, K.In base → base.Ns mainGlobals mg → FnOk P w K mg base CX0 14 f fd P_law (fun vs H Q _ => spF K mg 1 F_law vs H Q fun _ _ _ => False) := by
  obtain ⟨fd, F⟩ := c.def_ 20 (d := d_law) rfl
  have e := hfa.symm.trans (He.glo_ok X G (c.fact 36 (f := .glo "law") rfl))
  cases e
  have b := FunD.bindsA (ps := P_law) F fun _ _ _ _ _ _ us hl => match us, hl with | [_], _ => rfl
  exact ⟨fd, fun s v => b s [v] rfl, fun base _ _ => fn_calm (fn_ok (k := 13) (Γ := g_law) (io := e_law.io) (M := ⟨blt_of X G c rfl, con_nil, (fns_cons ((at__law_right X G c (P := P) (w := w) (base := base)).mono (by decide)) (fns_cons ((at__law_feed X G c (P := P) (w := w) (base := base)).mono (by decide)) fns_nil)), so_none⟩) F (C8.fnScope_by sc_law) rfl ck_law)⟩
end
end LW
namespace LW
open PySem PySem.Spec PyProof.Rows L2 PL
def env1 (x : C) (bits names line other letter : Int) : PL.Env := [some x, some (.pu (.int bits)), some (.pu (.int names)), some (.pu (.int line)), some (.pu (.int other)), some (.pu (.int letter))] ++ List.replicate 18 none
def mid1 : SL := (.cons b__law_right_1 (.cons b__law_right_2 (.cons b__law_right_3 (.cons b__law_right_4 (.cons b__law_right_5 (.cons b__law_right_6 (.cons b__law_right_7 (.cons b__law_right_8 (.cons b__law_right_9 (.cons b__law_right_10 (.cons b__law_right_11 .nil)))))))))))
def isNx : RS → Bool
  | .nx _ => true
  | _ => false

def FeedOk (n : Nat) (c : C) : Prop := ∃ a b d : Int, c = .ml [.int a, .int b, .int d] ∧ 0 ≤ b ∧ b < 10 ^ 41 ∧ 0 ≤ d ∧ d ≤ n
theorem draw_pos {a b d many : Int} (ha : 0 < a) (hm : 0 < many) (hm2 : many < 2 ^ 62) : F__law_draw [.ml [.int a, .int b, .int d], .pu (.int many)] = .ok (.pu (.int (a % many))) [some (.ml [.int (a / many), .int b, .int d]), some (.pu (.int many))] := by
  have h1 : (many.natAbs < 2 ^ 1000) := by
    have : many.natAbs < 2 ^ 62 := by omega
    exact Nat.lt_of_lt_of_le this (Nat.pow_le_pow_right (by decide) (by decide))
  simp [F__law_draw, runD, PL.argsOk, e__law_draw, g__law_draw, N__law_draw, b__law_draw, b__law_draw_0, evSL, evS, evT, ev, PL.bound, pIdx, L2.atI, L2.ixN, pCmp, pGt, ha, evA, pBi, pInt, pBinX, pBinL, pBin, pMod, hm, pDiv, h1, isIn, fixA, lft]

theorem mulOk_nn {i j : Int} (hi : 0 ≤ i) (hi2 : i < 2 ^ 400) (hj : 0 ≤ j) (hj2 : j < 2 ^ 400) : mulOk i j = true := by
  have h : (2 : Int) ^ 400 = ((2 ^ 400 : Nat) : Int) := by norm_cast
  have h1 : i.natAbs < 2 ^ 1000 := by
    have : i.natAbs < 2 ^ 400 := by rw [h] at hi2; omega
    exact Nat.lt_trans this (by decide)
  have h2 : j.natAbs < 2 ^ 1000 := by
    have : j.natAbs < 2 ^ 400 := by rw [h] at hj2; omega
    exact Nat.lt_trans this (by decide)
  unfold mulOk
  simp [h1, h2]
theorem sq_lt {i : Int} (h0 : 0 ≤ i) (h1 : i < 2 ^ 190) : i * i < 2 ^ 400 := by
  have a1 : i * i ≤ i * 2 ^ 190 := Int.mul_le_mul_of_nonneg_left (Int.le_of_lt h1) h0
  have a2 : i * 2 ^ 190 ≤ 2 ^ 190 * 2 ^ 190 := Int.mul_le_mul_of_nonneg_right (Int.le_of_lt h1) (by decide)
  exact Int.lt_of_le_of_lt (Int.le_trans a1 a2) (by decide)
theorem draw_neg {a b d many : Int} {n : Nat} (ha : ¬ 0 < a) (hb : 0 ≤ b) (hb2 : b < 10 ^ 41) (hd : 0 ≤ d) (hd2 : d ≤ n) (hn : n < 2 ^ 60) (hm : 0 < many) (hm2 : many < 2 ^ 62) : ∃ r : Int, F__law_draw [.ml [.int a, .int b, .int d], .pu (.int many)] = .ok (.pu (.int r)) [some (.ml [.int a, .int b, .int (d + 1)]), some (.pu (.int many))] ∧ 0 ≤ r ∧ r < many := by
  have hs0 : 0 ≤ b + 86029057 * (d + 1) := by omega
  have hs1 : b + 86029057 * (d + 1) < 2 ^ 190 := by omega
  have hs2 : (b + 86029057 * (d + 1)) * (b + 86029057 * (d + 1)) < 2 ^ 400 := sq_lt hs0 hs1
  have m1 : mulOk (b + 86029057 * (d + 1)) (b + 86029057 * (d + 1)) = true := mulOk_nn hs0 (Int.lt_trans hs1 (by decide)) hs0 (Int.lt_trans hs1 (by decide))
  have m2 : mulOk ((b + 86029057 * (d + 1)) * (b + 86029057 * (d + 1))) (b + 86029057 * (d + 1)) = true := mulOk_nn (Int.mul_nonneg hs0 hs0) hs2 hs0 (Int.lt_trans hs1 (by decide))
  have m3 : mulOk 86029057 (d + 1) = true := by unfold mulOk; simp
  have m4 : mulOk 32453437 (d + 1) = true := by unfold mulOk; simp
  generalize hs : b + 86029057 * (d + 1) = s at *
  have hq0 : 0 ≤ (s * s * s + 32453437 * (d + 1) + 313) % 100000000000000000000000000000000000000081 := Int.emod_nonneg _ (by decide)
  have hq1 : (s * s * s + 32453437 * (d + 1) + 313) % 100000000000000000000000000000000000000081 < 100000000000000000000000000000000000000081 := Int.emod_lt_of_pos _ (by decide)
  have m5 : mulOk ((s * s * s + 32453437 * (d + 1) + 313) % 100000000000000000000000000000000000000081) ((s * s * s + 32453437 * (d + 1) + 313) % 100000000000000000000000000000000000000081) = true := mulOk_nn hq0 (Int.lt_trans hq1 (by decide)) hq0 (Int.lt_trans hq1 (by decide))
  refine ⟨((((s * s * s + 32453437 * (d + 1) + 313) % 100000000000000000000000000000000000000081) * ((s * s * s + 32453437 * (d + 1) + 313) % 100000000000000000000000000000000000000081) + 982451653) % 100000000000000000000000000000000000133) / 1000000000 % many, ?_, Int.emod_nonneg _ (by omega), Int.emod_lt_of_pos _ hm⟩
  simp [F__law_draw, runD, PL.argsOk, e__law_draw, g__law_draw, N__law_draw, b__law_draw, b__law_draw_0, b__law_draw_1, b__law_draw_2, b__law_draw_3, b__law_draw_4, b__law_draw_5, evSL, evS, evT, ev, PL.bound, pIdx, L2.atI, L2.ixN, pCmp, pGt, ha, evA, pBi, pInt, pBinX, pBinL, pBin, pMod, pMul, pAdd, pPow, hm, pDiv, isIn, fixA, lft, m3, m4, hs, m1, m2, m5]

theorem FeedOk.mono {m n : Nat} {c : C} (h : FeedOk m c) (l : m ≤ n) : FeedOk n c := by
  obtain ⟨a, b, d, e, h1, h2, h3, h4⟩ := h
  exact ⟨a, b, d, e, h1, h2, h3, by omega⟩
theorem draw_ok {n : Nat} {c : C} (h : FeedOk n c) (hn : n < 2 ^ 60) {many : Int} (hm : 0 < many) (hm2 : many < 2 ^ 62) : ∃ (r : Int) (c' : C), F__law_draw [c, .pu (.int many)] = .ok (.pu (.int r)) [some c', some (.pu (.int many))] ∧ 0 ≤ r ∧ r < many ∧ FeedOk (n + 1) c' := by
  obtain ⟨a, b, d, rfl, h1, h2, h3, h4⟩ := h
  by_cases ha : 0 < a
  · exact ⟨a % many, _, draw_pos ha hm hm2, Int.emod_nonneg _ (by omega), Int.emod_lt_of_pos _ hm, a / many, b, d, rfl, h1, h2, h3, by omega⟩
  · obtain ⟨r, e, r0, r1⟩ := draw_neg ha h1 h2 h3 h4 hn hm hm2
    exact ⟨r, _, e, r0, r1, a, b, d + 1, rfl, h1, h2, by omega, by omega⟩
theorem pInts_map : ∀ ns : List Int, pInts (ns.map PySem.PyData.int) = some ns
  | [] => rfl
  | n :: ns => by
    show (pInts (ns.map PySem.PyData.int)).map (n :: ·) = some (n :: ns)
    rw [pInts_map ns]
    rfl
theorem cut_map (ns : List Int) (lo hi : Option Int) : ∃ ms : List Int, PL.cutD (ns.map PySem.PyData.int) lo hi = ms.map PySem.PyData.int := by
  unfold PL.cutD
  rw [← List.map_drop, ← List.map_take]
  exact ⟨_, rfl⟩
theorem three_line : 3 ≤ sizeLine := by decide
theorem feed_ok (ns : List Int) (k : Nat) : ∃ c : C, F__law_feed [.sl (ns.map PySem.PyData.int), .pu (.int k)] = .ok c [some (.sl (ns.map PySem.PyData.int)), some (.pu (.int k))] ∧ FeedOk 0 c := by
  obtain ⟨ms, hms⟩ := cut_map ns none (some 3)
  by_cases hk : k < ns.length
  · obtain ⟨x, hx⟩ : ∃ x, ns[k]? = some x := ⟨_, List.getElem?_eq_getElem hk⟩
    have hk2 : (k : Int) < ns.length := by omega
    refine ⟨.ml [.int (if x - 1000000000000000000 > 0 then x - 1000000000000000000 else 0), .int ((x * 1423 + 557 * k + 283) % 10000000000000000000000000000000000000121), .int 0], ?_, _, _, _, rfl, Int.emod_nonneg _ (by decide), Int.lt_trans (Int.emod_lt_of_pos _ (by decide)) (by decide), Int.le_refl _, Int.le_refl _⟩
    simp [F__law_feed, runD, PL.argsOk, e__law_feed, g__law_feed, N__law_feed, b__law_feed, b__law_feed_0, b__law_feed_1, b__law_feed_2, evSL, evS, evT, evF, evO, ev, PL.bound, pIdx, L2.atI, L2.ixN, pCmp, pLt, evA, pBi, pInt, pBinX, pBinL, pBin, pMod, pMul, pAdd, pSub, pPow, isIn, isLst, fixA, lft, hms, pInts_map, mulOk, hk2, hx, three_line]
  · have hk2 : ¬ (k : Int) < ns.length := by omega
    refine ⟨.ml [.int (if 9403 * (k : Int) + 683 * ms.sum - 1000000000000000000 > 0 then 9403 * (k : Int) + 683 * ms.sum - 1000000000000000000 else 0), .int (((9403 * (k : Int) + 683 * ms.sum) * 1423 + 557 * k + 283) % 10000000000000000000000000000000000000121), .int 0], ?_, _, _, _, rfl, Int.emod_nonneg _ (by decide), Int.lt_trans (Int.emod_lt_of_pos _ (by decide)) (by decide), Int.le_refl _, Int.le_refl _⟩
    simp [F__law_feed, runD, PL.argsOk, e__law_feed, g__law_feed, N__law_feed, b__law_feed, b__law_feed_0, b__law_feed_1, b__law_feed_2, evSL, evS, evT, evF, evO, ev, PL.bound, pIdx, L2.atI, L2.ixN, pCmp, pLt, evA, pBi, pInt, pBinX, pBinL, pBin, pMod, pMul, pAdd, pSub, pPow, isIn, isLst, fixA, lft, hms, pInts_map, mulOk, hk2, three_line]
/-! ### the part between the draws -/
def sig (r : RS) : Option (Option C × Nat) := match r with
  | .nx (a :: g) => some (a, g.length)
  | _ => none
def sig2 (r : RS) : Option (Bool × Option C × Nat) := match r with
  | .rt (.pu (.bool b)) (a :: g) => some (b, a, g.length)
  | _ => none
theorem sig_nx {r : RS} {a : Option C} {n : Nat} (h : sig r = some (a, n)) : ∃ g, r = .nx (a :: g) ∧ g.length = n := by
  unfold sig at h
  split at h
  · cases h; exact ⟨_, rfl, rfl⟩
  · cases h
theorem sig_rt {r : RS} {b : Bool} {a : Option C} {n : Nat} (h : sig2 r = some (b, a, n)) : ∃ g, r = .rt (.pu (.bool b)) (a :: g) ∧ g.length = n := by
  unfold sig2 at h
  split at h
  · cases h; exact ⟨_, rfl, rfl⟩
  · cases h
theorem m1_1_0_0_0 (x : C) : sig (evSL tb__law_right sub0 mid1 (env1 x 1 2 0 0 0)) = some (some x, 23) := by kernel_rfl
theorem m1_1_0_0_1 (x : C) : sig (evSL tb__law_right sub0 mid1 (env1 x 1 2 0 0 1)) = some (some x, 23) := by kernel_rfl
theorem m1_2_0_0_0 (x : C) : sig (evSL tb__law_right sub0 mid1 (env1 x 2 4 0 0 0)) = some (some x, 23) := by kernel_rfl
theorem m1_2_0_0_1 (x : C) : sig (evSL tb__law_right sub0 mid1 (env1 x 2 4 0 0 1)) = some (some x, 23) := by kernel_rfl
theorem m1_2_0_1_0 (x : C) : sig (evSL tb__law_right sub0 mid1 (env1 x 2 4 0 1 0)) = some (some x, 23) := by kernel_rfl
theorem m1_2_0_1_1 (x : C) : sig (evSL tb__law_right sub0 mid1 (env1 x 2 4 0 1 1)) = some (some x, 23) := by kernel_rfl
theorem m1_2_1_0_0 (x : C) : sig (evSL tb__law_right sub0 mid1 (env1 x 2 4 1 0 0)) = some (some x, 23) := by kernel_rfl
theorem m1_2_1_0_1 (x : C) : sig (evSL tb__law_right sub0 mid1 (env1 x 2 4 1 0 1)) = some (some x, 23) := by kernel_rfl
theorem m1_2_1_1_0 (x : C) : sig (evSL tb__law_right sub0 mid1 (env1 x 2 4 1 1 0)) = some (some x, 23) := by kernel_rfl
theorem m1_2_1_1_1 (x : C) : sig (evSL tb__law_right sub0 mid1 (env1 x 2 4 1 1 1)) = some (some x, 23) := by kernel_rfl
theorem m1_3_0_0_0 (x : C) : sig (evSL tb__law_right sub0 mid1 (env1 x 3 8 0 0 0)) = some (some x, 23) := by kernel_rfl
theorem m1_3_0_0_1 (x : C) : sig (evSL tb__law_right sub0 mid1 (env1 x 3 8 0 0 1)) = some (some x, 23) := by kernel_rfl
theorem m1_3_0_1_0 (x : C) : sig (evSL tb__law_right sub0 mid1 (env1 x 3 8 0 1 0)) = some (some x, 23) := by kernel_rfl
theorem m1_3_0_1_1 (x : C) : sig (evSL tb__law_right sub0 mid1 (env1 x 3 8 0 1 1)) = some (some x, 23) := by kernel_rfl
theorem m1_3_0_2_0 (x : C) : sig (evSL tb__law_right sub0 mid1 (env1 x 3 8 0 2 0)) = some (some x, 23) := by kernel_rfl
theorem m1_3_0_2_1 (x : C) : sig (evSL tb__law_right sub0 mid1 (env1 x 3 8 0 2 1)) = some (some x, 23) := by kernel_rfl
theorem m1_3_1_0_0 (x : C) : sig (evSL tb__law_right sub0 mid1 (env1 x 3 8 1 0 0)) = some (some x, 23) := by kernel_rfl
theorem m1_3_1_0_1 (x : C) : sig (evSL tb__law_right sub0 mid1 (env1 x 3 8 1 0 1)) = some (some x, 23) := by kernel_rfl
theorem m1_3_1_1_0 (x : C) : sig (evSL tb__law_right sub0 mid1 (env1 x 3 8 1 1 0)) = some (some x, 23) := by kernel_rfl
theorem m1_3_1_1_1 (x : C) : sig (evSL tb__law_right sub0 mid1 (env1 x 3 8 1 1 1)) = some (some x, 23) := by kernel_rfl
theorem m1_3_1_2_0 (x : C) : sig (evSL tb__law_right sub0 mid1 (env1 x 3 8 1 2 0)) = some (some x, 23) := by kernel_rfl
theorem m1_3_1_2_1 (x : C) : sig (evSL tb__law_right sub0 mid1 (env1 x 3 8 1 2 1)) = some (some x, 23) := by kernel_rfl
theorem m1_3_2_0_0 (x : C) : sig (evSL tb__law_right sub0 mid1 (env1 x 3 8 2 0 0)) = some (some x, 23) := by kernel_rfl
theorem m1_3_2_0_1 (x : C) : sig (evSL tb__law_right sub0 mid1 (env1 x 3 8 2 0 1)) = some (some x, 23) := by kernel_rfl
theorem m1_3_2_1_0 (x : C) : sig (evSL tb__law_right sub0 mid1 (env1 x 3 8 2 1 0)) = some (some x, 23) := by kernel_rfl
theorem m1_3_2_1_1 (x : C) : sig (evSL tb__law_right sub0 mid1 (env1 x 3 8 2 1 1)) = some (some x, 23) := by kernel_rfl
theorem m1_3_2_2_0 (x : C) : sig (evSL tb__law_right sub0 mid1 (env1 x 3 8 2 2 0)) = some (some x, 23) := by kernel_rfl
theorem m1_3_2_2_1 (x : C) : sig (evSL tb__law_right sub0 mid1 (env1 x 3 8 2 2 1)) = some (some x, 23) := by kernel_rfl
theorem mid1_all (x : C) (bits line other letter : Int) (hb : bits = 1 ∨ bits = 2 ∨ bits = 3) (l0 : 0 ≤ line) (l1 : line < bits) (o0 : 0 ≤ other) (o1 : other < bits) (t0 : 0 ≤ letter) (t1 : letter < 2) :
    sig (evSL tb__law_right sub0 mid1 (env1 x bits (1 * 2 ^ bits.toNat) line other letter)) = some (some x, 23) := by
  have ht : letter = 0 ∨ letter = 1 := by omega
  rcases hb with rfl | rfl | rfl
  · have hl : line = 0 := by omega
    have ho : other = 0 := by omega
    subst hl; subst ho
    rcases ht with rfl | rfl
    · exact m1_1_0_0_0 x
    · exact m1_1_0_0_1 x
  · have hl : line = 0 ∨ line = 1 := by omega
    have ho : other = 0 ∨ other = 1 := by omega
    rcases hl with rfl | rfl <;> rcases ho with rfl | rfl <;> rcases ht with rfl | rfl
    · exact m1_2_0_0_0 x
    · exact m1_2_0_0_1 x
    · exact m1_2_0_1_0 x
    · exact m1_2_0_1_1 x
    · exact m1_2_1_0_0 x
    · exact m1_2_1_0_1 x
    · exact m1_2_1_1_0 x
    · exact m1_2_1_1_1 x
  · have hl : line = 0 ∨ line = 1 ∨ line = 2 := by omega
    have ho : other = 0 ∨ other = 1 ∨ other = 2 := by omega
    rcases hl with rfl | rfl | rfl <;> rcases ho with rfl | rfl | rfl <;> rcases ht with rfl | rfl
    · exact m1_3_0_0_0 x
    · exact m1_3_0_0_1 x
    · exact m1_3_0_1_0 x
    · exact m1_3_0_1_1 x
    · exact m1_3_0_2_0 x
    · exact m1_3_0_2_1 x
    · exact m1_3_1_0_0 x
    · exact m1_3_1_0_1 x
    · exact m1_3_1_1_0 x
    · exact m1_3_1_1_1 x
    · exact m1_3_1_2_0 x
    · exact m1_3_1_2_1 x
    · exact m1_3_2_0_0 x
    · exact m1_3_2_0_1 x
    · exact m1_3_2_1_0 x
    · exact m1_3_2_1_1 x
    · exact m1_3_2_2_0 x
    · exact m1_3_2_2_1 x
def mid2 : SL := (.cons b__law_right_14 (.cons b__law_right_15 (.cons b__law_right_16 (.cons b__law_right_17 .nil))))
def env2 (x : C) (many size : Int) (a1 a2 a3 a4 a5 a6 a7 a8 a9 a10 a11 a12 a13 a14 a15 a16 a19 a20 a21 a22 a23 : Option C) : PL.Env := [some x, a1, a2, a3, a4, a5, a6, a7, a8, a9, a10, a11, a12, a13, a14, a15, a16, some (.pu (.int many)), some (.pu (.int size)), a19, a20, a21, a22, a23]
theorem m2_1_1 (x : C) (a1 a2 a3 a4 a5 a6 a7 a8 a9 a10 a11 a12 a13 a14 a15 a16 a19 a20 a21 a22 a23 : Option C) : sig2 (evSL tb__law_right sub0 mid2 (env2 x 1 1 a1 a2 a3 a4 a5 a6 a7 a8 a9 a10 a11 a12 a13 a14 a15 a16 a19 a20 a21 a22 a23)) = some (true, some x, 23) := by kernel_rfl
theorem m2_2_1 (x : C) (a1 a2 a3 a4 a5 a6 a7 a8 a9 a10 a11 a12 a13 a14 a15 a16 a19 a20 a21 a22 a23 : Option C) : sig2 (evSL tb__law_right sub0 mid2 (env2 x 2 1 a1 a2 a3 a4 a5 a6 a7 a8 a9 a10 a11 a12 a13 a14 a15 a16 a19 a20 a21 a22 a23)) = some (true, some x, 23) := by kernel_rfl
theorem m2_2_2 (x : C) (a1 a2 a3 a4 a5 a6 a7 a8 a9 a10 a11 a12 a13 a14 a15 a16 a19 a20 a21 a22 a23 : Option C) : sig2 (evSL tb__law_right sub0 mid2 (env2 x 2 2 a1 a2 a3 a4 a5 a6 a7 a8 a9 a10 a11 a12 a13 a14 a15 a16 a19 a20 a21 a22 a23)) = some (true, some x, 23) := by kernel_rfl
theorem m2_3_1 (x : C) (a1 a2 a3 a4 a5 a6 a7 a8 a9 a10 a11 a12 a13 a14 a15 a16 a19 a20 a21 a22 a23 : Option C) : sig2 (evSL tb__law_right sub0 mid2 (env2 x 3 1 a1 a2 a3 a4 a5 a6 a7 a8 a9 a10 a11 a12 a13 a14 a15 a16 a19 a20 a21 a22 a23)) = some (true, some x, 23) := by kernel_rfl
theorem m2_3_2 (x : C) (a1 a2 a3 a4 a5 a6 a7 a8 a9 a10 a11 a12 a13 a14 a15 a16 a19 a20 a21 a22 a23 : Option C) : sig2 (evSL tb__law_right sub0 mid2 (env2 x 3 2 a1 a2 a3 a4 a5 a6 a7 a8 a9 a10 a11 a12 a13 a14 a15 a16 a19 a20 a21 a22 a23)) = some (true, some x, 23) := by kernel_rfl
theorem m2_3_3 (x : C) (a1 a2 a3 a4 a5 a6 a7 a8 a9 a10 a11 a12 a13 a14 a15 a16 a19 a20 a21 a22 a23 : Option C) : sig2 (evSL tb__law_right sub0 mid2 (env2 x 3 3 a1 a2 a3 a4 a5 a6 a7 a8 a9 a10 a11 a12 a13 a14 a15 a16 a19 a20 a21 a22 a23)) = some (true, some x, 23) := by kernel_rfl
theorem m2_4_1 (x : C) (a1 a2 a3 a4 a5 a6 a7 a8 a9 a10 a11 a12 a13 a14 a15 a16 a19 a20 a21 a22 a23 : Option C) : sig2 (evSL tb__law_right sub0 mid2 (env2 x 4 1 a1 a2 a3 a4 a5 a6 a7 a8 a9 a10 a11 a12 a13 a14 a15 a16 a19 a20 a21 a22 a23)) = some (true, some x, 23) := by kernel_rfl
theorem m2_4_2 (x : C) (a1 a2 a3 a4 a5 a6 a7 a8 a9 a10 a11 a12 a13 a14 a15 a16 a19 a20 a21 a22 a23 : Option C) : sig2 (evSL tb__law_right sub0 mid2 (env2 x 4 2 a1 a2 a3 a4 a5 a6 a7 a8 a9 a10 a11 a12 a13 a14 a15 a16 a19 a20 a21 a22 a23)) = some (true, some x, 23) := by kernel_rfl
theorem m2_4_3 (x : C) (a1 a2 a3 a4 a5 a6 a7 a8 a9 a10 a11 a12 a13 a14 a15 a16 a19 a20 a21 a22 a23 : Option C) : sig2 (evSL tb__law_right sub0 mid2 (env2 x 4 3 a1 a2 a3 a4 a5 a6 a7 a8 a9 a10 a11 a12 a13 a14 a15 a16 a19 a20 a21 a22 a23)) = some (true, some x, 23) := by kernel_rfl
theorem m2_4_4 (x : C) (a1 a2 a3 a4 a5 a6 a7 a8 a9 a10 a11 a12 a13 a14 a15 a16 a19 a20 a21 a22 a23 : Option C) : sig2 (evSL tb__law_right sub0 mid2 (env2 x 4 4 a1 a2 a3 a4 a5 a6 a7 a8 a9 a10 a11 a12 a13 a14 a15 a16 a19 a20 a21 a22 a23)) = some (true, some x, 23) := by kernel_rfl
theorem m2_5_1 (x : C) (a1 a2 a3 a4 a5 a6 a7 a8 a9 a10 a11 a12 a13 a14 a15 a16 a19 a20 a21 a22 a23 : Option C) : sig2 (evSL tb__law_right sub0 mid2 (env2 x 5 1 a1 a2 a3 a4 a5 a6 a7 a8 a9 a10 a11 a12 a13 a14 a15 a16 a19 a20 a21 a22 a23)) = some (true, some x, 23) := by kernel_rfl
theorem m2_5_2 (x : C) (a1 a2 a3 a4 a5 a6 a7 a8 a9 a10 a11 a12 a13 a14 a15 a16 a19 a20 a21 a22 a23 : Option C) : sig2 (evSL tb__law_right sub0 mid2 (env2 x 5 2 a1 a2 a3 a4 a5 a6 a7 a8 a9 a10 a11 a12 a13 a14 a15 a16 a19 a20 a21 a22 a23)) = some (true, some x, 23) := by kernel_rfl
theorem m2_5_3 (x : C) (a1 a2 a3 a4 a5 a6 a7 a8 a9 a10 a11 a12 a13 a14 a15 a16 a19 a20 a21 a22 a23 : Option C) : sig2 (evSL tb__law_right sub0 mid2 (env2 x 5 3 a1 a2 a3 a4 a5 a6 a7 a8 a9 a10 a11 a12 a13 a14 a15 a16 a19 a20 a21 a22 a23)) = some (true, some x, 23) := by kernel_rfl
theorem m2_5_4 (x : C) (a1 a2 a3 a4 a5 a6 a7 a8 a9 a10 a11 a12 a13 a14 a15 a16 a19 a20 a21 a22 a23 : Option C) : sig2 (evSL tb__law_right sub0 mid2 (env2 x 5 4 a1 a2 a3 a4 a5 a6 a7 a8 a9 a10 a11 a12 a13 a14 a15 a16 a19 a20 a21 a22 a23)) = some (true, some x, 23) := by kernel_rfl
theorem m2_5_5 (x : C) (a1 a2 a3 a4 a5 a6 a7 a8 a9 a10 a11 a12 a13 a14 a15 a16 a19 a20 a21 a22 a23 : Option C) : sig2 (evSL tb__law_right sub0 mid2 (env2 x 5 5 a1 a2 a3 a4 a5 a6 a7 a8 a9 a10 a11 a12 a13 a14 a15 a16 a19 a20 a21 a22 a23)) = some (true, some x, 23) := by kernel_rfl
theorem m2_6_1 (x : C) (a1 a2 a3 a4 a5 a6 a7 a8 a9 a10 a11 a12 a13 a14 a15 a16 a19 a20 a21 a22 a23 : Option C) : sig2 (evSL tb__law_right sub0 mid2 (env2 x 6 1 a1 a2 a3 a4 a5 a6 a7 a8 a9 a10 a11 a12 a13 a14 a15 a16 a19 a20 a21 a22 a23)) = some (true, some x, 23) := by kernel_rfl
theorem m2_6_2 (x : C) (a1 a2 a3 a4 a5 a6 a7 a8 a9 a10 a11 a12 a13 a14 a15 a16 a19 a20 a21 a22 a23 : Option C) : sig2 (evSL tb__law_right sub0 mid2 (env2 x 6 2 a1 a2 a3 a4 a5 a6 a7 a8 a9 a10 a11 a12 a13 a14 a15 a16 a19 a20 a21 a22 a23)) = some (true, some x, 23) := by kernel_rfl
theorem m2_6_3 (x : C) (a1 a2 a3 a4 a5 a6 a7 a8 a9 a10 a11 a12 a13 a14 a15 a16 a19 a20 a21 a22 a23 : Option C) : sig2 (evSL tb__law_right sub0 mid2 (env2 x 6 3 a1 a2 a3 a4 a5 a6 a7 a8 a9 a10 a11 a12 a13 a14 a15 a16 a19 a20 a21 a22 a23)) = some (true, some x, 23) := by kernel_rfl
theorem m2_6_4 (x : C) (a1 a2 a3 a4 a5 a6 a7 a8 a9 a10 a11 a12 a13 a14 a15 a16 a19 a20 a21 a22 a23 : Option C) : sig2 (evSL tb__law_right sub0 mid2 (env2 x 6 4 a1 a2 a3 a4 a5 a6 a7 a8 a9 a10 a11 a12 a13 a14 a15 a16 a19 a20 a21 a22 a23)) = some (true, some x, 23) := by kernel_rfl
theorem m2_6_5 (x : C) (a1 a2 a3 a4 a5 a6 a7 a8 a9 a10 a11 a12 a13 a14 a15 a16 a19 a20 a21 a22 a23 : Option C) : sig2 (evSL tb__law_right sub0 mid2 (env2 x 6 5 a1 a2 a3 a4 a5 a6 a7 a8 a9 a10 a11 a12 a13 a14 a15 a16 a19 a20 a21 a22 a23)) = some (true, some x, 23) := by kernel_rfl
theorem m2_6_6 (x : C) (a1 a2 a3 a4 a5 a6 a7 a8 a9 a10 a11 a12 a13 a14 a15 a16 a19 a20 a21 a22 a23 : Option C) : sig2 (evSL tb__law_right sub0 mid2 (env2 x 6 6 a1 a2 a3 a4 a5 a6 a7 a8 a9 a10 a11 a12 a13 a14 a15 a16 a19 a20 a21 a22 a23)) = some (true, some x, 23) := by kernel_rfl
theorem m2_7_1 (x : C) (a1 a2 a3 a4 a5 a6 a7 a8 a9 a10 a11 a12 a13 a14 a15 a16 a19 a20 a21 a22 a23 : Option C) : sig2 (evSL tb__law_right sub0 mid2 (env2 x 7 1 a1 a2 a3 a4 a5 a6 a7 a8 a9 a10 a11 a12 a13 a14 a15 a16 a19 a20 a21 a22 a23)) = some (true, some x, 23) := by kernel_rfl
theorem m2_7_2 (x : C) (a1 a2 a3 a4 a5 a6 a7 a8 a9 a10 a11 a12 a13 a14 a15 a16 a19 a20 a21 a22 a23 : Option C) : sig2 (evSL tb__law_right sub0 mid2 (env2 x 7 2 a1 a2 a3 a4 a5 a6 a7 a8 a9 a10 a11 a12 a13 a14 a15 a16 a19 a20 a21 a22 a23)) = some (true, some x, 23) := by kernel_rfl
theorem m2_7_3 (x : C) (a1 a2 a3 a4 a5 a6 a7 a8 a9 a10 a11 a12 a13 a14 a15 a16 a19 a20 a21 a22 a23 : Option C) : sig2 (evSL tb__law_right sub0 mid2 (env2 x 7 3 a1 a2 a3 a4 a5 a6 a7 a8 a9 a10 a11 a12 a13 a14 a15 a16 a19 a20 a21 a22 a23)) = some (true, some x, 23) := by kernel_rfl
theorem m2_7_4 (x : C) (a1 a2 a3 a4 a5 a6 a7 a8 a9 a10 a11 a12 a13 a14 a15 a16 a19 a20 a21 a22 a23 : Option C) : sig2 (evSL tb__law_right sub0 mid2 (env2 x 7 4 a1 a2 a3 a4 a5 a6 a7 a8 a9 a10 a11 a12 a13 a14 a15 a16 a19 a20 a21 a22 a23)) = some (true, some x, 23) := by kernel_rfl
theorem m2_7_5 (x : C) (a1 a2 a3 a4 a5 a6 a7 a8 a9 a10 a11 a12 a13 a14 a15 a16 a19 a20 a21 a22 a23 : Option C) : sig2 (evSL tb__law_right sub0 mid2 (env2 x 7 5 a1 a2 a3 a4 a5 a6 a7 a8 a9 a10 a11 a12 a13 a14 a15 a16 a19 a20 a21 a22 a23)) = some (true, some x, 23) := by kernel_rfl
theorem m2_7_6 (x : C) (a1 a2 a3 a4 a5 a6 a7 a8 a9 a10 a11 a12 a13 a14 a15 a16 a19 a20 a21 a22 a23 : Option C) : sig2 (evSL tb__law_right sub0 mid2 (env2 x 7 6 a1 a2 a3 a4 a5 a6 a7 a8 a9 a10 a11 a12 a13 a14 a15 a16 a19 a20 a21 a22 a23)) = some (true, some x, 23) := by kernel_rfl
theorem m2_7_7 (x : C) (a1 a2 a3 a4 a5 a6 a7 a8 a9 a10 a11 a12 a13 a14 a15 a16 a19 a20 a21 a22 a23 : Option C) : sig2 (evSL tb__law_right sub0 mid2 (env2 x 7 7 a1 a2 a3 a4 a5 a6 a7 a8 a9 a10 a11 a12 a13 a14 a15 a16 a19 a20 a21 a22 a23)) = some (true, some x, 23) := by kernel_rfl
theorem m2_8_1 (x : C) (a1 a2 a3 a4 a5 a6 a7 a8 a9 a10 a11 a12 a13 a14 a15 a16 a19 a20 a21 a22 a23 : Option C) : sig2 (evSL tb__law_right sub0 mid2 (env2 x 8 1 a1 a2 a3 a4 a5 a6 a7 a8 a9 a10 a11 a12 a13 a14 a15 a16 a19 a20 a21 a22 a23)) = some (true, some x, 23) := by kernel_rfl
theorem m2_8_2 (x : C) (a1 a2 a3 a4 a5 a6 a7 a8 a9 a10 a11 a12 a13 a14 a15 a16 a19 a20 a21 a22 a23 : Option C) : sig2 (evSL tb__law_right sub0 mid2 (env2 x 8 2 a1 a2 a3 a4 a5 a6 a7 a8 a9 a10 a11 a12 a13 a14 a15 a16 a19 a20 a21 a22 a23)) = some (true, some x, 23) := by kernel_rfl
theorem m2_8_3 (x : C) (a1 a2 a3 a4 a5 a6 a7 a8 a9 a10 a11 a12 a13 a14 a15 a16 a19 a20 a21 a22 a23 : Option C) : sig2 (evSL tb__law_right sub0 mid2 (env2 x 8 3 a1 a2 a3 a4 a5 a6 a7 a8 a9 a10 a11 a12 a13 a14 a15 a16 a19 a20 a21 a22 a23)) = some (true, some x, 23) := by kernel_rfl
theorem m2_8_4 (x : C) (a1 a2 a3 a4 a5 a6 a7 a8 a9 a10 a11 a12 a13 a14 a15 a16 a19 a20 a21 a22 a23 : Option C) : sig2 (evSL tb__law_right sub0 mid2 (env2 x 8 4 a1 a2 a3 a4 a5 a6 a7 a8 a9 a10 a11 a12 a13 a14 a15 a16 a19 a20 a21 a22 a23)) = some (true, some x, 23) := by kernel_rfl
theorem m2_8_5 (x : C) (a1 a2 a3 a4 a5 a6 a7 a8 a9 a10 a11 a12 a13 a14 a15 a16 a19 a20 a21 a22 a23 : Option C) : sig2 (evSL tb__law_right sub0 mid2 (env2 x 8 5 a1 a2 a3 a4 a5 a6 a7 a8 a9 a10 a11 a12 a13 a14 a15 a16 a19 a20 a21 a22 a23)) = some (true, some x, 23) := by kernel_rfl
theorem m2_8_6 (x : C) (a1 a2 a3 a4 a5 a6 a7 a8 a9 a10 a11 a12 a13 a14 a15 a16 a19 a20 a21 a22 a23 : Option C) : sig2 (evSL tb__law_right sub0 mid2 (env2 x 8 6 a1 a2 a3 a4 a5 a6 a7 a8 a9 a10 a11 a12 a13 a14 a15 a16 a19 a20 a21 a22 a23)) = some (true, some x, 23) := by kernel_rfl
theorem m2_8_7 (x : C) (a1 a2 a3 a4 a5 a6 a7 a8 a9 a10 a11 a12 a13 a14 a15 a16 a19 a20 a21 a22 a23 : Option C) : sig2 (evSL tb__law_right sub0 mid2 (env2 x 8 7 a1 a2 a3 a4 a5 a6 a7 a8 a9 a10 a11 a12 a13 a14 a15 a16 a19 a20 a21 a22 a23)) = some (true, some x, 23) := by kernel_rfl
theorem m2_8_8 (x : C) (a1 a2 a3 a4 a5 a6 a7 a8 a9 a10 a11 a12 a13 a14 a15 a16 a19 a20 a21 a22 a23 : Option C) : sig2 (evSL tb__law_right sub0 mid2 (env2 x 8 8 a1 a2 a3 a4 a5 a6 a7 a8 a9 a10 a11 a12 a13 a14 a15 a16 a19 a20 a21 a22 a23)) = some (true, some x, 23) := by kernel_rfl
theorem mid2_all (x : C) (many size : Int) (a1 a2 a3 a4 a5 a6 a7 a8 a9 a10 a11 a12 a13 a14 a15 a16 a19 a20 a21 a22 a23 : Option C) (h0 : 1 ≤ many) (h1 : many ≤ 8) (z0 : 1 ≤ size) (z1 : size ≤ many) : sig2 (evSL tb__law_right sub0 mid2 (env2 x many size a1 a2 a3 a4 a5 a6 a7 a8 a9 a10 a11 a12 a13 a14 a15 a16 a19 a20 a21 a22 a23)) = some (true, some x, 23) := by
  have hm : many = 1 ∨ many = 2 ∨ many = 3 ∨ many = 4 ∨ many = 5 ∨ many = 6 ∨ many = 7 ∨ many = 8 := by omega
  rcases hm with rfl | rfl | rfl | rfl | rfl | rfl | rfl | rfl
  · have hz : size = 1 := by omega
    subst hz
    exact m2_1_1 x a1 a2 a3 a4 a5 a6 a7 a8 a9 a10 a11 a12 a13 a14 a15 a16 a19 a20 a21 a22 a23
  · have hz : size = 1 ∨ size = 2 := by omega
    rcases hz with rfl | rfl
    · exact m2_2_1 x a1 a2 a3 a4 a5 a6 a7 a8 a9 a10 a11 a12 a13 a14 a15 a16 a19 a20 a21 a22 a23
    · exact m2_2_2 x a1 a2 a3 a4 a5 a6 a7 a8 a9 a10 a11 a12 a13 a14 a15 a16 a19 a20 a21 a22 a23
  · have hz : size = 1 ∨ size = 2 ∨ size = 3 := by omega
    rcases hz with rfl | rfl | rfl
    · exact m2_3_1 x a1 a2 a3 a4 a5 a6 a7 a8 a9 a10 a11 a12 a13 a14 a15 a16 a19 a20 a21 a22 a23
    · exact m2_3_2 x a1 a2 a3 a4 a5 a6 a7 a8 a9 a10 a11 a12 a13 a14 a15 a16 a19 a20 a21 a22 a23
    · exact m2_3_3 x a1 a2 a3 a4 a5 a6 a7 a8 a9 a10 a11 a12 a13 a14 a15 a16 a19 a20 a21 a22 a23
  · have hz : size = 1 ∨ size = 2 ∨ size = 3 ∨ size = 4 := by omega
    rcases hz with rfl | rfl | rfl | rfl
    · exact m2_4_1 x a1 a2 a3 a4 a5 a6 a7 a8 a9 a10 a11 a12 a13 a14 a15 a16 a19 a20 a21 a22 a23
    · exact m2_4_2 x a1 a2 a3 a4 a5 a6 a7 a8 a9 a10 a11 a12 a13 a14 a15 a16 a19 a20 a21 a22 a23
    · exact m2_4_3 x a1 a2 a3 a4 a5 a6 a7 a8 a9 a10 a11 a12 a13 a14 a15 a16 a19 a20 a21 a22 a23
    · exact m2_4_4 x a1 a2 a3 a4 a5 a6 a7 a8 a9 a10 a11 a12 a13 a14 a15 a16 a19 a20 a21 a22 a23
  · have hz : size = 1 ∨ size = 2 ∨ size = 3 ∨ size = 4 ∨ size = 5 := by omega
    rcases hz with rfl | rfl | rfl | rfl | rfl
    · exact m2_5_1 x a1 a2 a3 a4 a5 a6 a7 a8 a9 a10 a11 a12 a13 a14 a15 a16 a19 a20 a21 a22 a23
    · exact m2_5_2 x a1 a2 a3 a4 a5 a6 a7 a8 a9 a10 a11 a12 a13 a14 a15 a16 a19 a20 a21 a22 a23
    · exact m2_5_3 x a1 a2 a3 a4 a5 a6 a7 a8 a9 a10 a11 a12 a13 a14 a15 a16 a19 a20 a21 a22 a23
    · exact m2_5_4 x a1 a2 a3 a4 a5 a6 a7 a8 a9 a10 a11 a12 a13 a14 a15 a16 a19 a20 a21 a22 a23
    · exact m2_5_5 x a1 a2 a3 a4 a5 a6 a7 a8 a9 a10 a11 a12 a13 a14 a15 a16 a19 a20 a21 a22 a23
  · have hz : size = 1 ∨ size = 2 ∨ size = 3 ∨ size = 4 ∨ size = 5 ∨ size = 6 := by omega
    rcases hz with rfl | rfl | rfl | rfl | rfl | rfl
    · exact m2_6_1 x a1 a2 a3 a4 a5 a6 a7 a8 a9 a10 a11 a12 a13 a14 a15 a16 a19 a20 a21 a22 a23
    · exact m2_6_2 x a1 a2 a3 a4 a5 a6 a7 a8 a9 a10 a11 a12 a13 a14 a15 a16 a19 a20 a21 a22 a23
    · exact m2_6_3 x a1 a2 a3 a4 a5 a6 a7 a8 a9 a10 a11 a12 a13 a14 a15 a16 a19 a20 a21 a22 a23
    · exact m2_6_4 x a1 a2 a3 a4 a5 a6 a7 a8 a9 a10 a11 a12 a13 a14 a15 a16 a19 a20 a21 a22 a23
    · exact m2_6_5 x a1 a2 a3 a4 a5 a6 a7 a8 a9 a10 a11 a12 a13 a14 a15 a16 a19 a20 a21 a22 a23
    · exact m2_6_6 x a1 a2 a3 a4 a5 a6 a7 a8 a9 a10 a11 a12 a13 a14 a15 a16 a19 a20 a21 a22 a23
  · have hz : size = 1 ∨ size = 2 ∨ size = 3 ∨ size = 4 ∨ size = 5 ∨ size = 6 ∨ size = 7 := by omega
    rcases hz with rfl | rfl | rfl | rfl | rfl | rfl | rfl
    · exact m2_7_1 x a1 a2 a3 a4 a5 a6 a7 a8 a9 a10 a11 a12 a13 a14 a15 a16 a19 a20 a21 a22 a23
    · exact m2_7_2 x a1 a2 a3 a4 a5 a6 a7 a8 a9 a10 a11 a12 a13 a14 a15 a16 a19 a20 a21 a22 a23
    · exact m2_7_3 x a1 a2 a3 a4 a5 a6 a7 a8 a9 a10 a11 a12 a13 a14 a15 a16 a19 a20 a21 a22 a23
    · exact m2_7_4 x a1 a2 a3 a4 a5 a6 a7 a8 a9 a10 a11 a12 a13 a14 a15 a16 a19 a20 a21 a22 a23
    · exact m2_7_5 x a1 a2 a3 a4 a5 a6 a7 a8 a9 a10 a11 a12 a13 a14 a15 a16 a19 a20 a21 a22 a23
    · exact m2_7_6 x a1 a2 a3 a4 a5 a6 a7 a8 a9 a10 a11 a12 a13 a14 a15 a16 a19 a20 a21 a22 a23
    · exact m2_7_7 x a1 a2 a3 a4 a5 a6 a7 a8 a9 a10 a11 a12 a13 a14 a15 a16 a19 a20 a21 a22 a23
  · have hz : size = 1 ∨ size = 2 ∨ size = 3 ∨ size = 4 ∨ size = 5 ∨ size = 6 ∨ size = 7 ∨ size = 8 := by omega
    rcases hz with rfl | rfl | rfl | rfl | rfl | rfl | rfl | rfl
    · exact m2_8_1 x a1 a2 a3 a4 a5 a6 a7 a8 a9 a10 a11 a12 a13 a14 a15 a16 a19 a20 a21 a22 a23
    · exact m2_8_2 x a1 a2 a3 a4 a5 a6 a7 a8 a9 a10 a11 a12 a13 a14 a15 a16 a19 a20 a21 a22 a23
    · exact m2_8_3 x a1 a2 a3 a4 a5 a6 a7 a8 a9 a10 a11 a12 a13 a14 a15 a16 a19 a20 a21 a22 a23
    · exact m2_8_4 x a1 a2 a3 a4 a5 a6 a7 a8 a9 a10 a11 a12 a13 a14 a15 a16 a19 a20 a21 a22 a23
    · exact m2_8_5 x a1 a2 a3 a4 a5 a6 a7 a8 a9 a10 a11 a12 a13 a14 a15 a16 a19 a20 a21 a22 a23
    · exact m2_8_6 x a1 a2 a3 a4 a5 a6 a7 a8 a9 a10 a11 a12 a13 a14 a15 a16 a19 a20 a21 a22 a23
    · exact m2_8_7 x a1 a2 a3 a4 a5 a6 a7 a8 a9 a10 a11 a12 a13 a14 a15 a16 a19 a20 a21 a22 a23
    · exact m2_8_8 x a1 a2 a3 a4 a5 a6 a7 a8 a9 a10 a11 a12 a13 a14 a15 a16 a19 a20 a21 a22 a23
end LW
namespace LW
open PySem PySem.Spec PyProof.Rows L2 PL
def app : SL → SL → SL
  | .nil, r => r
  | .cons s l, r => .cons s (app l r)
theorem rs_assoc (r : RS) (f k : MS) : (r.bind f).bind k = r.bind fun g => (f g).bind k := by
  cases r <;> rfl
theorem evSL_app (tb : List FS) (sub : PySem.Str → PySem.Str → Option Bool) (r : SL) : ∀ (l : SL) (g : PL.Env), evSL tb sub (app l r) g = (evSL tb sub l g).bind (evSL tb sub r)
  | .nil, g => rfl
  | .cons s l, g => by
    show (evS tb sub s g).bind (evSL tb sub (app l r)) = ((evS tb sub s g).bind (evSL tb sub l)).bind (evSL tb sub r)
    rw [rs_assoc]
    congr 1
    funext g'
    exact evSL_app tb sub r l g'
theorem evSL_cons (tb : List FS) (sub : PySem.Str → PySem.Str → Option Bool) (s : S) (r : SL) (g : PL.Env) : evSL tb sub (.cons s r) g = (evS tb sub s g).bind (evSL tb sub r) := by rw [evSL]
theorem evSL_nil (tb : List FS) (sub : PySem.Str → PySem.Str → Option Bool) (g : PL.Env) : evSL tb sub .nil g = .nx g := by rw [evSL]
theorem evS_for (tb : List FS) (sub : PySem.Str → PySem.Str → Option Bool) (tg : Tg) (it : PL.It) (b : SL) (g : PL.Env) : evS tb sub (.for tg it b) g = (evI tb it g).andS fun ds g1 => forL tg (evSL tb sub b) ds g1 := by rw [evS]
theorem forL_inv {tg : Tg} {body : MS} (I : Nat → PL.Env → Prop) : ∀ (ds : List PL.D) (j : Nat) (g : PL.Env), (∀ (i : Nat) (d : PL.D) (g : PL.Env), ds[i]? = some d → I (j + i) g → ∃ g1 g2, setTg tg d g = some g1 ∧ (body g1 = .nx g2 ∨ body g1 = .ct g2) ∧ I (j + i + 1) g2) → I j g → ∃ g', forL tg body ds g = .nx g' ∧ I (j + ds.length) g'
  | [], j, g, _, h => ⟨g, rfl, h⟩
  | d :: ds, j, g, st, h => by
    obtain ⟨g1, g2, e1, e2, h2⟩ := st 0 d g rfl h
    obtain ⟨g', e3, h3⟩ := forL_inv I ds (j + 1) g2 (fun i d g hd hi => by
      have e : j + 1 + i = j + (i + 1) := by omega
      rw [e] at hi ⊢
      exact st (i + 1) d g hd hi) h2
    refine ⟨g', ?_, ?_⟩
    · unfold forL
      rw [e1]
      rcases e2 with e2 | e2 <;> (simp only [e2]; exact e3)
    · have e : j + (d :: ds).length = j + 1 + ds.length := by rw [List.length_cons]; omega
      rw [e]; exact h3
theorem right_ok {n : Nat} {c : C} (h : FeedOk n c) (hn : n < 2 ^ 50) {bits : Int} (hb : bits = 1 ∨ bits = 2 ∨ bits = 3) : ∃ c' : C, F__law_right [c, .pu (.int bits)] = .ok (.pu (.bool true)) [some c', some (.pu (.int bits))] ∧ FeedOk (n + 5) c' := by
  have hb1 : 0 < bits := by omega
  have hb2 : bits < 2 ^ 62 := by omega
  have hbw : (1 : Int) ≤ bits ∧ bits ≤ 3 := by omega
  obtain ⟨r1, c1, e1, l1, u1, f1⟩ := draw_ok h (by omega) hb1 hb2
  obtain ⟨r2, c2, e2, l2, u2, f2⟩ := draw_ok f1 (by omega) hb1 hb2
  obtain ⟨r3, c3, e3, l3, u3, f3⟩ := draw_ok f2 (by omega) (many := 2) (by decide) (by decide)
  obtain ⟨r4, c4, e4, l4, u4, f4⟩ := draw_ok f3 (by omega) (many := 8) (by decide) (by decide)
  obtain ⟨r5, c5, e5, l5, u5, f5⟩ := draw_ok f4 (by omega) (many := 1 + r4) (by omega) (by omega)
  refine ⟨c5, ?_, f5⟩
  have hf : fn tb__law_right 4 = F__law_draw := rfl
  have s0 : evS tb__law_right sub0 b__law_right_0 (some c :: some (.pu (.int bits)) :: List.replicate 22 none) = .nx (env1 c3 bits (1 * 2 ^ bits.toNat) r1 r2 r3) := by
    simp [b__law_right_0, evS, ev, evA, evV, PL.bound, pBinX, pBinL, pBin, pShl, callF, resolve, putBack, hf, e1, e2, e3, asD, setTg, setTs, env1, hbw, lft, List.replicate, sizeLine_eq, show (0 : Int) ≤ bits by omega, show bits ≤ 1000 by omega]
  obtain ⟨g, eg, lg⟩ := sig_nx (mid1_all c3 bits r1 r2 r3 hb l1 u1 l2 u2 l3 u3)
  match g, lg with
  | [a1, a2, a3, a4, a5, a6, a7, a8, a9, a10, a11, a12, a13, a14, a15, a16, a17, a18, a19, a20, a21, a22, a23], _ =>
    have s12 : evS tb__law_right sub0 b__law_right_12 [some c3, a1, a2, a3, a4, a5, a6, a7, a8, a9, a10, a11, a12, a13, a14, a15, a16, a17, a18, a19, a20, a21, a22, a23] = .nx [some c4, a1, a2, a3, a4, a5, a6, a7, a8, a9, a10, a11, a12, a13, a14, a15, a16, some (.pu (.int (1 + r4))), a18, a19, a20, a21, a22, a23] := by
      simp [b__law_right_12, evS, ev, evA, evV, PL.bound, pBinX, pBinL, pBin, pAdd, callF, resolve, putBack, hf, e4, asD, lft]
    have s13 : evS tb__law_right sub0 b__law_right_13 [some c4, a1, a2, a3, a4, a5, a6, a7, a8, a9, a10, a11, a12, a13, a14, a15, a16, some (.pu (.int (1 + r4))), a18, a19, a20, a21, a22, a23] = .nx (env2 c5 (1 + r4) (1 + r5) a1 a2 a3 a4 a5 a6 a7 a8 a9 a10 a11 a12 a13 a14 a15 a16 a19 a20 a21 a22 a23) := by
      simp [b__law_right_13, evS, ev, evA, evV, PL.bound, pBinX, pBinL, pBin, pAdd, callF, resolve, putBack, hf, e5, asD, lft, env2]
    obtain ⟨g', eg', lg'⟩ := sig_rt (mid2_all c5 (1 + r4) (1 + r5) a1 a2 a3 a4 a5 a6 a7 a8 a9 a10 a11 a12 a13 a14 a15 a16 a19 a20 a21 a22 a23 (by omega) (by omega) (by omega) (by omega))
    have key : evSL tb__law_right sub0 b__law_right (some c :: some (.pu (.int bits)) :: List.replicate 22 none) = .rt (.pu (.bool true)) (some c5 :: g') := by
      have e0 : b__law_right = .cons b__law_right_0 (app mid1 (.cons b__law_right_12 (.cons b__law_right_13 mid2))) := rfl
      rw [e0]
      show (evS tb__law_right sub0 b__law_right_0 _).bind (evSL tb__law_right sub0 (app mid1 _)) = _
      rw [s0, RS.bind_nx, evSL_app, eg, RS.bind_nx]
      show (evS tb__law_right sub0 b__law_right_12 _).bind (evSL tb__law_right sub0 _) = _
      rw [s12, RS.bind_nx]
      show (evS tb__law_right sub0 b__law_right_13 _).bind (evSL tb__law_right sub0 _) = _
      rw [s13, RS.bind_nx, eg']
    match g', lg' with
    | o :: t, lt =>
      show runD tb__law_right sub0 24 [true, false] b__law_right [c, .pu (.int bits)] = _
      unfold runD
      have ek : ([c, .pu (.int bits)] : List C).map some ++ List.replicate (24 - [c, .pu (.int bits)].length) none = some c :: some (.pu (.int bits)) :: List.replicate 22 none := rfl
      rw [ek, key]
      simp [PL.argsOk, fixA]
def LI (ds : List PL.D) (k : Nat) (i : Nat) (g : PL.Env) : Prop := ∃ (c : C) (b : Option C), g = [some (.sl ds), some (.pu (.int k)), some c, b] ∧ FeedOk (10 * i) c

def ibody : SL := (.cons (.iff (.or (.cons (.not (.e (.call 0 (.io 2 (.cons (.var 3) .nil))))) (.one (.not (.e (.call 0 (.io 2 (.cons (.var 3) .nil)))))))) (.cons (.ret (.con (.bool false))) .nil) .nil) .nil)
def obody : SL := (.cons (.setF 2 (.call 1 (.io 0 (.cons (.var 1) .nil)))) (.cons (.for (.nm 3) (.val (.tup (.cons (.con (.int 1)) (.cons (.con (.int 2)) (.cons (.con (.int 3)) .nil))))) ibody) .nil))
theorem ibody_ok {ds : List PL.D} {k i : Nat} (hi : i < 3) {c : C} (h : FeedOk (10 * i) c) {bits : Int} (hb : bits = 1 ∨ bits = 2 ∨ bits = 3) : ∃ c' : C, evSL tb_law sub0 ibody [some (.sl ds), some (.pu (.int k)), some c, some (.pu (.int bits))] = .nx [some (.sl ds), some (.pu (.int k)), some c', some (.pu (.int bits))] ∧ FeedOk (10 * (i + 1)) c' := by
  have hr : fn tb_law 0 = F__law_right := rfl
  obtain ⟨c1, e1, f1⟩ := right_ok h (by omega) hb
  obtain ⟨c2, e2, f2⟩ := right_ok f1 (by omega) hb
  refine ⟨c2, ?_, f2.mono (by omega)⟩
  simp [ibody, evSL, evS, evT, evTO, ev, evV, PL.bound, callF, resolve, putBack, hr, e1, e2, asD, lft, pTru]
theorem obody_ok {ns : List Int} (k : Nat) (b cc : Option C) : ∃ b' c' : Option C, evSL tb_law sub0 obody [some (.sl (ns.map PySem.PyData.int)), some (.pu (.int k)), b, cc] = .nx [some (.sl (ns.map PySem.PyData.int)), some (.pu (.int k)), b', c'] := by
  have hf : fn tb_law 1 = F__law_feed := rfl
  obtain ⟨c, e, f⟩ := feed_ok ns k
  have f' := f
  obtain ⟨x, y, z, ec, _⟩ := f'
  have s1 : evS tb_law sub0 (.setF 2 (.call 1 (.io 0 (.cons (.var 1) .nil)))) [some (.sl (ns.map PySem.PyData.int)), some (.pu (.int k)), b, cc] = .nx [some (.sl (ns.map PySem.PyData.int)), some (.pu (.int k)), some c, cc] := by
    subst ec
    simp [evS, evF, ev, evV, PL.bound, callF, resolve, putBack, hf, e, asL, lft]
  obtain ⟨g', e3, c3, b3, e4, _⟩ := forL_inv (tg := .nm 3) (body := evSL tb_law sub0 ibody) (LI (ns.map PySem.PyData.int) k) [.int 1, .int 2, .int 3] 0 [some (.sl (ns.map PySem.PyData.int)), some (.pu (.int k)), some c, cc] (fun i d g hd ⟨c, b, eg, fo⟩ => by
    subst eg
    have hi : i < 3 := by have := (List.getElem?_eq_some_iff.mp hd).1; simpa using this
    obtain ⟨bits, rfl, hb⟩ : ∃ bits : Int, d = .int bits ∧ (bits = 1 ∨ bits = 2 ∨ bits = 3) := by
      match i, hd with
      | 0, hd => cases hd; exact ⟨1, rfl, .inl rfl⟩
      | 1, hd => cases hd; exact ⟨2, rfl, .inr (.inl rfl)⟩
      | 2, hd => cases hd; exact ⟨3, rfl, .inr (.inr rfl)⟩
    rw [Nat.zero_add] at fo
    obtain ⟨c', e5, f5⟩ := ibody_ok (ds := ns.map PySem.PyData.int) (k := k) hi fo hb
    exact ⟨_, _, rfl, .inl e5, c', _, rfl, by rw [Nat.zero_add]; exact f5⟩) ⟨c, cc, rfl, f⟩
  subst e4
  refine ⟨some c3, b3, ?_⟩
  show (evS tb_law sub0 (.setF 2 (.call 1 (.io 0 (.cons (.var 1) .nil)))) _).bind (evSL tb_law sub0 (.cons (.for (.nm 3) (.val (.tup (.cons (.con (.int 1)) (.cons (.con (.int 2)) (.cons (.con (.int 3)) .nil))))) ibody) .nil)) = _
  rw [s1, RS.bind_nx]
  have hi : evI tb_law (.val (.tup (.cons (.con (.int 1)) (.cons (.con (.int 2)) (.cons (.con (.int 3)) .nil))))) [some (.sl (ns.map PySem.PyData.int)), some (.pu (.int k)), some c, cc] = .ok [.int 1, .int 2, .int 3] [some (.sl (ns.map PySem.PyData.int)), some (.pu (.int k)), some c, cc] := by
    simp [evI, ev, evA, pItems, lft, sizeLine_eq]
  rw [evSL_cons, evS_for, hi, R.andS_ok, e3, RS.bind_nx, evSL_nil]
theorem law_true (ns : List Int) (h : ns.length ≤ 63) : ∃ as, F_law [.sl (ns.map PySem.PyData.int)] = .ok (.pu (.bool true)) as := by
  obtain ⟨m, hm, hi⟩ : ∃ m : Int, 1 ≤ m ∧ m ≤ 3 ∧ evI tb_law (.rng1 (.bi .max2 (.cons (.con (.int 1)) (.cons (.bi .min2 (.cons (.lenX 0) (.cons (.con (.int 3)) .nil))) .nil)))) [some (.sl (ns.map PySem.PyData.int)), none, none, none] = .ok (rngL 0 m) [some (.sl (ns.map PySem.PyData.int)), none, none, none] := by
    refine ⟨if (if (3 : Int) < ns.length then 3 else (ns.length : Int)) > 1 then (if (3 : Int) < ns.length then 3 else (ns.length : Int)) else 1, ?_, ?_, ?_⟩
    · split <;> omega
    · split <;> split <;> omega
    · have hr : rngOk (if (if (3 : Int) < ns.length then 3 else (ns.length : Int)) > 1 then (if (3 : Int) < ns.length then 3 else (ns.length : Int)) else 1) = true := by
        unfold rngOk
        rw [decide_eq_true_eq]
        split <;> split <;> omega
      simp only [evI, ev, evA, List.getElem?_cons_zero, List.length_map, R.bind_ok, pBi, lft, pRng1, hr, if_true]
  obtain ⟨hm1, hi⟩ := hi
  obtain ⟨g', e1, b', c', d', e2⟩ := forL_inv (tg := .nm 1) (body := evSL tb_law sub0 obody) (fun _ g => ∃ a b c : Option C, g = [some (.sl (ns.map PySem.PyData.int)), a, b, c]) (rngL 0 m) 0 [some (.sl (ns.map PySem.PyData.int)), none, none, none] (fun i d g hd ⟨a, b, c, eg⟩ => by
    subst eg
    obtain ⟨k, rfl⟩ : ∃ k : Nat, d = .int k := by
      unfold rngL at hd
      rw [List.getElem?_map] at hd
      cases z : (List.range (m - 0).toNat)[i]? with
      | none => rw [z] at hd; cases hd
      | some j => rw [z] at hd; cases hd; exact ⟨j, by simp⟩
    obtain ⟨b', c', e⟩ := obody_ok (ns := ns) k b c
    exact ⟨_, _, rfl, .inl e, _, _, _, rfl⟩) ⟨_, _, _, rfl⟩
  subst e2
  refine ⟨[some (.sl (ns.map PySem.PyData.int))], ?_⟩
  have key : evSL tb_law sub0 b_law [some (.sl (ns.map PySem.PyData.int)), none, none, none] = .rt (.pu (.bool true)) [some (.sl (ns.map PySem.PyData.int)), b', c', d'] := by
    have eb : b_law = .cons (.for (.nm 1) (.rng1 (.bi .max2 (.cons (.con (.int 1)) (.cons (.bi .min2 (.cons (.lenX 0) (.cons (.con (.int 3)) .nil))) .nil)))) obody) (.cons b_law_1 .nil) := rfl
    rw [eb, evSL_cons, evS_for, hi, R.andS_ok, e1, RS.bind_nx]
    rfl
  show runD tb_law sub0 4 [true] b_law [.sl (ns.map PySem.PyData.int)] = _
  unfold runD
  have ek : ([.sl (ns.map PySem.PyData.int)] : List C).map some ++ List.replicate (4 - ([.sl (ns.map PySem.PyData.int)] : List C).length) none = [some (.sl (ns.map PySem.PyData.int)), none, none, none] := rfl
  rw [ek, key]
  simp [PL.argsOk, fixA]
end LW
namespace LW
open PySem PySem.Spec PyProof.Rows L2 PL
abbrev R : PySem.W.OpenRow := PySem.W.OpenLaw.row PySem.Challenge.rw_behindeachlot_k65_whole_lines_stuck_join
def dpt : Nat := 4
abbrev hk : PySem.W.Hook := He.hookD dpt fas dfs
def ob (s : PySem.W.SharedT) : He.AlD := He.obsDG dpt fas dfs (HandSHeadRun.getT s)
theorem ob_eq (s : PySem.W.SharedT) : ob s = hk.obs s.abs := He.obsDG_eq (HandSHeadRun.getT_eq s)
def loose : List PySem.Str := (["StoreError", "BadNumber", "MOST_NAMES", "MOST_SPARE", "is_integer", "need_number", "is_lot_form", "is_wiring_form", "plain", "led_by", "with_bit", "stuck_line", "joined_lines", "drifting_line", "banks", "is_wiring", "_law_feed", "_law_draw", "_law_one", "_law_same", "_law_mixed", "_law_figures", "_law_number", "_law_led", "_law_put", "_law_right"] : List PySem.Str)
theorem run (w : World) : HandSHeadRun.RunEq R (PySem.W.view R.prog [31]) hk ob 20000 loose w := by
  intro os
  kernel_rfl
end LW
open PySem PySem.W PySem.Calls PyProof.Rows
theorem PySem.Challenge.cw_behindeachlot_k65_whole_lines_stuck_join_holds : PySem.Challenge.rw_behindeachlot_k65_whole_lines_stuck_join.Holds := by
  w_on; o_law
  refine HandSHeadRun.head_any (r := OpenLaw.row PySem.Challenge.rw_behindeachlot_k65_whole_lines_stuck_join) (q := view (OpenLaw.row PySem.Challenge.rw_behindeachlot_k65_whole_lines_stuck_join).prog [31]) (H := LW.hk) (ob := LW.ob) (M := 20000) (loose := LW.loose) (d := HandSHeadRun.topDef (OpenLaw.row PySem.Challenge.rw_behindeachlot_k65_whole_lines_stuck_join).prog 31) (kwd := []) LW.ob_eq
    (by kernel_rfl) (fun s => by kernel_rfl) LW.run (by kernel_rfl) (by kernel_rfl) (by kernel_rfl) (by rfl) (by first | assumption | decide +kernel) (by decide +kernel) ⟨rfl, rfl, rfl, rfl, rfl, by decide +kernel⟩ ?hw ?hc
  case hw => w_witness2
  case hc =>
    refine L2.walk_ofE (l := PySem.Challenge.rw_behindeachlot_k65_whole_lines_stuck_join) (n := 63) (k := 14) (x := "script") (CX := L2.CX0) rfl (by decide) (by kernel_rfl) ⟨rfl, by decide, by decide⟩ ?F (fun _ _ _ _ z => z)
    intro w mg fa h Y G hmg0
    obtain ⟨K, KX, c⟩ := Y
    have hmg : mg ("law" : PySem.Str) = some (.ref fa) := by
      have e : (HandSHeadRun.topDef (OpenLaw.row PySem.Challenge.rw_behindeachlot_k65_whole_lines_stuck_join).prog 31).name = ("law" : PySem.Str) := by kernel_rfl
      rw [← e]
      exact hmg0
    obtain ⟨fd, hb, hF⟩ := LW.facts (P := (PySem.Challenge.rw_behindeachlot_k65_whole_lines_stuck_join).prog) (w := w) KX G hmg c
    exact ⟨K, fd, fun vs H Q _ => PL.spF K mg 1 LW.F_law vs H Q fun _ _ _ => False, KX, hb, fun H a ns hl hO hS => by
      obtain ⟨as, e⟩ := LW.law_true ns hl
      exact PL.sp_law hO hS e, hF⟩
