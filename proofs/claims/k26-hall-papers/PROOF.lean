import PyProof.Rows.All
import Wide.All
import OpenK.AllK
import Wide.FinOn
import HandS.ForMost
import HandS.TupAny
import HandS.TupLe
import HandS.IsInst
import HandS.Conv
import HandS.Flow
import HandS.Style
import HandS.TupMul
import HandS.Text
import HandS.Deep
import HandS.Defaults
import HandS.Zip
import HandS.SortInts
import HandS.DictComp
import HandS.More
import HandS.SetFor
import HandS.Strs
import PyProof.Rows.BitMore
import KE.KStateDown
import HandS.Ends
import HandS.WordsExc
import HandS.Head0
import HandS.Head1
import HandS.Head2
import HandS.HeadEnd
import HandS.HeadHook1
import HandS.HeadHook2
import PySem.Challenge.RW_meetsandjoins_k26_whole_hall_papers
set_option Elab.async false
set_option linter.all false
set_option maxRecDepth 100000
/-! XL1: values without addresses, a memory of cells, readings over them. -/
namespace XL
open PySem L2

/-! ### values, cells -/
inductive A where
  | non | bl (b : Bool) | int (i : Int) | str (s : Str) | tup (xs : List A) | ref (k : Nat) | frl (xs : List A) | ty (n : String)
instance : Inhabited A := ⟨.non⟩
inductive Cell where
  | lst (xs : List A)
  | dk (kvs : List (Key × A))
  | lk (o : Obj) (ws : List (Key × V)) (kvs : List (Key × A))
  | dt (kvs : List (List Key × A))
  | ins (C : Addr) (fs : List (Str × A))
abbrev Mem := List Cell
abbrev AEnv := List (Option A)

/-! ### what stands for what -/
def Stb : HO → Prop
  | .tup _ => True
  | .frz _ (.lst _) => True
  | .frz _ (.tup _) => True
  | _ => False
/-- a list that never changes -/
def FL (K : PySem.W.Frag) (H : Hp) (a : Addr) (xs : List V) : Prop :=
  (∃ o, H a = some (.frz o (.lst xs))) ∨
    ∃ (o : Obj) (its : Array Value) (n : Nat), K.lookup a = some o ∧ o.cls = .type "list" ∧ o.dict = none ∧ o.data = .seq its n ∧ its.size ≤ sizeLine ∧ Vals xs its.toList
theorem FL.sq {K : PySem.W.Frag} {H : Hp} {a : Addr} {xs : List V} (h : FL K H a xs) : SqL K H a xs := by
  rcases h with ⟨o, h⟩ | h
  · exact .inl (.inr ⟨o, h⟩)
  · exact .inr h
mutual
inductive RV (K : PySem.W.Frag) (H : Hp) (β : List Addr) : V → A → Prop
  | non : RV K H β .non .non
  | bl (b : Bool) : RV K H β (.bl b) (.bl b)
  | int (i : Int) : RV K H β (.int i) (.int i)
  | str (x : Str) : RV K H β (.str x) (.str x)
  | tup {a : Addr} {xs : List V} {ds : List A} : SqT K H a xs → RVs K H β xs ds → RV K H β (.ref a) (.tup ds)
  | ref {k : Nat} {a : Addr} : β[k]? = some a → RV K H β (.ref a) (.ref k)
  | frl {a : Addr} {xs : List V} {ds : List A} : FL K H a xs → RVs K H β xs ds → RV K H β (.ref a) (.frl ds)
  | ty (n : String) : RV K H β (.ty n) (.ty n)
inductive RVs (K : PySem.W.Frag) (H : Hp) (β : List Addr) : List V → List A → Prop
  | nil : RVs K H β [] []
  | cons {v : V} {vs : List V} {d : A} {ds : List A} : RV K H β v d → RVs K H β vs ds → RVs K H β (v :: vs) (d :: ds)
end

structure Le (H : Hp) (β : List Addr) (H' : Hp) (β' : List Addr) : Prop where
  fr : ∀ a u, H a = some u → a ∉ β → H' a = some u
  tx : ∀ a u, H a = some u → Stb u → H' a = some u
  pre : ∃ g, β' = β ++ g
  nw : ∀ a, a ∈ β' → a ∉ β → H a = none
theorem Le.refl (H : Hp) (β : List Addr) : Le H β H β := ⟨fun _ _ h _ => h, fun _ _ h _ => h, ⟨[], by simp⟩, fun _ h n => absurd h n⟩
theorem Le.trans {H H1 H2 : Hp} {β β1 β2 : List Addr} (a : Le H β H1 β1) (b : Le H1 β1 H2 β2) : Le H β H2 β2 where
  fr := fun x u h n => by
    refine b.fr x u (a.fr x u h n) fun m => ?_
    have := a.nw x m n
    rw [h] at this; cases this
  tx := fun x u h s => b.tx x u (a.tx x u h s) s
  pre := by
    obtain ⟨g, e⟩ := a.pre
    obtain ⟨g', e'⟩ := b.pre
    exact ⟨g ++ g', by rw [e', e, List.append_assoc]⟩
  nw := fun x m n => by
    by_cases h : x ∈ β1
    · exact a.nw x h n
    · have := b.nw x m h
      cases q : H x with
      | none => rfl
      | some u =>
        rw [a.fr x u q n] at this
        cases this
theorem Le.get {H H' : Hp} {β β' : List Addr} (a : Le H β H' β') {k : Nat} {p : Addr} (h : β[k]? = some p) : β'[k]? = some p := by
  obtain ⟨g, rfl⟩ := a.pre
  have hk : k < β.length := (List.getElem?_eq_some_iff.mp h).1
  rw [List.getElem?_append_left hk]
  exact h
/-- what readings lean on -/
structure Ler (H : Hp) (β : List Addr) (H' : Hp) (β' : List Addr) : Prop where
  tx : ∀ a u, H a = some u → Stb u → H' a = some u
  get : ∀ (k : Nat) (p : Addr), β[k]? = some p → β'[k]? = some p
theorem Le.r {H H' : Hp} {β β' : List Addr} (a : Le H β H' β') : Ler H β H' β' := ⟨a.tx, fun _ _ => a.get⟩
theorem Ler.more (H : Hp) (β g : List Addr) : Ler H β H (β ++ g) := ⟨fun _ _ h _ => h, fun k p h => by
  have hk : k < β.length := (List.getElem?_eq_some_iff.mp h).1
  rw [List.getElem?_append_left hk]
  exact h⟩
theorem Ler.sqt {K : PySem.W.Frag} {H H' : Hp} {β β' : List Addr} (L : Ler H β H' β') {a : Addr} {xs : List V} (h : SqT K H a xs) : SqT K H' a xs := by
  rcases h with (h | ⟨o, h⟩) | h
  · exact .inl (.inl (L.tx _ _ h trivial))
  · exact .inl (.inr ⟨o, L.tx _ _ h trivial⟩)
  · exact .inr h
theorem Ler.fl {K : PySem.W.Frag} {H H' : Hp} {β β' : List Addr} (L : Ler H β H' β') {a : Addr} {xs : List V} (h : FL K H a xs) : FL K H' a xs := by
  rcases h with ⟨o, h⟩ | h
  · exact .inl ⟨o, L.tx _ _ h trivial⟩
  · exact .inr h
section
variable {K : PySem.W.Frag} {H H' : Hp} {β β' : List Addr}
mutual
theorem RV.mono (L : Ler H β H' β') : ∀ {v : V} {d : A}, RV K H β v d → RV K H' β' v d
  | _, _, .non => .non
  | _, _, .bl b => .bl b
  | _, _, .int i => .int i
  | _, _, .str x => .str x
  | _, _, .tup h r => .tup (L.sqt h) (RVs.mono L r)
  | _, _, .ref h => .ref (L.get _ _ h)
  | _, _, .frl h r => .frl (L.fl h) (RVs.mono L r)
  | _, _, .ty n => .ty n
theorem RVs.mono (L : Ler H β H' β') : ∀ {vs : List V} {ds : List A}, RVs K H β vs ds → RVs K H' β' vs ds
  | _, _, .nil => .nil
  | _, _, .cons h r => .cons (RV.mono L h) (RVs.mono L r)
end
theorem RVs.length : ∀ {vs : List V} {ds : List A}, RVs K H β vs ds → vs.length = ds.length
  | _, _, .nil => rfl
  | _, _, .cons _ r => congrArg (· + 1) (RVs.length r)
theorem RVs.get : ∀ {vs : List V} {ds : List A} {i : Nat} {v : V}, RVs K H β vs ds → vs[i]? = some v → ∃ d, ds[i]? = some d ∧ RV K H β v d
  | _, _, i, _, .nil, e => by simp at e
  | _, _, 0, _, .cons h _, e => by simp at e; subst e; exact ⟨_, rfl, h⟩
  | _, _, i + 1, _, .cons _ r, e => by
    obtain ⟨d, e1, h⟩ := RVs.get (i := i) r (by simpa using e)
    exact ⟨d, by simpa using e1, h⟩
theorem RVs.getD : ∀ {vs : List V} {ds : List A} {i : Nat} {d : A}, RVs K H β vs ds → ds[i]? = some d → ∃ v, vs[i]? = some v ∧ RV K H β v d
  | _, _, i, _, .nil, e => by simp at e
  | _, _, 0, _, .cons h _, e => by simp at e; subst e; exact ⟨_, rfl, h⟩
  | _, _, i + 1, _, .cons _ r, e => by
    obtain ⟨d, e1, h⟩ := RVs.getD (i := i) r (by simpa using e)
    exact ⟨d, by simpa using e1, h⟩
theorem RVs.append : ∀ {xs ys : List V} {as bs : List A}, RVs K H β xs as → RVs K H β ys bs → RVs K H β (xs ++ ys) (as ++ bs)
  | _, _, _, _, .nil, s => s
  | _, _, _, _, .cons r t, s => .cons r (RVs.append t s)
theorem RVs.set : ∀ {xs : List V} {as : List A} (i : Nat) {v : V} {d : A}, RVs K H β xs as → RV K H β v d → RVs K H β (xs.set i v) (as.set i d)
  | _, _, _, _, _, .nil, _ => .nil
  | _, _, 0, _, _, .cons _ t, q => .cons q t
  | _, _, i + 1, _, _, .cons r t, q => .cons r (RVs.set i t q)
theorem RVs.take : ∀ {xs : List V} {as : List A} (n : Nat), RVs K H β xs as → RVs K H β (xs.take n) (as.take n)
  | _, _, 0, _ => .nil
  | _, _, _ + 1, .nil => .nil
  | _, _, n + 1, .cons r t => .cons r (RVs.take n t)
theorem RVs.drop : ∀ {xs : List V} {as : List A} (n : Nat), RVs K H β xs as → RVs K H β (xs.drop n) (as.drop n)
  | _, _, 0, r => r
  | _, _, _ + 1, .nil => .nil
  | _, _, n + 1, .cons _ t => RVs.drop n t
theorem RVs.reverse {xs : List V} {as : List A} (h : RVs K H β xs as) : RVs K H β xs.reverse as.reverse := by
  induction xs generalizing as with
  | nil => cases h; exact .nil
  | cons x xs ih =>
    cases h with
    | cons r t =>
      rw [List.reverse_cons, List.reverse_cons]
      exact (ih t).append (.cons r .nil)
theorem RVs.ints : ∀ (ns : List Int), RVs K H β (ns.map V.int) (ns.map A.int)
  | [] => .nil
  | n :: ns => .cons (.int n) (RVs.ints ns)
theorem RVs.of_ints : ∀ {ns : List Int} {vs : List V}, RVs K H β vs (ns.map A.int) → vs = ns.map V.int
  | [], _, h => by cases h; rfl
  | n :: ns, _, h => by
    cases h with
    | cons r t =>
      cases r
      rw [RVs.of_ints t]
      rfl
theorem RVs.of_bls : ∀ {ns : List Bool} {vs : List V}, RVs K H β vs (ns.map A.bl) → vs = ns.map V.bl
  | [], _, h => by cases h; rfl
  | n :: ns, _, h => by
    cases h with
    | cons r t =>
      cases r
      rw [RVs.of_bls t]
      rfl
end

/-- pairs of keys and values -/
inductive RKs {κ : Type} (K : PySem.W.Frag) (H : Hp) (β : List Addr) : List (κ × V) → List (κ × A) → Prop
  | nil : RKs K H β [] []
  | cons {k : κ} {v : V} {d : A} {vs : List (κ × V)} {ds : List (κ × A)} : RV K H β v d → RKs K H β vs ds → RKs K H β ((k, v) :: vs) ((k, d) :: ds)
theorem RKs.mono {κ : Type} {K : PySem.W.Frag} {H H' : Hp} {β β' : List Addr} (L : Ler H β H' β') : ∀ {vs : List (κ × V)} {ds : List (κ × A)}, RKs K H β vs ds → RKs K H' β' vs ds
  | _, _, .nil => .nil
  | _, _, .cons h r => .cons (h.mono L) (RKs.mono L r)
theorem RKs.length {κ : Type} {K : PySem.W.Frag} {H : Hp} {β : List Addr} : ∀ {vs : List (κ × V)} {ds : List (κ × A)}, RKs K H β vs ds → vs.length = ds.length
  | _, _, .nil => rfl
  | _, _, .cons _ r => congrArg (· + 1) (RKs.length r)

def CellOk (K : PySem.W.Frag) (H : Hp) (β : List Addr) (a : Addr) : Cell → Prop
  | .lst ds => ∃ vs, H a = some (.lst vs) ∧ RVs K H β vs ds
  | .dk kvs => ∃ ws, H a = some (.dK ws) ∧ RKs K H β ws kvs
  | .lk o ws kvs => H a = some (.frz o (.dK ws)) ∧ RKs K H β ws kvs
  | .dt kvs => ∃ ws, H a = some (.dT ws) ∧ RKs K H β ws kvs
  | .ins C fs => ∃ dx ws, H a = some (.ins C dx ws) ∧ RKs K H β ws fs
structure Mst (K : PySem.W.Frag) (H : Hp) (β : List Addr) (μ : Mem) : Prop where
  len : β.length = μ.length
  nd : β.Nodup
  ok : ∀ (k : Nat) (c : Cell) (a : Addr), μ[k]? = some c → β[k]? = some a → CellOk K H β a c
/-- a frame: each name that has a value here has it there -/
structure Fr (K : PySem.W.Frag) (σ : L2.St) (H : Hp) (β : List Addr) (ρ : AEnv) : Prop where
  len : σ.length = ρ.length
  ok : ∀ (i : Nat) (d : A), ρ[i]? = some (some d) → ∃ v, σ[i]? = some (some v) ∧ RV K H β v d
section
variable {K : PySem.W.Frag} {H H' : Hp} {β β' : List Addr} {μ : Mem} {σ : L2.St} {ρ : AEnv}
theorem CellOk.there {a : Addr} {c : Cell} (h : CellOk K H β a c) : ∃ u, H a = some u := by
  cases c with
  | lst ds => obtain ⟨_, e, _⟩ := h; exact ⟨_, e⟩
  | dk ds => obtain ⟨_, e, _⟩ := h; exact ⟨_, e⟩
  | lk o ws ds => obtain ⟨e, _⟩ := h; exact ⟨_, e⟩
  | dt ds => obtain ⟨_, e, _⟩ := h; exact ⟨_, e⟩
  | ins C fs => obtain ⟨_, _, e, _⟩ := h; exact ⟨_, e⟩
theorem CellOk.mono (L : Ler H β H' β') {a : Addr} {c : Cell} (h : CellOk K H β a c) (e : H' a = H a) : CellOk K H' β' a c := by
  cases c with
  | lst ds => obtain ⟨_, q, r⟩ := h; exact ⟨_, e.trans q, r.mono L⟩
  | dk ds => obtain ⟨_, q, r⟩ := h; exact ⟨_, e.trans q, r.mono L⟩
  | lk o ws ds => obtain ⟨q, r⟩ := h; exact ⟨e.trans q, r.mono L⟩
  | dt ds => obtain ⟨_, q, r⟩ := h; exact ⟨_, e.trans q, r.mono L⟩
  | ins C fs => obtain ⟨_, _, q, r⟩ := h; exact ⟨_, _, e.trans q, r.mono L⟩
theorem Mst.at (M : Mst K H β μ) {k : Nat} {c : Cell} (h : μ[k]? = some c) : ∃ a, β[k]? = some a ∧ CellOk K H β a c := by
  have hk : k < μ.length := (List.getElem?_eq_some_iff.mp h).1
  have hb : k < β.length := by rw [M.len]; exact hk
  exact ⟨β[k], List.getElem?_eq_getElem hb, M.ok k c _ h (List.getElem?_eq_getElem hb)⟩
theorem Mst.there (M : Mst K H β μ) {a : Addr} (h : a ∈ β) : ∃ u, H a = some u := by
  obtain ⟨k, hk, e⟩ := List.mem_iff_getElem.mp h
  have hm : k < μ.length := by rw [← M.len]; exact hk
  exact (M.ok k μ[k] a (List.getElem?_eq_getElem hm) (by rw [List.getElem?_eq_getElem hk, e])).there
theorem Mst.fresh (M : Mst K H β μ) {p : Addr} (h : H p = none) : p ∉ β := fun m => by
  obtain ⟨u, e⟩ := M.there m
  rw [h] at e; cases e
theorem Fr.mono (F : Fr K σ H β ρ) (L : Ler H β H' β') : Fr K σ H' β' ρ := ⟨F.len, fun i d h => by
  obtain ⟨v, e, r⟩ := F.ok i d h
  exact ⟨v, e, r.mono L⟩⟩
theorem Fr.set (F : Fr K σ H β ρ) {v : V} {d : A} (r : RV K H β v d) (i : Nat) : Fr K (σ.set i (some v)) H β (ρ.set i (some d)) := by
  refine ⟨by rw [List.length_set, List.length_set]; exact F.len, fun j e h => ?_⟩
  by_cases hj : i = j
  · subst hj
    rw [List.getElem?_set] at h
    simp only [if_true] at h
    split at h
    · rename_i hl
      cases h
      refine ⟨v, ?_, r⟩
      rw [List.getElem?_set_self (by rw [F.len]; exact hl)]
    · cases h
  · rw [List.getElem?_set_ne hj] at h
    rw [List.getElem?_set_ne hj]
    exact F.ok j e h
/-- a new object that is no cell -/
theorem Le.push {p : Addr} {u : HO} (M : Mst K H β μ) (h : H p = none) : Le H β (upd H p u) β where
  fr := fun a o e _ => by rw [upd_ne (ne_of_none e h)]; exact e
  tx := fun a o e _ => by rw [upd_ne (ne_of_none e h)]; exact e
  pre := ⟨[], by simp⟩
  nw := fun a m n => absurd m n
theorem Mst.keep (M : Mst K H β μ) (L : Le H β H' β) (e : ∀ a, a ∈ β → H' a = H a) : Mst K H' β μ :=
  ⟨M.len, M.nd, fun k c a h1 h2 => (M.ok k c a h1 h2).mono L.r (e a (List.mem_of_getElem? h2))⟩
theorem Mst.push {p : Addr} {u : HO} (M : Mst K H β μ) (h : H p = none) : Mst K (upd H p u) β μ :=
  M.keep (Le.push M h) fun a m => upd_ne fun e => M.fresh h (e ▸ m)
/-- a new cell -/
theorem Le.cell {p : Addr} {u : HO} (M : Mst K H β μ) (h : H p = none) : Le H β (upd H p u) (β ++ [p]) where
  fr := fun a o e _ => by rw [upd_ne (ne_of_none e h)]; exact e
  tx := fun a o e _ => by rw [upd_ne (ne_of_none e h)]; exact e
  pre := ⟨[p], rfl⟩
  nw := fun a m n => by
    rcases List.mem_append.mp m with m | m
    · exact absurd m n
    · rw [List.mem_singleton.mp m]; exact h
/-- an object that stands becomes a cell -/
theorem Le.own {p : Addr} (M : Mst K H β μ) {H0 : Hp} {β0 : List Addr} (L : Le H0 β0 H β) (h : H0 p = none) : Le H0 β0 H (β ++ [p]) where
  fr := L.fr
  tx := L.tx
  pre := by
    obtain ⟨g, e⟩ := L.pre
    exact ⟨g ++ [p], by rw [e, List.append_assoc]⟩
  nw := fun a m n => by
    rcases List.mem_append.mp m with m | m
    · exact L.nw a m n
    · rw [List.mem_singleton.mp m]; exact h
theorem Le.more (β g : List Addr) (hg : ∀ a, a ∈ g → a ∉ β → H a = none) : Le H β H (β ++ g) := ⟨fun _ _ h _ => h, fun _ _ h _ => h, ⟨g, rfl⟩, fun a m n => by
  rcases List.mem_append.mp m with m | m
  · exact absurd m n
  · exact hg a m n⟩
theorem Mst.cell {p : Addr} {c : Cell} (M : Mst K H β μ) (hn : p ∉ β) (hc : CellOk K H (β ++ [p]) p c) : Mst K H (β ++ [p]) (μ ++ [c]) := by
  refine ⟨by simp [M.len], ?_, fun k c' a h1 h2 => ?_⟩
  · rw [List.nodup_append]
    refine ⟨M.nd, by simp, fun a ha b hb => ?_⟩
    rw [List.mem_singleton.mp hb]
    exact fun e => hn (e ▸ ha)
  · by_cases hk : k < μ.length
    · rw [List.getElem?_append_left hk] at h1
      rw [List.getElem?_append_left (by rw [M.len]; exact hk)] at h2
      exact (M.ok k c' a h1 h2).mono (Ler.more H β [p]) rfl
    · have hk' : k = μ.length := by
        have := (List.getElem?_eq_some_iff.mp h1).1
        simp at this
        omega
      subst hk'
      rw [List.getElem?_append_right (Nat.le_refl _)] at h1
      rw [List.getElem?_append_right (by rw [M.len]; exact Nat.le_refl _)] at h2
      simp only [M.len, Nat.sub_self, List.getElem?_cons_zero, Option.some.injEq] at h1 h2
      subst h1 h2
      exact hc
/-- a cell is changed -/
theorem Le.put {k : Nat} {a : Addr} {c : Cell} {u : HO} (M : Mst K H β μ) (hm : μ[k]? = some c) (hb : β[k]? = some a) (hs : ∀ o, H a = some o → ¬ Stb o) : Le H β (upd H a u) β where
  fr := fun b o e n => by rw [upd_ne (show b ≠ a from fun z => n (by rw [z]; exact List.mem_of_getElem? hb))]; exact e
  tx := fun b o e s => by rw [upd_ne (show b ≠ a from fun z => hs o (by rw [← z]; exact e) s)]; exact e
  pre := ⟨[], by simp⟩
  nw := fun a m n => absurd m n
theorem Mst.put {k : Nat} {a : Addr} {c c' : Cell} {u : HO} (M : Mst K H β μ) (hm : μ[k]? = some c) (hb : β[k]? = some a) (hs : ∀ o, H a = some o → ¬ Stb o) (hc : CellOk K (upd H a u) β a c') : Mst K (upd H a u) β (μ.set k c') := by
  refine ⟨by rw [List.length_set]; exact M.len, M.nd, fun j d b h1 h2 => ?_⟩
  by_cases hj : k = j
  · subst hj
    have hk : k < μ.length := (List.getElem?_eq_some_iff.mp hm).1
    rw [List.getElem?_set_self hk] at h1
    rw [hb] at h2
    cases h1; cases h2
    exact hc
  · rw [List.getElem?_set_ne hj] at h1
    refine (M.ok j d b h1 h2).mono (Le.put (u := u) M hm hb hs).r (upd_ne fun e => ?_)
    subst e
    obtain ⟨hi1, e1⟩ := List.getElem?_eq_some_iff.mp hb
    obtain ⟨hi2, e2⟩ := List.getElem?_eq_some_iff.mp h2
    exact hj ((List.getElem_inj M.nd).mp (e1.trans e2.symm))
theorem CellOk.lst_ns {a : Addr} {ds : List A} (h : CellOk K H β a (.lst ds)) : ∀ o, H a = some o → ¬ Stb o := by
  obtain ⟨vs, e, _⟩ := h
  intro o q
  rw [e] at q; cases q
  exact fun z => z
theorem CellOk.dk_ns {a : Addr} {ds : List (Key × A)} (h : CellOk K H β a (.dk ds)) : ∀ o, H a = some o → ¬ Stb o := by
  obtain ⟨vs, e, _⟩ := h
  intro o q
  rw [e] at q; cases q
  exact fun z => z
theorem CellOk.lk_ns {a : Addr} {o : Obj} {ws : List (Key × V)} {ds : List (Key × A)} (h : CellOk K H β a (.lk o ws ds)) : ∀ o, H a = some o → ¬ Stb o := by
  obtain ⟨e, _⟩ := h
  intro o q
  rw [e] at q; cases q
  exact fun z => z
theorem CellOk.ins_ns {a C : Addr} {ds : List (Str × A)} (h : CellOk K H β a (.ins C ds)) : ∀ o, H a = some o → ¬ Stb o := by
  obtain ⟨_, vs, e, _⟩ := h
  intro o q
  rw [e] at q; cases q
  exact fun z => z
end
end XL

/-! XL2: readings over values and a memory; expressions. -/
namespace XL
open PySem L2

abbrev AK := A → Mem → Prop
abbrev ATE := AEnv → Mem → AK → Prop
abbrev ATT := AEnv → Mem → (Bool → Mem → Prop) → Prop
abbrev ATA := AEnv → Mem → (List A → Mem → Prop) → Prop
structure AEnds where
  nx : AEnv → Mem → Prop
  rt : AK
  bk : AEnv → Mem → Prop := fun _ _ => False
  ct : AEnv → Mem → Prop := fun _ _ => False
abbrev ATS := AEnds → AEnv → Mem → Prop

section
variable (K : PySem.W.Frag)
/-- what a value's continuation promises, from (H, β) on -/
def Kn (H : Hp) (β : List Addr) (Q : AK) (P : VK) : Prop := ∀ v H' β' d μ', Le H β H' β' → Mst K H' β' μ' → RV K H' β' v d → Q d μ' → P v H'
def KnB (H : Hp) (β : List Addr) (Q : Bool → Mem → Prop) (P : Bool → Hp → Prop) : Prop := ∀ b H' β' μ', Le H β H' β' → Mst K H' β' μ' → Q b μ' → P b H'
def KnA (H : Hp) (β : List Addr) (Q : List A → Mem → Prop) (P : List V → Hp → Prop) : Prop := ∀ vs H' β' ds μ', Le H β H' β' → Mst K H' β' μ' → RVs K H' β' vs ds → Q ds μ' → P vs H'
/-- a new list -/
def KnL (H : Hp) (β : List Addr) (Q : List A → Mem → Prop) (P : VK) : Prop := ∀ p H' β' vs ds μ', Le H β H' β' → Mst K H' β' μ' → H' p = some (.lst vs) → p ∉ β' → H p = none → RVs K H' β' vs ds → Q ds μ' → P (.ref p) H'
def tA (a : ATE) : TE := fun σ H P => ∃ β ρ μ Q, Fr K σ H β ρ ∧ Mst K H β μ ∧ a ρ μ Q ∧ Kn K H β Q P
def tAT (a : ATT) : TT := fun σ H P => ∃ β ρ μ Q, Fr K σ H β ρ ∧ Mst K H β μ ∧ a ρ μ Q ∧ KnB K H β Q P
def tAA (a : ATA) : TA := fun σ H P => ∃ β ρ μ Q, Fr K σ H β ρ ∧ Mst K H β μ ∧ a ρ μ Q ∧ KnA K H β Q P
def tAL (a : ATA) : TE := fun σ H P => ∃ β ρ μ Q, Fr K σ H β ρ ∧ Mst K H β μ ∧ a ρ μ Q ∧ KnL K H β Q P
structure SK (H : Hp) (β : List Addr) (D : AEnds) (D' : Ends) : Prop where
  nx : ∀ σ H' β' ρ μ, Le H β H' β' → Fr K σ H' β' ρ → Mst K H' β' μ → D.nx ρ μ → D'.nx σ H'
  rt : Kn K H β D.rt D'.rt
  bk : ∀ σ H' β' ρ μ, Le H β H' β' → Fr K σ H' β' ρ → Mst K H' β' μ → D.bk ρ μ → D'.bk σ H'
  ct : ∀ σ H' β' ρ μ, Le H β H' β' → Fr K σ H' β' ρ → Mst K H' β' μ → D.ct ρ μ → D'.ct σ H'
def tAS (a : ATS) : TS := fun D' σ H => ∃ β ρ μ D, Fr K σ H β ρ ∧ Mst K H β μ ∧ a D ρ μ ∧ SK K H β D D'
end
section
variable {K : PySem.W.Frag} {H H1 : Hp} {β β1 : List Addr}
theorem Kn.le {Q : AK} {P : VK} (k : Kn K H β Q P) (L : Le H β H1 β1) : Kn K H1 β1 Q P := fun v H' β' d μ' L' => k v H' β' d μ' (L.trans L')
theorem KnB.le {Q : Bool → Mem → Prop} {P : Bool → Hp → Prop} (k : KnB K H β Q P) (L : Le H β H1 β1) : KnB K H1 β1 Q P := fun v H' β' μ' L' => k v H' β' μ' (L.trans L')
theorem KnA.le {Q : List A → Mem → Prop} {P : List V → Hp → Prop} (k : KnA K H β Q P) (L : Le H β H1 β1) : KnA K H1 β1 Q P := fun v H' β' d μ' L' => k v H' β' d μ' (L.trans L')
theorem SK.le {D : AEnds} {D' : Ends} (k : SK K H β D D') (L : Le H β H1 β1) : SK K H1 β1 D D' :=
  ⟨fun σ H' β' ρ μ L' => k.nx σ H' β' ρ μ (L.trans L'), k.rt.le L, fun σ H' β' ρ μ L' => k.bk σ H' β' ρ μ (L.trans L'), fun σ H' β' ρ μ L' => k.ct σ H' β' ρ μ (L.trans L')⟩
theorem free_back {p : Addr} {β' : List Addr} (L : Le H β H1 β') (h : H1 p = none) (M : ∀ a, a ∈ β → a ∈ β' ∧ ∃ u, H1 a = some u) : H p = none := by
  cases e : H p with
  | none => rfl
  | some u =>
    by_cases m : p ∈ β
    · obtain ⟨_, u', e'⟩ := M p m
      rw [h] at e'; cases e'
    · rw [L.fr p u e m] at h; cases h
theorem Le.free {p : Addr} {μ : Mem} (L : Le H β H1 β1) (M : Mst K H1 β1 μ) (h : H1 p = none) : H p = none :=
  free_back L h fun a m => by
    obtain ⟨g, e⟩ := L.pre
    have m' : a ∈ β1 := by rw [e]; exact List.mem_append_left _ m
    exact ⟨m', M.there m'⟩
end
abbrev PEA (X : Cx) (e : Expr) (a : ATE) : Prop := PE X e (tA X.K a)
abbrev PTA (X : Cx) (e : Expr) (a : ATT) : Prop := PT X e (tAT X.K a)
abbrev PAA (X : Cx) (es : List Expr) (a : ATA) : Prop := PA X es (tAA X.K a)
abbrev PLA (X : Cx) (e : Expr) (a : ATA) : Prop := PE X e (tAL X.K a)
abbrev PSA (X : Cx) (st : Stmt) (a : ATS) : Prop := PS X st (tAS X.K a)
abbrev PSsA (X : Cx) (st : List Stmt) (a : ATS) : Prop := PSs X st (tAS X.K a)
theorem pe_imp {X : Cx} {e : Expr} {t t' : TE} (h : PE X e t) (i : ∀ σ H P, t' σ H P → t σ H P) : PE X e t' := ⟨fun pins s σ H Q I q => h.run pins s σ H Q I (i σ H Q q)⟩
theorem pt_imp {X : Cx} {e : Expr} {t t' : TT} (h : PT X e t) (i : ∀ σ H P, t' σ H P → t σ H P) : PT X e t' := ⟨fun pins s σ H Q I q => h.run pins s σ H Q I (i σ H Q q)⟩
theorem pw_imp {X : Cx} {e : Expr} {t t' : TT} (h : PW X e t) (i : ∀ σ H P, t' σ H P → t σ H P) : PW X e t' := ⟨fun wh pins s σ H Q I q => h.run wh pins s σ H Q I (i σ H Q q)⟩
theorem pa_imp {X : Cx} {e : List Expr} {t t' : TA} (h : PA X e t) (i : ∀ σ H P, t' σ H P → t σ H P) : PA X e t' := ⟨fun pos pins s σ H Q I q => h.run pos pins s σ H Q I (i σ H Q q)⟩
theorem ps_imp {X : Cx} {e : Stmt} {t t' : TS} (h : PS X e t) (i : ∀ D σ H, t' D σ H → t D σ H) : PS X e t' := ⟨fun pins s σ H D I q => h.run pins s σ H D I (i D σ H q)⟩
theorem pss_imp {X : Cx} {e : List Stmt} {t t' : TS} (h : PSs X e t) (i : ∀ D σ H, t' D σ H → t D σ H) : PSs X e t' := ⟨fun pins s σ H D I q => h.run pins s σ H D I (i D σ H q)⟩

/-! ### names, constants -/
def aVar (i : Nat) : ATE := fun ρ μ Q => match ρ[i]? with
  | some (some d) => Q d μ
  | _ => False
def aC (d : A) : ATE := fun _ μ Q => Q d μ
section
variable {X : Cx}
theorem kn_here {K : PySem.W.Frag} {H : Hp} {β : List Addr} {μ : Mem} {Q : AK} {P : VK} {v : V} {d : A} (k : Kn K H β Q P) (M : Mst K H β μ) (r : RV K H β v d) (q : Q d μ) : P v H := k v H β d μ (Le.refl H β) M r q
theorem xv (i : Nat) {x : Str} {pos : Pos} (hN : X.N[i]? = some x := by rfl) (hv : Vis X.env.scope x := by first | exact Or.inl rfl | exact Or.inr (Or.inl rfl) | exact Or.inr (Or.inr rfl)) (hd : (x == ("__debug__" : Str)) = false := by decide)
    (hcd : (x == ("__classdict__" : Str)) = false := by decide) : PEA X (.Name x pos) (aVar i) := pe_imp (pe_var hN hv hd hcd) fun σ H P ⟨β, ρ, μ, Q, F, M, h, k⟩ => by
  unfold aVar at h
  split at h
  · rename_i d e
    obtain ⟨v, e', r⟩ := F.ok i d e
    exact ⟨v, e', kn_here k M r h⟩
  · exact h.elim
theorem xc {e : Expr} {v : V} {d : A} (h : PE X e (tC v)) (r : ∀ K H β, RV K H β v d) : PEA X e (aC d) := pe_imp h fun σ H P ⟨β, ρ, μ, Q, F, M, h, k⟩ => kn_here k M (r _ _ _) h
theorem xe_int {i j pos} : PEA X (.Constant (.int i) j pos) (aC (.int i)) := xc pe_int fun _ _ _ => .int i
theorem xe_bl {i j pos} : PEA X (.Constant (.bool i) j pos) (aC (.bl i)) := xc pe_bl fun _ _ _ => .bl i
theorem xe_str {i j pos} : PEA X (.Constant (.str i) j pos) (aC (.str i)) := xc pe_str fun _ _ _ => .str i
theorem xe_non {j pos} : PEA X (.Constant .none j pos) (aC .non) := xc pe_non fun _ _ _ => .non
/-- a module's constant -/
theorem xe_gint {x : Str} {i : Int} {pos : Pos} (hg : Gl X x) (hm : ∃ t, X.mg x = some (.int i t)) (hd : (x == ("__debug__" : Str)) = false := by decide) : PEA X (.Name x pos) (aC (.int i)) := by
  obtain ⟨t, e⟩ := hm
  exact xc (v := .int i) (pe_glob hg e ⟨_, rfl⟩ hd) fun _ _ _ => .int i
theorem xe_gstr {x : Str} {z : Str} {pos : Pos} (hg : Gl X x) (hm : ∃ t, X.mg x = some (.str z t)) (hd : (x == ("__debug__" : Str)) = false := by decide) : PEA X (.Name x pos) (aC (.str z)) := by
  obtain ⟨t, e⟩ := hm
  exact xc (v := .str z) (pe_glob hg e ⟨_, rfl⟩ hd) fun _ _ _ => .str z
/-- a built-in class as a value -/
theorem xe_ty {x : Str} {n : String} {pos : Pos} (hg : Gl X x) (hm : X.mg x = none) (hv : bootBuiltins x = some (.type n)) (hn : x ≠ "__name__" := by decide) (hd : (x == ("__debug__" : Str)) = false := by decide) : PEA X (.Name x pos) (aC (.ty n)) :=
  xc (v := .ty n) (pe_bltn hg hm hv rfl hn hd) fun _ _ _ => .ty n

/-! ### two operands, one -/
abbrev AR2 := A → A → Mem → AK → Prop
def rA2 (K : PySem.W.Frag) (ra : AR2) : R2 := fun x y H P => ∃ β μ dx dy Q, Mst K H β μ ∧ RV K H β x dx ∧ RV K H β y dy ∧ ra dx dy μ Q ∧ Kn K H β Q P
def aOp (ra : AR2) (a b : ATE) : ATE := fun ρ μ Q => a ρ μ fun x μ1 => b ρ μ1 fun y μ2 => ra x y μ2 Q
theorem aOp_ok {K : PySem.W.Frag} {ra : AR2} {a b : ATE} (σ : L2.St) (H : Hp) (P : VK) (h : tA K (aOp ra a b) σ H P) : tOp (rA2 K ra) (tA K a) (tA K b) σ H P := by
  obtain ⟨β, ρ, μ, Q, F, M, h, k⟩ := h
  exact ⟨β, ρ, μ, _, F, M, h, fun v H1 β1 d μ1 L1 M1 r1 h1 => ⟨β1, ρ, μ1, _, F.mono L1.r, M1, h1, fun u H2 β2 e μ2 L2 M2 r2 h2 => ⟨β2, μ2, d, e, Q, M2, r1.mono L2.r, r2, h2, k.le (L1.trans L2)⟩⟩⟩
theorem xe_op {op : Operator} {ra : AR2} {a b : Expr} {ta tb : ATE} {pos : Pos} (ho : OpR X (binaryOp op) (rA2 X.K ra)) (ha : PEA X a ta) (hb : PEA X b tb) : PEA X (.BinOp a op b pos) (aOp ra ta tb) := pe_imp (pe_op ho ha hb) aOp_ok
theorem xe_cmp {op : CmpOp} {ra : AR2} {a b : Expr} {ta tb : ATE} {pos : Pos} (ho : OpR X (compareOp op) (rA2 X.K ra)) (ha : PEA X a ta) (hb : PEA X b tb) (hm : behindInMarks op b = false) : PEA X (.Compare a [op] [b] pos) (aOp ra ta tb) := pe_imp (pe_cmpR ho ha hb hm) aOp_ok
/-- a value that is a bool, as a test -/
def aTest (a : ATE) : ATT := fun ρ μ Q => a ρ μ fun d μ1 => match d with
  | .bl b => Q b μ1
  | _ => False
theorem RV.bl_inv {K : PySem.W.Frag} {H : Hp} {β : List Addr} {v : V} {b : Bool} (h : RV K H β v (.bl b)) : v = .bl b := by cases h; rfl
theorem RV.int_inv {K : PySem.W.Frag} {H : Hp} {β : List Addr} {v : V} {b : Int} (h : RV K H β v (.int b)) : v = .int b := by cases h; rfl
theorem RV.str_inv {K : PySem.W.Frag} {H : Hp} {β : List Addr} {v : V} {b : Str} (h : RV K H β v (.str b)) : v = .str b := by cases h; rfl
theorem aTest_ok {K : PySem.W.Frag} {a : ATE} {t : TE} (ht : ∀ σ H P, tA K a σ H P → t σ H P) (σ : L2.St) (H : Hp) (P : Bool → Hp → Prop) (h : tAT K (aTest a) σ H P) : t σ H fun x H' => ∃ k, x = .bl k ∧ P k H' := by
  obtain ⟨β, ρ, μ, Q, F, M, h, k⟩ := h
  refine ht _ _ _ ⟨β, ρ, μ, _, F, M, h, fun v H1 β1 d μ1 L1 M1 r1 h1 => ?_⟩
  cases d with
  | bl b => exact ⟨b, r1.bl_inv, k b H1 β1 μ1 L1 M1 h1⟩
  | _ => exact h1.elim
theorem xt_cmp {op : CmpOp} {ra : AR2} {a b : Expr} {ta tb : ATE} {pos : Pos} (ho : OpR X (compareOp op) (rA2 X.K ra)) (ha : PEA X a ta) (hb : PEA X b tb) (hm : behindInMarks op b = false) : PTA X (.Compare a [op] [b] pos) (aTest (aOp ra ta tb)) :=
  pt_imp (pt_cmpR ho ha hb hm) fun σ H P h => aTest_ok (fun _ _ _ => aOp_ok _ _ _) σ H P h
theorem xt_val {e : Expr} {t : ATE} (h : PEA X e t) (he : ∀ whole, isTrue e X.env whole = (do let v ← whole; standAt e.pos; holding [v] (truthy v)) := by intro _; rfl) : PTA X e (aTest t) :=
  pt_imp (pt_val h he) fun σ H P h => aTest_ok (fun _ _ _ h => h) σ H P h
/-- truth of a value -/
def truA (d : A) (μ : Mem) : Option Bool := match d with
  | .non => some false
  | .bl b => some b
  | .int i => some (i != 0)
  | .str s => if s.length ≤ sizeLine then some ((s.length : Int) != 0) else none
  | .tup xs => some (!xs.isEmpty)
  | .frl xs => some (!xs.isEmpty)
  | .ref k => match μ[k]? with
    | some (.lst xs) => some (!xs.isEmpty)
    | some (.dk kvs) => some (!kvs.isEmpty)
    | _ => none
  | .ty _ => none
theorem RVs.isEmpty {K : PySem.W.Frag} {H : Hp} {β : List Addr} {vs : List V} {ds : List A} (h : RVs K H β vs ds) : vs.isEmpty = ds.isEmpty := by cases h <;> rfl
theorem RKs.isEmpty {κ : Type} {K : PySem.W.Frag} {H : Hp} {β : List Addr} {vs : List (κ × V)} {ds : List (κ × A)} (h : RKs K H β vs ds) : vs.isEmpty = ds.isEmpty := by cases h <;> rfl
theorem truA_ok {K : PySem.W.Frag} {H : Hp} {β : List Addr} {μ : Mem} {v : V} {d : A} {b : Bool} (M : Mst K H β μ) (r : RV K H β v d) (h : truA d μ = some b) : TruV K v H b := by
  cases r with
  | non => exact (Option.some.inj h).symm
  | bl c => exact (Option.some.inj h).symm
  | int i => exact (Option.some.inj h).symm
  | str x =>
    have h' : (if x.length ≤ sizeLine then some ((x.length : Int) != 0) else none) = some b := h
    by_cases hz : x.length ≤ sizeLine
    · rw [if_pos hz] at h'
      exact ⟨hz, (Option.some.inj h').symm⟩
    · rw [if_neg hz] at h'; cases h'
  | tup hs ra => exact .inr (.inl ⟨_, hs, by rw [ra.isEmpty]; exact (Option.some.inj h).symm⟩)
  | frl hs ra => exact .inl ⟨_, hs.sq, by rw [ra.isEmpty]; exact (Option.some.inj h).symm⟩
  | @ref k a hk =>
    cases e : μ[k]? with
    | none => simp [truA, e] at h
    | some c =>
      have c' := M.ok k c _ e hk
      cases c with
      | lst xs =>
        obtain ⟨vs, ea, ra⟩ := c'
        simp only [truA, e, Option.some.injEq] at h
        exact .inl ⟨vs, .inl (.inl ea), by rw [ra.isEmpty]; exact h.symm⟩
      | dk kvs =>
        obtain ⟨vs, ea, ra⟩ := c'
        simp only [truA, e, Option.some.injEq] at h
        exact .inr (.inr ⟨vs, ea, by rw [ra.isEmpty]; exact h.symm⟩)
      | _ => simp [truA, e] at h
  | ty n => cases h
def aTru (a : ATE) : ATT := fun ρ μ Q => a ρ μ fun d μ1 => ∃ b, truA d μ1 = some b ∧ Q b μ1
theorem xt_tru {e : Expr} {t : ATE} (h : PEA X e t) (he : ∀ whole, isTrue e X.env whole = (do let v ← whole; standAt e.pos; holding [v] (truthy v)) := by intro _; rfl) : PTA X e (aTru t) :=
  pt_imp (pt_truth h he) fun σ H P ⟨β, ρ, μ, Q, F, M, h, k⟩ => ⟨β, ρ, μ, _, F, M, h, fun v H1 β1 d μ1 L1 M1 r1 ⟨b, e, q⟩ => ⟨b, truA_ok M1 r1 e, k b H1 β1 μ1 L1 M1 q⟩⟩
/-- and, or, not as tests -/
def aAnd (a b : ATT) : ATT := fun ρ μ Q => a ρ μ fun c μ1 => if c = true then b ρ μ1 Q else Q false μ1
def aOr (a b : ATT) : ATT := fun ρ μ Q => a ρ μ fun c μ1 => if c = true then Q true μ1 else b ρ μ1 Q
def aNot (a : ATT) : ATT := fun ρ μ Q => a ρ μ fun c μ1 => Q (!c) μ1
theorem aAnd_ok {K : PySem.W.Frag} {a b : ATT} (σ : L2.St) (H : Hp) (P : Bool → Hp → Prop) (h : tAT K (aAnd a b) σ H P) : tAnd (tAT K a) (tAT K b) σ H P := by
  obtain ⟨β, ρ, μ, Q, F, M, h, k⟩ := h
  refine ⟨β, ρ, μ, _, F, M, h, fun c H1 β1 μ1 L1 M1 h1 => ?_⟩
  cases c with
  | true => exact ⟨β1, ρ, μ1, Q, F.mono L1.r, M1, h1, k.le L1⟩
  | false => exact k false H1 β1 μ1 L1 M1 h1
theorem aOr_ok {K : PySem.W.Frag} {a b : ATT} (σ : L2.St) (H : Hp) (P : Bool → Hp → Prop) (h : tAT K (aOr a b) σ H P) : tOr (tAT K a) (tAT K b) σ H P := by
  obtain ⟨β, ρ, μ, Q, F, M, h, k⟩ := h
  refine ⟨β, ρ, μ, _, F, M, h, fun c H1 β1 μ1 L1 M1 h1 => ?_⟩
  cases c with
  | false => exact ⟨β1, ρ, μ1, Q, F.mono L1.r, M1, h1, k.le L1⟩
  | true => exact k true H1 β1 μ1 L1 M1 h1
abbrev PWA (X : Cx) (e : Expr) (a : ATT) : Prop := PW X e (tAT X.K a)
theorem xw_and {a b : Expr} {rest : List Expr} {ta tb : ATT} {pos : Pos} (ha : PTA X a ta) (hb : PWA X (.BoolOp .And (b :: rest) pos) tb) : PWA X (.BoolOp .And (a :: b :: rest) pos) (aAnd ta tb) := pw_imp (pw_and ha hb) aAnd_ok
theorem xw_or {a b : Expr} {rest : List Expr} {ta tb : ATT} {pos : Pos} (ha : PTA X a ta) (hb : PWA X (.BoolOp .Or (b :: rest) pos) tb) : PWA X (.BoolOp .Or (a :: b :: rest) pos) (aOr ta tb) := pw_imp (pw_or ha hb) aOr_ok
theorem xw_and1 {a : Expr} {ta : ATT} {pos : Pos} (ha : PTA X a ta) : PWA X (.BoolOp .And [a] pos) ta := pw_and1 ha
theorem xw_or1 {a : Expr} {ta : ATT} {pos : Pos} (ha : PTA X a ta) : PWA X (.BoolOp .Or [a] pos) ta := pw_or1 ha
theorem xt_not {a : Expr} {ta : ATT} {pos : Pos} (ha : PTA X a ta) : PTA X (.UnaryOp .Not a pos) (aNot ta) := pt_imp (pt_not ha) fun σ H P ⟨β, ρ, μ, Q, F, M, h, k⟩ =>
  ⟨β, ρ, μ, _, F, M, h, fun c H1 β1 μ1 L1 M1 h1 => k (!c) H1 β1 μ1 L1 M1 h1⟩
/-- .. as values, by truth -/
def aAndV (a b : ATE) : ATE := fun ρ μ Q => a ρ μ fun d μ1 => ∃ k, truA d μ1 = some k ∧ if k = true then b ρ μ1 Q else Q d μ1
def aOrV (a b : ATE) : ATE := fun ρ μ Q => a ρ μ fun d μ1 => ∃ k, truA d μ1 = some k ∧ if k = true then Q d μ1 else b ρ μ1 Q
def aNotV (a : ATE) : ATE := fun ρ μ Q => a ρ μ fun d μ1 => ∃ k, truA d μ1 = some k ∧ Q (.bl (!k)) μ1
theorem xe_and {a b : Expr} {rest : List Expr} {ta tb : ATE} {pos : Pos} (ha : PEA X a ta) (hb : PEA X (.BoolOp .And (b :: rest) pos) tb) : PEA X (.BoolOp .And (a :: b :: rest) pos) (aAndV ta tb) := pe_imp (pe_andT ha hb) fun σ H P ⟨β, ρ, μ, Q, F, M, h, k⟩ =>
  ⟨β, ρ, μ, _, F, M, h, fun v H1 β1 d μ1 L1 M1 r1 ⟨c, e, q⟩ => ⟨c, truA_ok M1 r1 e, by
    cases c with
    | true => exact ⟨β1, ρ, μ1, Q, F.mono L1.r, M1, q, k.le L1⟩
    | false => exact k v H1 β1 d μ1 L1 M1 r1 q⟩⟩
theorem xe_or {a b : Expr} {rest : List Expr} {ta tb : ATE} {pos : Pos} (ha : PEA X a ta) (hb : PEA X (.BoolOp .Or (b :: rest) pos) tb) : PEA X (.BoolOp .Or (a :: b :: rest) pos) (aOrV ta tb) := pe_imp (pe_orT ha hb) fun σ H P ⟨β, ρ, μ, Q, F, M, h, k⟩ =>
  ⟨β, ρ, μ, _, F, M, h, fun v H1 β1 d μ1 L1 M1 r1 ⟨c, e, q⟩ => ⟨c, truA_ok M1 r1 e, by
    cases c with
    | false => exact ⟨β1, ρ, μ1, Q, F.mono L1.r, M1, q, k.le L1⟩
    | true => exact k v H1 β1 d μ1 L1 M1 r1 q⟩⟩
theorem xe_one {op} {a : Expr} {ta : ATE} {pos : Pos} (ha : PEA X a ta) : PEA X (.BoolOp op [a] pos) ta := pe_one ha
theorem xe_not {a : Expr} {ta : ATE} {pos : Pos} (ha : PEA X a ta) : PEA X (.UnaryOp .Not a pos) (aNotV ta) := pe_imp (pe_notT ha) fun σ H P ⟨β, ρ, μ, Q, F, M, h, k⟩ =>
  ⟨β, ρ, μ, _, F, M, h, fun v H1 β1 d μ1 L1 M1 r1 ⟨c, e, q⟩ => ⟨c, truA_ok M1 r1 e, k _ H1 β1 _ μ1 L1 M1 (.bl _) q⟩⟩
/-- a if t else b -/
def aIf (t : ATT) (a b : ATE) : ATE := fun ρ μ Q => t ρ μ fun c μ1 => if c = true then a ρ μ1 Q else b ρ μ1 Q
theorem xe_if {c a b : Expr} {tc : ATT} {ta tb : ATE} {pos : Pos} (hc : PTA X c tc) (ha : PEA X a ta) (hb : PEA X b tb) : PEA X (.IfExp c a b pos) (aIf tc ta tb) := pe_imp (pe_ifExp hc ha hb) fun σ H P ⟨β, ρ, μ, Q, F, M, h, k⟩ =>
  ⟨β, ρ, μ, _, F, M, h, fun c H1 β1 μ1 L1 M1 h1 => by
    cases c with
    | true => exact ⟨β1, ρ, μ1, Q, F.mono L1.r, M1, h1, k.le L1⟩
    | false => exact ⟨β1, ρ, μ1, Q, F.mono L1.r, M1, h1, k.le L1⟩⟩
/-- a < b < c -/
def aChain (r r' : AR2) (a b c : ATE) : ATE := fun ρ μ Q => a ρ μ fun x μ1 => b ρ μ1 fun y μ2 => r x y μ2 fun z μ3 => match z with
  | .bl k => if k = true then c ρ μ3 fun w μ4 => r' y w μ4 Q else Q (.bl false) μ3
  | _ => False
end
end XL

/-! XL3: the operators by values. -/
namespace XL
open PySem L2
section
variable {X : Cx}
theorem opr_or {f : Value → Value → Sem Value} {r r' : R2} (h : OpR X f r) (h' : OpR X f r') : OpR X f (fun x y H Q => r x y H Q ∨ r' x y H Q) := by
  intro pins s σ H x y v u Q I rx ry q
  rcases q with q | q
  · exact h pins s σ H x y v u Q I rx ry q
  · exact h' pins s σ H x y v u Q I rx ry q
theorem opr_imp {f : Value → Value → Sem Value} {r r' : R2} (h : OpR X f r) (i : ∀ x y H Q, r' x y H Q → r x y H Q) : OpR X f r' := fun pins s σ H x y v u Q I rx ry q => h pins s σ H x y v u Q I rx ry (i _ _ _ _ q)
/-- new tuple, new list cell -/
theorem kn_tup {K : PySem.W.Frag} {H : Hp} {β : List Addr} {μ : Mem} {Q : AK} {P : VK} {vs : List V} {ds : List A} (k : Kn K H β Q P) (M : Mst K H β μ) (r : RVs K H β vs ds) (q : Q (.tup ds) μ) : ∀ p, H p = none → P (.ref p) (upd H p (.tup vs)) := fun p hp => by
  have L : Le H β (upd H p (.tup vs)) β := Le.push M hp
  exact k _ _ _ _ _ L (M.push hp) (.tup (.inl (.inl upd_same)) (r.mono L.r)) q
theorem kn_lst {K : PySem.W.Frag} {H : Hp} {β : List Addr} {μ : Mem} {Q : AK} {P : VK} {vs : List V} {ds : List A} (k : Kn K H β Q P) (M : Mst K H β μ) (r : RVs K H β vs ds) (q : Q (.ref μ.length) (μ ++ [.lst ds])) : ∀ p, H p = none → P (.ref p) (upd H p (.lst vs)) := fun p hp => by
  have L : Le H β (upd H p (.lst vs)) (β ++ [p]) := Le.cell M hp
  refine k _ _ _ _ _ L ((M.push (u := .lst vs) hp).cell (M.fresh hp) (c := .lst ds) ⟨vs, upd_same, r.mono L.r⟩) (.ref ?_) q
  rw [← M.len, List.getElem?_append_right (Nat.le_refl _), Nat.sub_self]
  rfl

/-! ### + -/
def addA : AR2
  | .int i, .int j, μ, Q => Q (.int (i + j)) μ
  | .int i, .bl k, μ, Q => Q (.int (i + PyProof.Rows.b2i k)) μ
  | .str s, .str t, μ, Q => s.length + t.length ≤ sizeLine ∧ Q (.str (s ++ t)) μ
  | .tup xs, .tup ys, μ, Q => xs.length + ys.length ≤ sizeLine ∧ Q (.tup (xs ++ ys)) μ
  | .ref k, .ref l, μ, Q => match μ[k]?, μ[l]? with
    | some (.lst xs), some (.lst ys) => xs.length + ys.length ≤ sizeLine ∧ Q (.ref μ.length) (μ ++ [.lst (xs ++ ys)])
    | _, _ => False
  | _, _, _, _ => False
theorem RV.tup_inv {K : PySem.W.Frag} {H : Hp} {β : List Addr} {v : V} {ds : List A} (h : RV K H β v (.tup ds)) : ∃ a vs, v = .ref a ∧ SqT K H a vs ∧ RVs K H β vs ds := by
  cases h with
  | tup hs r => exact ⟨_, _, rfl, hs, r⟩
theorem RV.ref_inv {K : PySem.W.Frag} {H : Hp} {β : List Addr} {v : V} {k : Nat} (h : RV K H β v (.ref k)) : ∃ a, v = .ref a ∧ β[k]? = some a := by
  cases h with
  | ref e => exact ⟨_, rfl, e⟩
theorem RV.frl_inv {K : PySem.W.Frag} {H : Hp} {β : List Addr} {v : V} {ds : List A} (h : RV K H β v (.frl ds)) : ∃ a vs, v = .ref a ∧ FL K H a vs ∧ RVs K H β vs ds := by
  cases h with
  | frl hs r => exact ⟨_, _, rfl, hs, r⟩
theorem RV.non_inv {K : PySem.W.Frag} {H : Hp} {β : List Addr} {v : V} (h : RV K H β v .non) : v = .non := by cases h; rfl
theorem RV.ty_inv {K : PySem.W.Frag} {H : Hp} {β : List Addr} {v : V} {n : String} (h : RV K H β v (.ty n)) : v = .ty n := by cases h; rfl
theorem xo_add : OpR X (binaryOp .Add) (rA2 X.K addA) := by
  refine opr_imp (opr_or op_add (opr_or op_add_ib (opr_or op_add_str (opr_or op_catA op_cat)))) ?_
  rintro x y H P ⟨β, μ, dx, dy, Q, M, rx, ry, h, k⟩
  cases dx with
  | int i =>
    cases rx.int_inv
    cases dy with
    | int j =>
      cases ry.int_inv
      exact .inl ⟨i, j, rfl, rfl, kn_here k M (.int _) h⟩
    | bl j =>
      cases ry.bl_inv
      exact .inr (.inl ⟨i, j, rfl, rfl, kn_here k M (.int _) h⟩)
    | _ => exact h.elim
  | str i =>
    cases dy with
    | str j =>
      cases rx.str_inv
      cases ry.str_inv
      exact .inr (.inr (.inl ⟨i, j, rfl, rfl, h.1, kn_here k M (.str _) h.2⟩))
    | _ => exact h.elim
  | tup xs =>
    cases dy with
    | tup ys =>
      obtain ⟨a, vs, rfl, ha, ra⟩ := rx.tup_inv
      obtain ⟨b, ws, rfl, hb, rb⟩ := ry.tup_inv
      refine .inr (.inr (.inr (.inl ⟨a, b, vs, ws, rfl, rfl, ha, hb, by rw [ra.length, rb.length]; exact h.1, fun e => ?_, fun _ e => ?_, fun _ _ => ?_⟩)))
      · subst e
        cases ra
        exact kn_here k M ry h.2
      · subst e
        cases rb
        have h2 := h.2
        rw [List.append_nil] at h2
        exact kn_here k M rx h2
      · exact kn_tup k M (ra.append rb) h.2
    | _ => exact h.elim
  | ref m =>
    cases dy with
    | ref l =>
      obtain ⟨a, rfl, ha⟩ := rx.ref_inv
      obtain ⟨b, rfl, hb⟩ := ry.ref_inv
      have h' : (match μ[m]?, μ[l]? with
        | some (.lst xs), some (.lst ys) => xs.length + ys.length ≤ sizeLine ∧ Q (.ref μ.length) (μ ++ [.lst (xs ++ ys)])
        | _, _ => False) := h
      split at h'
      · rename_i xs ys e1 e2
        obtain ⟨vs, q1, r1⟩ := M.ok _ _ _ e1 ha
        obtain ⟨ws, q2, r2⟩ := M.ok _ _ _ e2 hb
        exact .inr (.inr (.inr (.inr ⟨a, b, vs, ws, rfl, rfl, q1, q2, by rw [r1.length, r2.length]; exact h'.1, kn_lst k M (r1.append r2) h'.2⟩)))
      · exact h'.elim
    | _ => exact h.elim
  | _ => exact h.elim

/-! ### ints -/
def intA (C : Int → Int → Prop) (g : Int → Int → Int) : AR2
  | .int i, .int j, μ, Q => C i j ∧ Q (.int (g i j)) μ
  | _, _, _, _ => False
theorem xo_int {f : Value → Value → Sem Value} {C : Int → Int → Prop} {g : Int → Int → Int} (h : OpR X f (rI C fun i j => .int (g i j))) : OpR X f (rA2 X.K (intA C g)) := by
  refine opr_imp h ?_
  rintro x y H P ⟨β, μ, dx, dy, Q, M, rx, ry, h, k⟩
  cases dx with
  | int i =>
    cases dy with
    | int j =>
      cases rx.int_inv
      cases ry.int_inv
      exact ⟨i, j, rfl, rfl, h.1, kn_here k M (.int _) h.2⟩
    | _ => exact h.elim
  | _ => exact h.elim
def intA0 (g : Int → Int → Int) : AR2
  | .int i, .int j, μ, Q => Q (.int (g i j)) μ
  | _, _, _, _ => False
theorem xo_int0 {f : Value → Value → Sem Value} {g : Int → Int → Int} (h : OpR X f (rI0 fun i j => .int (g i j))) : OpR X f (rA2 X.K (intA0 g)) := by
  refine opr_imp h ?_
  rintro x y H P ⟨β, μ, dx, dy, Q, M, rx, ry, h, k⟩
  cases dx with
  | int i =>
    cases dy with
    | int j =>
      cases rx.int_inv
      cases ry.int_inv
      exact ⟨i, j, rfl, rfl, kn_here k M (.int _) h⟩
    | _ => exact h.elim
  | _ => exact h.elim
def subA : AR2 := intA0 (· - ·)
theorem xo_sub : OpR X (binaryOp .Sub) (rA2 X.K subA) := xo_int0 op_sub
def fdivA : AR2 := intA CDivN fun i j => i.fdiv j
theorem xo_fdiv : OpR X (binaryOp .FloorDiv) (rA2 X.K fdivA) := xo_int op_fdivN
def modA : AR2 := intA (fun _ j => j ≠ 0) fun i j => i.fmod j
theorem xo_mod : OpR X (binaryOp .Mod) (rA2 X.K modA) := xo_int op_modN
def powA : AR2 := intA CPow fun i j => i ^ j.toNat
theorem xo_pow : OpR X (binaryOp .Pow) (rA2 X.K powA) := xo_int op_pow
def shlA : AR2 := intA CPow fun i j => i * 2 ^ j.toNat
theorem xo_shl : OpR X (binaryOp .LShift) (rA2 X.K shlA) := xo_int op_shl
def shrA : AR2 := intA (fun _ j => 0 ≤ j) fun i j => i / 2 ^ j.toNat
theorem xo_shr : OpR X (binaryOp .RShift) (rA2 X.K shrA) := xo_int op_shr
def andA : AR2 := intA0 Builtin.bitAnd
theorem xo_and : OpR X (binaryOp .BitAnd) (rA2 X.K andA) := xo_int0 op_and
def orA : AR2 := intA0 Builtin.bitOr
theorem xo_or : OpR X (binaryOp .BitOr) (rA2 X.K orA) := xo_int0 op_or
def xorA : AR2 := intA0 Builtin.bitXor
theorem xo_xor : OpR X (binaryOp .BitXor) (rA2 X.K xorA) := xo_int0 op_xor
/-- *: two ints, a list by an int (a new one) -/
def mulA : AR2
  | .int i, .int j, μ, Q => CMul i j ∧ Q (.int (i * j)) μ
  | .ref k, .int j, μ, Q => match μ[k]? with
    | some (.lst xs) => -(2 ^ 63) ≤ j ∧ j < 2 ^ 63 ∧ xs.length * j.toNat ≤ sizeLine ∧ Q (.ref μ.length) (μ ++ [.lst (List.replicate j.toNat xs).flatten])
    | _ => False
  | .tup xs, .int j, μ, Q => xs ≠ [] ∧ 1 ≤ j ∧ j ≤ 1000 ∧ xs.length ≤ 1000 ∧ Q (.tup (List.replicate j.toNat xs).flatten) μ
  | _, _, _, _ => False
/-! ### comparisons of ints -/
def cmpA (p : Int → Int → Bool) : AR2
  | .int i, .int j, μ, Q => Q (.bl (p i j)) μ
  | _, _, _, _ => False
theorem xo_cmp {f : Value → Value → Sem Value} {p : Int → Int → Bool} (h : OpR X f (rI0 fun i j => .bl (p i j))) : OpR X f (rA2 X.K (cmpA p)) := by
  refine opr_imp h ?_
  rintro x y H P ⟨β, μ, dx, dy, Q, M, rx, ry, h, k⟩
  cases dx with
  | int i =>
    cases dy with
    | int j =>
      cases rx.int_inv
      cases ry.int_inv
      exact ⟨i, j, rfl, rfl, kn_here k M (.bl _) h⟩
    | _ => exact h.elim
  | _ => exact h.elim
def ltA : AR2 := cmpA fun i j => decide (i < j)
def leA : AR2 := cmpA fun i j => decide (i ≤ j)
def gtA : AR2 := cmpA fun i j => decide (j < i)
def geA : AR2 := cmpA fun i j => decide (j ≤ i)
theorem xo_lt : OpR X (compareOp .Lt) (rA2 X.K ltA) := xo_cmp op_lt
theorem xo_le : OpR X (compareOp .LtE) (rA2 X.K leA) := xo_cmp op_le
theorem xo_gt : OpR X (compareOp .Gt) (rA2 X.K gtA) := xo_cmp op_gt
theorem xo_ge : OpR X (compareOp .GtE) (rA2 X.K geA) := xo_cmp op_ge
/-! ### one operand -/
def aUn (g : Int → Int) (a : ATE) : ATE := fun ρ μ Q => a ρ μ fun d μ1 => match d with
  | .int i => Q (.int (g i)) μ1
  | _ => False
theorem xe_un {op : UnaryOp} {g : Int → Int} {a : Expr} {ta : ATE} {pos : Pos} (ho : UnR X (unaryOp op) (rU fun i => .int (g i))) (ha : PEA X a ta) : PEA X (.UnaryOp op a pos) (aUn g ta) := pe_imp (pe_un ho ha) fun σ H P ⟨β, ρ, μ, Q, F, M, h, k⟩ =>
  ⟨β, ρ, μ, _, F, M, h, fun v H1 β1 d μ1 L1 M1 r1 h1 => by
    cases d with
    | int i => exact ⟨i, r1.int_inv, k _ H1 β1 _ μ1 L1 M1 (.int _) h1⟩
    | _ => exact h1.elim⟩
/-! ### ==, != : data -/
mutual
inductive PyD (μ : Mem) : A → PyData → Prop
  | non : PyD μ .non .none
  | bl (b : Bool) : PyD μ (.bl b) (.bool b)
  | int (i : Int) : PyD μ (.int i) (.int i)
  | str (x : Str) : PyD μ (.str x) (.str x)
  | tup {xs : List A} {ds : List PyData} : PyDs μ xs ds → PyD μ (.tup xs) (.tuple ds)
  | frl {xs : List A} {ds : List PyData} : PyDs μ xs ds → PyD μ (.frl xs) (.list ds)
  | ref {k : Nat} {xs : List A} {ds : List PyData} : μ[k]? = some (.lst xs) → PyDs μ xs ds → PyD μ (.ref k) (.list ds)
inductive PyDs (μ : Mem) : List A → List PyData → Prop
  | nil : PyDs μ [] []
  | cons {v : A} {vs : List A} {d : PyData} {ds : List PyData} : PyD μ v d → PyDs μ vs ds → PyDs μ (v :: vs) (d :: ds)
end
section
variable {K : PySem.W.Frag} {H : Hp} {β : List Addr} {μ : Mem}
mutual
theorem PyD.dp (M : Mst K H β μ) : ∀ {d : A} {p : PyData} {v : V}, PyD μ d p → RV K H β v d → Dp K H v p
  | _, _, _, .non, r => by cases r; exact .non
  | _, _, _, .bl b, r => by cases r; exact .bl b
  | _, _, _, .int i, r => by cases r; exact .int i
  | _, _, _, .str x, r => by cases r; exact .str x
  | _, _, _, .tup h, r => by
    obtain ⟨a, vs, rfl, hs, ra⟩ := r.tup_inv
    exact .tup hs (PyDs.dp M h ra)
  | _, _, _, .frl h, r => by
    obtain ⟨a, vs, rfl, hs, ra⟩ := r.frl_inv
    exact .lst hs.sq (PyDs.dp M h ra)
  | _, _, _, .ref e h, r => by
    obtain ⟨a, rfl, ha⟩ := r.ref_inv
    obtain ⟨vs, q, ra⟩ := M.ok _ _ _ e ha
    exact .lst (.inl (.inl q)) (PyDs.dp M h ra)
theorem PyDs.dp (M : Mst K H β μ) : ∀ {ds : List A} {ps : List PyData} {vs : List V}, PyDs μ ds ps → RVs K H β vs ds → DpAll K H vs ps
  | _, _, _, .nil, r => by cases r; exact .nil
  | _, _, _, .cons h t, r => by
    cases r with
    | cons r1 r2 => exact .cons (PyD.dp M h r1) (PyDs.dp M t r2)
end
end
def eqG (x y : A) (μ : Mem) (Q : Bool → Prop) : Prop := ∃ d e, PyD μ x d ∧ PyD μ y e ∧ SeqAt.shaped d = true ∧ SeqAt.shaped e = true ∧ Q (PyData.eqv d e)
def eqB (x y : A) (μ : Mem) (Q : Bool → Prop) : Prop := match x, y with
  | .int i, .int j => Q (i == j)
  | .str i, .str j => Q (i == j)
  | .bl i, .bl j => Q (i == j)
  | x, y => eqG x y μ Q
theorem eqB_of {x y : A} {μ : Mem} {Q : Bool → Prop} {d e : PyData} (hx : PyD μ x d) (hy : PyD μ y e) (sx : SeqAt.shaped d = true) (sy : SeqAt.shaped e = true) (q : Q (PyData.eqv d e)) : eqB x y μ Q := by
  unfold eqB
  split
  · cases hx; cases hy; simpa only [PyData.eqv] using q
  · cases hx; cases hy; simpa only [PyData.eqv] using q
  · cases hx; cases hy; simpa only [PyData.eqv] using q
  · exact ⟨d, e, hx, hy, sx, sy, q⟩
def eqA : AR2 := fun x y μ Q => eqB x y μ fun b => Q (.bl b) μ
def neA : AR2 := fun x y μ Q => eqB x y μ fun b => Q (.bl (!b)) μ
theorem eqB_cases {K : PySem.W.Frag} {H : Hp} {β : List Addr} {μ : Mem} {x y : V} {dx dy : A} {Q : Bool → Prop} (M : Mst K H β μ) (rx : RV K H β x dx) (ry : RV K H β y dy) (h : eqB dx dy μ Q) :
    (scal x y = true ∧ Q (decide (x = y))) ∨ ∃ d e, Dp K H x d ∧ Dp K H y e ∧ SeqAt.shaped d = true ∧ SeqAt.shaped e = true ∧ Q (PyData.eqv d e) := by
  unfold eqB at h
  split at h
  · cases rx.int_inv; cases ry.int_inv
    exact .inl ⟨rfl, by rw [dec_int]; exact h⟩
  · cases rx.str_inv; cases ry.str_inv
    exact .inl ⟨rfl, by rw [dec_str]; exact h⟩
  · cases rx.bl_inv; cases ry.bl_inv
    exact .inl ⟨rfl, by rw [dec_bl]; exact h⟩
  · obtain ⟨d, e, hd, he, sd, se, h⟩ := h
    exact .inr ⟨d, e, hd.dp M rx, he.dp M ry, sd, se, h⟩
theorem xo_eq (hu : X.A.units + 64 < cLine) : OpR X (compareOp .Eq) (rA2 X.K eqA) := by
  refine opr_imp (opr_or op_eq (op_eqD hu)) ?_
  rintro x y H P ⟨β, μ, dx, dy, Q, M, rx, ry, h, k⟩
  rcases eqB_cases M rx ry h with ⟨s, q⟩ | ⟨d, e, hd, he, sd, se, q⟩
  · exact .inl ⟨s, kn_here k M (.bl _) q⟩
  · exact .inr ⟨d, e, hd, he, sd, se, kn_here k M (.bl _) q⟩
theorem xo_ne (hu : X.A.units + 64 < cLine) : OpR X (compareOp .NotEq) (rA2 X.K neA) := by
  refine opr_imp (opr_or op_ne (op_neD hu)) ?_
  rintro x y H P ⟨β, μ, dx, dy, Q, M, rx, ry, h, k⟩
  rcases eqB_cases M rx ry h with ⟨s, q⟩ | ⟨d, e, hd, he, sd, se, q⟩
  · exact .inl ⟨s, kn_here k M (.bl _) q⟩
  · exact .inr ⟨d, e, hd, he, sd, se, kn_here k M (.bl _) q⟩
/-! ### is, is not: None, truth values -/
def isA : AR2
  | x, .non, μ, Q => Q (.bl (match x with | .non => true | _ => false)) μ
  | .bl a, .bl b, μ, Q => Q (.bl (a == b)) μ
  | _, _, _, _ => False
def notIsA : AR2
  | x, .non, μ, Q => Q (.bl (match x with | .non => false | _ => true)) μ
  | .bl a, .bl b, μ, Q => Q (.bl (a != b)) μ
  | _, _, _, _ => False
theorem dec_non {K : PySem.W.Frag} {H : Hp} {β : List Addr} {v : V} {d : A} (r : RV K H β v d) : decide (v = .non) = (match d with | .non => true | _ => false) := by
  cases r <;> first | rfl | exact decide_eq_false (fun z => nomatch z)
theorem xo_is : OpR X (compareOp .Is) (rA2 X.K isA) := by
  refine opr_imp (opr_or op_isN op_isBl) ?_
  rintro x y H P ⟨β, μ, dx, dy, Q, M, rx, ry, h, k⟩
  cases dy with
  | non =>
    refine .inl ⟨ry.non_inv, ?_⟩
    rw [dec_non rx]
    exact kn_here k M (.bl _) (by cases dx <;> exact h)
  | bl b =>
    cases dx with
    | bl a => exact .inr ⟨a, b, rx.bl_inv, ry.bl_inv, kn_here k M (.bl _) (by rw [show decide (a = b) = (a == b) by cases a <;> cases b <;> rfl]; exact h)⟩
    | _ => exact h.elim
  | _ => cases dx <;> exact h.elim
theorem xo_isnot : OpR X (compareOp .IsNot) (rA2 X.K notIsA) := by
  refine opr_imp (opr_or op_notN op_notBl) ?_
  rintro x y H P ⟨β, μ, dx, dy, Q, M, rx, ry, h, k⟩
  cases dy with
  | non =>
    refine .inl ⟨ry.non_inv, ?_⟩
    rw [dec_non rx]
    exact kn_here k M (.bl _) (by cases dx <;> exact h)
  | bl b =>
    cases dx with
    | bl a => exact .inr ⟨a, b, rx.bl_inv, ry.bl_inv, kn_here k M (.bl _) (by rw [show (!decide (a = b)) = (a != b) by cases a <;> cases b <;> rfl]; exact h)⟩
    | _ => exact h.elim
  | _ => cases dx <;> exact h.elim
end
end XL

/-! XL4: in, subscripts, slices, displays, calls. -/
namespace XL
open PySem L2
section
variable {X : Cx}
/-! ### chains -/
theorem aChain_ok {K : PySem.W.Frag} {ra ra' : AR2} {a b c : ATE} (σ : L2.St) (H : Hp) (P : VK) (h : tA K (aChain ra ra' a b c) σ H P) : tChain (rA2 K ra) (rA2 K ra') (tA K a) (tA K b) (tA K c) σ H P := by
  obtain ⟨β, ρ, μ, Q, F, M, h, k⟩ := h
  refine ⟨β, ρ, μ, _, F, M, h, fun v H1 β1 d μ1 L1 M1 r1 h1 => ⟨β1, ρ, μ1, _, F.mono L1.r, M1, h1, fun u H2 β2 e μ2 L2 M2 r2 h2 => ⟨β2, μ2, d, e, _, M2, r1.mono L2.r, r2, h2, fun z H3 β3 d3 μ3 L3 M3 r3 h3 => ?_⟩⟩⟩
  cases d3 with
  | bl w =>
    refine ⟨w, r3.bl_inv, ?_⟩
    cases w with
    | true => exact ⟨β3, ρ, μ3, _, F.mono ((L1.trans L2).trans L3).r, M3, h3, fun z4 H4 β4 d4 μ4 L4 M4 r4 h4 => ⟨β4, μ4, e, d4, Q, M4, r2.mono (L3.trans L4).r, r4, h4, k.le (((L1.trans L2).trans L3).trans L4)⟩⟩
    | false => exact k.le ((L1.trans L2).trans L3) _ H3 β3 _ μ3 (Le.refl _ _) M3 (.bl _) h3
  | _ => exact h3.elim
theorem xe_chain {op op' : CmpOp} {ra ra' : AR2} {a b c : Expr} {ta tb tc : ATE} {pos : Pos} (ho : OpR X (compareOp op) (rA2 X.K ra)) (ho' : OpR X (compareOp op') (rA2 X.K ra')) (ha : PEA X a ta) (hb : PEA X b tb) (hc : PEA X c tc)
    (hm : lastMarks [op, op'] [b, c] = false := by with_unfolding_all rfl) : PEA X (.Compare a [op, op'] [b, c] pos) (aChain ra ra' ta tb tc) := pe_imp (pe_chain ho ho' ha hb hc hm) aChain_ok
theorem xt_chain {op op' : CmpOp} {ra ra' : AR2} {a b c : Expr} {ta tb tc : ATE} {pos : Pos} (ho : OpR X (compareOp op) (rA2 X.K ra)) (ho' : OpR X (compareOp op') (rA2 X.K ra')) (ha : PEA X a ta) (hb : PEA X b tb) (hc : PEA X c tc)
    (hm : lastMarks [op, op'] [b, c] = false := by with_unfolding_all rfl) : PTA X (.Compare a [op, op'] [b, c] pos) (aTest (aChain ra ra' ta tb tc)) := pt_imp (pt_chain ho ho' ha hb hc hm) fun σ H P h => aTest_ok (fun _ _ _ => aChain_ok _ _ _) σ H P h

/-! ### tables -/
def kA : Key → A
  | .inl i => .int i
  | .inr s => .str s
def keyOf : A → Option Key
  | .int i => some (.inl i)
  | .str s => some (.inr s)
  | _ => none
theorem RV.key {K : PySem.W.Frag} {H : Hp} {β : List Addr} {v : V} {d : A} {k : Key} (r : RV K H β v d) (h : keyOf d = some k) : v = kV k := by
  cases r <;> cases h <;> rfl
section
variable {κ : Type} [DecidableEq κ]
def lookK {α : Type} (kvs : List (κ × α)) (k : κ) : Option α := (kvs.find? fun kv => decide (kv.1 = k)).map (·.2)
def putKA {α : Type} (kvs : List (κ × α)) (k : κ) (v : α) : List (κ × α) :=
  if (kvs.any fun kv => decide (kv.1 = k)) = true then kvs.map (fun kv => if kv.1 = k then (kv.1, v) else kv) else kvs ++ [(k, v)]
def dropKA {α : Type} (kvs : List (κ × α)) (k : κ) : List (κ × α) := kvs.filter fun kv => decide (kv.1 ≠ k)
variable {K : PySem.W.Frag} {H : Hp} {β : List Addr}
theorem RKs.look : ∀ {ws : List (κ × V)} {ds : List (κ × A)} (k : κ), RKs K H β ws ds → (lookK ds k = none ∧ valV ws k = none) ∨ ∃ d v, lookK ds k = some d ∧ valV ws k = some v ∧ RV K H β v d
  | _, _, k, .nil => .inl ⟨rfl, rfl⟩
  | (k', v) :: ws, (_, d) :: ds, k, .cons r t => by
    by_cases e : k' = k
    · exact .inr ⟨d, v, by simp [lookK, List.find?_cons, e], by simp [valV, List.find?_cons, e], r⟩
    · have h1 : lookK ((k', d) :: ds) k = lookK ds k := by simp [lookK, List.find?_cons, e]
      have h2 : valV ((k', v) :: ws) k = valV ws k := by simp [valV, List.find?_cons, e]
      rw [h1, h2]
      exact RKs.look k t
theorem RKs.any {p : κ → Bool} : ∀ {ws : List (κ × V)} {ds : List (κ × A)}, RKs K H β ws ds → (ws.any fun kv => p kv.1) = ds.any fun kv => p kv.1
  | _, _, .nil => rfl
  | _, _, .cons _ t => by rw [List.any_cons, List.any_cons, RKs.any t]
theorem RKs.append : ∀ {ws ws' : List (κ × V)} {ds ds' : List (κ × A)}, RKs K H β ws ds → RKs K H β ws' ds' → RKs K H β (ws ++ ws') (ds ++ ds')
  | _, _, _, _, .nil, h => h
  | _, _, _, _, .cons r t, h => .cons r (RKs.append t h)
theorem RKs.repl {k : κ} {v : V} {d : A} (r : RV K H β v d) : ∀ {ws : List (κ × V)} {ds : List (κ × A)}, RKs K H β ws ds → RKs K H β (ws.map fun kv => if kv.1 = k then (kv.1, v) else kv) (ds.map fun kv => if kv.1 = k then (kv.1, d) else kv)
  | _, _, .nil => .nil
  | (k', v') :: ws, (_, d') :: ds, .cons q t => by
    rw [List.map_cons, List.map_cons]
    by_cases e : k' = k
    · rw [if_pos e, if_pos e]; exact .cons r (RKs.repl r t)
    · rw [if_neg e, if_neg e]; exact .cons q (RKs.repl r t)
theorem RKs.put {ws : List (κ × V)} {ds : List (κ × A)} {k : κ} {v : V} {d : A} (h : RKs K H β ws ds) (r : RV K H β v d) : RKs K H β (putK ws k v) (putKA ds k d) := by
  unfold putK putKA
  rw [RKs.any (p := fun z => decide (z = k)) h]
  split
  · exact h.repl r
  · exact h.append (.cons r .nil)
theorem RKs.keys : ∀ {ws : List (κ × V)} {ds : List (κ × A)}, RKs K H β ws ds → ws.map (·.1) = ds.map (·.1)
  | _, _, .nil => rfl
  | _, _, .cons _ t => by rw [List.map_cons, List.map_cons, RKs.keys t]
end

/-! ### in, not in -/
def flatA : A → Bool
  | .non => true
  | .bl _ => true
  | .int _ => true
  | .str _ => true
  | _ => false
def eqF : A → A → Bool
  | .non, .non => true
  | .bl a, .bl b => a == b
  | .bl a, .int b => (if a then 1 else 0) == b
  | .int a, .bl b => a == (if b then 1 else 0)
  | .int a, .int b => a == b
  | .str a, .str b => a == b
  | _, _ => false
def inF (x : A) (xs : List A) : Bool := xs.any fun y => eqF y x
section
variable {K : PySem.W.Frag} {H : Hp} {β : List Addr}
theorem RV.flat {v : V} {d : A} (r : RV K H β v d) : flatA d = true → flatV v = true := by cases r <;> intro h <;> first | rfl | exact absurd h Bool.false_ne_true
theorem RV.eqV {v u : V} {d e : A} (r : RV K H β v d) (q : RV K H β u e) (hd : flatA d = true) (he : flatA e = true) : eqV v u = eqF d e := by
  cases r <;> first | exact absurd hd Bool.false_ne_true | (cases q <;> first | exact absurd he Bool.false_ne_true | rfl)
theorem RVs.flat : ∀ {vs : List V} {ds : List A}, RVs K H β vs ds → ds.all flatA = true → vs.all flatV = true
  | _, _, .nil, _ => rfl
  | _, _, .cons r t, h => by
    rw [List.all_cons, Bool.and_eq_true] at h ⊢
    exact ⟨r.flat h.1, RVs.flat t h.2⟩
theorem RVs.inV {v : V} {d : A} (r : RV K H β v d) (hd : flatA d = true) : ∀ {vs : List V} {ds : List A}, RVs K H β vs ds → ds.all flatA = true → inV v vs = inF d ds
  | _, _, .nil, _ => rfl
  | _, _, .cons q t, h => by
    rw [List.all_cons, Bool.and_eq_true] at h
    have ih := RVs.inV r hd t h.2
    unfold L2.inV at ih ⊢
    unfold inF at ih ⊢
    rw [List.any_cons, List.any_cons, ih, q.eqV r h.1 hd]
end
def inA (neg : Bool) : AR2 := fun x y μ Q => match y with
  | .tup xs => flatA x = true ∧ xs.all flatA = true ∧ Q (.bl (neg != inF x xs)) μ
  | .str t => match x with
    | .str s => Q (.bl (neg != !(Builtin.Str.occurrences t s 0 t.length 1).isEmpty)) μ
    | _ => False
  | .ref k => match μ[k]? with
    | some (.lst xs) => (flatA x = true ∧ xs.all flatA = true ∧ Q (.bl (neg != inF x xs)) μ) ∨ ∃ d ds, PyD μ x d ∧ PyDs μ xs ds ∧ SeqAt.shaped d = true ∧ SeqAt.shaped (.list ds) = true ∧ Q (.bl (neg != ds.any fun z => PyData.eqv z d)) μ
    | some (.dk kvs) => ∃ key, keyOf x = some key ∧ Q (.bl (neg != (lookK kvs key).isSome)) μ
    | some (.lk _ _ kvs) => ∃ key, keyOf x = some key ∧ Q (.bl (neg != (lookK kvs key).isSome)) μ
    | _ => False
  | _ => False
theorem look_isSome {K : PySem.W.Frag} {H : Hp} {β : List Addr} {ws : List (Key × V)} {ds : List (Key × A)} (h : RKs K H β ws ds) (k : Key) : (valV ws k).isSome = (lookK ds k).isSome := by
  rcases h.look k with ⟨a, b⟩ | ⟨d, v, a, b, _⟩
  · rw [a, b] <;> rfl
  · rw [a, b] <;> rfl
def rDIn : R2 := fun y x H Q => ∃ a o, x = .ref a ∧ DGet H a y o ∧ Q (.bl o.isSome) H
def rDNotIn : R2 := fun y x H Q => ∃ a o, x = .ref a ∧ DGet H a y o ∧ Q (.bl (!o.isSome)) H
theorem op_dIn (hu : X.A.units + 1 < cLine) : OpR X (compareOp .In) rDIn := by
  intro pins s σ H y x iv u Q I ry rx h
  obtain ⟨a, o, rfl, g, q⟩ := h
  obtain rfl : u = Value.ref a := rx
  exact d_in hu I g ry fun s3 I3 => ⟨.bl o.isSome, H, I3, rfl, q⟩
theorem op_dNotIn (hu : X.A.units + 1 < cLine) : OpR X (compareOp .NotIn) rDNotIn := by
  intro pins s σ H y x iv u Q I ry rx h
  obtain ⟨a, o, rfl, g, q⟩ := h
  obtain rfl : u = Value.ref a := rx
  exact d_notIn hu I g ry fun s3 I3 => ⟨.bl (!o.isSome), H, I3, rfl, q⟩
theorem bxor_f (b : Bool) : (false != b) = b := by cases b <;> rfl
theorem bxor_t (b : Bool) : (true != b) = !b := by cases b <;> rfl
end
end XL

/-! XL5: in, subscripts, slices, displays, arguments. -/
namespace XL
open PySem L2
section
variable {X : Cx}
theorem in_core {K : PySem.W.Frag} {neg : Bool} {x y : V} {H : Hp} {P : VK} {β : List Addr} {μ : Mem} {dx dy : A} {Q : AK} (M : Mst K H β μ) (rx : RV K H β x dx) (ry : RV K H β y dy) (h : inA neg dx dy μ Q) (k : Kn K H β Q P) :
    (∃ p xs, y = .ref p ∧ (SqL K H p xs ∨ SqT K H p xs) ∧ flatV x = true ∧ xs.all flatV = true ∧ P (.bl (neg != inV x xs)) H) ∨
    (∃ d ds, Dp K H x d ∧ Dp K H y (.list ds) ∧ SeqAt.shaped d = true ∧ SeqAt.shaped (.list ds) = true ∧ P (.bl (neg != ds.any fun z => PyData.eqv z d)) H) ∨
    (∃ a o, y = .ref a ∧ DGet H a x o ∧ P (.bl (neg != o.isSome)) H) ∨
    (∃ i j, x = .str i ∧ y = .str j ∧ P (.bl (neg != (!(Builtin.Str.occurrences j i 0 j.length 1).isEmpty))) H) := by
  cases dy with
  | tup xs =>
    obtain ⟨f1, f2, q⟩ := h
    obtain ⟨a, vs, rfl, hs, ra⟩ := ry.tup_inv
    refine .inl ⟨a, vs, rfl, .inr hs, rx.flat f1, ra.flat f2, ?_⟩
    rw [RVs.inV rx f1 ra f2]
    exact kn_here k M (.bl _) q
  | str t =>
    cases dx with
    | str s => exact .inr (.inr (.inr ⟨s, t, rx.str_inv, ry.str_inv, kn_here k M (.bl _) h⟩))
    | _ => exact h.elim
  | ref m =>
    obtain ⟨a, rfl, ha⟩ := ry.ref_inv
    have h' : (match μ[m]? with
      | some (.lst xs) => (flatA dx = true ∧ xs.all flatA = true ∧ Q (.bl (neg != inF dx xs)) μ) ∨ ∃ d ds, PyD μ dx d ∧ PyDs μ xs ds ∧ SeqAt.shaped d = true ∧ SeqAt.shaped (.list ds) = true ∧ Q (.bl (neg != ds.any fun z => PyData.eqv z d)) μ
      | some (.dk kvs) => ∃ key, keyOf dx = some key ∧ Q (.bl (neg != (lookK kvs key).isSome)) μ
      | some (.lk _ _ kvs) => ∃ key, keyOf dx = some key ∧ Q (.bl (neg != (lookK kvs key).isSome)) μ
      | _ => False) := h
    split at h'
    · rename_i xs e
      obtain ⟨vs, q1, r1⟩ := M.ok _ _ _ e ha
      rcases h' with ⟨f1, f2, q⟩ | ⟨d, ds, p1, p2, s1, s2, q⟩
      · refine .inl ⟨a, vs, rfl, .inl (.inl (.inl q1)), rx.flat f1, r1.flat f2, ?_⟩
        rw [RVs.inV rx f1 r1 f2]
        exact kn_here k M (.bl _) q
      · exact .inr (.inl ⟨d, ds, p1.dp M rx, .lst (.inl (.inl q1)) (PyDs.dp M p2 r1), s1, s2, kn_here k M (.bl _) q⟩)
    · rename_i kvs e
      obtain ⟨ws, q1, r1⟩ := M.ok _ _ _ e ha
      obtain ⟨key, e1, q⟩ := h'
      refine .inr (.inr (.inl ⟨a, valV ws key, rfl, .inl ⟨ws, key, .inl q1, rx.key e1, rfl⟩, ?_⟩))
      rw [look_isSome r1]
      exact kn_here k M (.bl _) q
    · rename_i o ws kvs e
      obtain ⟨q1, r1⟩ := M.ok _ _ _ e ha
      obtain ⟨key, e1, q⟩ := h'
      refine .inr (.inr (.inl ⟨a, valV ws key, rfl, .inl ⟨ws, key, .inr ⟨o, q1⟩, rx.key e1, rfl⟩, ?_⟩))
      rw [look_isSome r1]
      exact kn_here k M (.bl _) q
    · exact h'.elim
  | _ => exact h.elim
theorem xo_in (hu : X.A.units + 65 < cLine) : OpR X (compareOp .In) (rA2 X.K (inA false)) := by
  refine opr_imp (opr_or op_in_seq (opr_or (op_inD hu) (opr_or (op_dIn (by omega)) op_in_str))) ?_
  rintro x y H P ⟨β, μ, dx, dy, Q, M, rx, ry, h, k⟩
  rcases in_core M rx ry h k with ⟨p, xs, e, s, f1, f2, q⟩ | ⟨d, ds, p1, p2, s1, s2, q⟩ | ⟨a, o, e, g, q⟩ | ⟨i, j, e1, e2, q⟩
  · rw [bxor_f] at q; exact .inl ⟨p, xs, e, s, f1, f2, q⟩
  · rw [bxor_f] at q; exact .inr (.inl ⟨d, ds, p1, p2, s1, s2, q⟩)
  · rw [bxor_f] at q; exact .inr (.inr (.inl ⟨a, o, e, g, q⟩))
  · rw [bxor_f] at q; exact .inr (.inr (.inr ⟨i, j, e1, e2, q⟩))
theorem xo_notin (hu : X.A.units + 65 < cLine) : OpR X (compareOp .NotIn) (rA2 X.K (inA true)) := by
  refine opr_imp (opr_or op_notIn_seq (opr_or (op_notInD hu) (opr_or (op_dNotIn (by omega)) op_notIn_str))) ?_
  rintro x y H P ⟨β, μ, dx, dy, Q, M, rx, ry, h, k⟩
  rcases in_core M rx ry h k with ⟨p, xs, e, s, f1, f2, q⟩ | ⟨d, ds, p1, p2, s1, s2, q⟩ | ⟨a, o, e, g, q⟩ | ⟨i, j, e1, e2, q⟩
  · rw [bxor_t] at q; exact .inl ⟨p, xs, e, s, f1, f2, q⟩
  · rw [bxor_t] at q; exact .inr (.inl ⟨d, ds, p1, p2, s1, s2, q⟩)
  · rw [bxor_t] at q; exact .inr (.inr (.inl ⟨a, o, e, g, q⟩))
  · rw [bxor_t] at q; exact .inr (.inr (.inr ⟨i, j, e1, e2, q⟩))

/-! ### a[i] -/
def ixA : AR2 := fun x y μ Q => match x with
  | .tup xs => match y with
    | .int i => ∃ d, atI xs i = some d ∧ Q d μ
    | _ => False
  | .frl xs => match y with
    | .int i => ∃ d, atI xs i = some d ∧ Q d μ
    | _ => False
  | .str s => match y with
    | .int i => ∃ c, s.length ≤ sizeLine ∧ atI s.cps.toList i = some c ∧ Q (.str ⟨#[c]⟩) μ
    | _ => False
  | .ref k => match μ[k]? with
    | some (.lst xs) => match y with
      | .int i => ∃ d, atI xs i = some d ∧ Q d μ
      | _ => False
    | some (.dk kvs) => ∃ key d, keyOf y = some key ∧ lookK kvs key = some d ∧ Q d μ
    | some (.lk _ _ kvs) => ∃ key d, keyOf y = some key ∧ lookK kvs key = some d ∧ Q d μ
    | _ => False
  | _ => False
theorem RVs.atI {K : PySem.W.Frag} {H : Hp} {β : List Addr} {vs : List V} {ds : List A} {i : Int} {d : A} (r : RVs K H β vs ds) (h : atI ds i = some d) : ∃ v, L2.atI vs i = some v ∧ RV K H β v d := by
  unfold L2.atI at h ⊢
  rw [r.length]
  cases e : ixN ds.length i with
  | none => rw [e] at h; cases h
  | some j =>
    rw [e] at h
    exact r.getD h
def rIxD : R2 := fun x y H Q => ∃ a v, x = .ref a ∧ DGet H a y (some v) ∧ Q v H
theorem ix_dict (hu : X.A.units + 1 < cLine) : IxR X rIxD := by
  intro value slice pins s σ H x y v u Q I rx ry h hs
  obtain ⟨a, w, rfl, g, q⟩ := h
  obtain rfl : v = Value.ref a := rx
  exact PyProof.Rows.tail_any (dict_typeIs I g) PySem.F.slot_dict_getitem.lookup (d_getItem hu I g ry fun w' s3 I3 rw' => ⟨w, H, I3, rw', q⟩) hs
theorem xi_ix (hu : X.A.units + 1 < cLine) : IxR X (rA2 X.K ixA) := by
  have base := (ix_list (X := X)).or ((ix_tup (X := X)).or ((ix_str (X := X)).or (ix_dict hu)))
  intro value slice pins s σ H x y v u P I rv ru h hs
  refine base value slice pins s σ H x y v u P I rv ru ?_ hs
  obtain ⟨β, μ, dx, dy, Q, M, rx, ry, h, k⟩ := h
  cases dx with
  | tup xs =>
    cases dy with
    | int i =>
      obtain ⟨d, e, q⟩ := h
      obtain ⟨a, vs, rfl, hs, ra⟩ := rx.tup_inv
      obtain ⟨z, e', rz⟩ := ra.atI e
      exact .inr (.inl ⟨a, vs, i, z, rfl, ry.int_inv, hs, e', kn_here k M rz q⟩)
    | _ => exact h.elim
  | frl xs =>
    cases dy with
    | int i =>
      obtain ⟨d, e, q⟩ := h
      obtain ⟨a, vs, rfl, hs, ra⟩ := rx.frl_inv
      obtain ⟨z, e', rz⟩ := ra.atI e
      exact .inl ⟨a, vs, i, z, rfl, ry.int_inv, hs.sq, e', kn_here k M rz q⟩
    | _ => exact h.elim
  | str z =>
    cases dy with
    | int i =>
      obtain ⟨c, hz, e, q⟩ := h
      exact .inr (.inr (.inl ⟨z, i, c, rx.str_inv, ry.int_inv, hz, e, kn_here k M (.str _) q⟩))
    | _ => exact h.elim
  | ref m =>
    obtain ⟨a, rfl, ha⟩ := rx.ref_inv
    have h' := h
    unfold ixA at h'
    dsimp only at h'
    split at h'
    · rename_i xs e
      obtain ⟨vs, q1, r1⟩ := M.ok _ _ _ e ha
      cases dy with
      | int i =>
        obtain ⟨d, e, q⟩ := h'
        obtain ⟨z, e', rz⟩ := r1.atI e
        exact .inl ⟨a, vs, i, z, rfl, ry.int_inv, .inl (.inl q1), e', kn_here k M rz q⟩
      | _ => exact h'.elim
    · rename_i kvs e
      obtain ⟨ws, q1, r1⟩ := M.ok _ _ _ e ha
      obtain ⟨key, d, e1, e2, q⟩ := h'
      rcases r1.look key with ⟨n1, _⟩ | ⟨d', w, n1, n2, rd⟩
      · rw [n1] at e2; cases e2
      · rw [n1] at e2; cases e2
        exact .inr (.inr (.inr ⟨a, w, rfl, .inl ⟨ws, key, .inl q1, ry.key e1, n2.symm⟩, kn_here k M rd q⟩))
    · rename_i o ws kvs e
      obtain ⟨q1, r1⟩ := M.ok _ _ _ e ha
      obtain ⟨key, d, e1, e2, q⟩ := h'
      rcases r1.look key with ⟨n1, _⟩ | ⟨d', w, n1, n2, rd⟩
      · rw [n1] at e2; cases e2
      · rw [n1] at e2; cases e2
        exact .inr (.inr (.inr ⟨a, w, rfl, .inl ⟨ws, key, .inr ⟨o, q1⟩, ry.key e1, n2.symm⟩, kn_here k M rd q⟩))
    · exact h'.elim
  | _ => exact h.elim
theorem xe_ix {a b : Expr} {ta tb : ATE} {pos : Pos} (hu : X.A.units + 1 < cLine) (ha : PEA X a ta) (hb : PEA X b tb) (hs : PlainIx b) : PEA X (.Subscript a b pos) (aOp ixA ta tb) := pe_imp (pe_ix (xi_ix hu) ha hb hs) aOp_ok

/-! ### a[lo:hi] -/
def cutA (xs : List A) (lo hi : Option Int) : List A := (xs.drop (HT.sIx xs.length 0 lo)).take (HT.sIx xs.length xs.length hi - HT.sIx xs.length 0 lo)
theorem RVs.cut {K : PySem.W.Frag} {H : Hp} {β : List Addr} {vs : List V} {ds : List A} (r : RVs K H β vs ds) (lo hi : Option Int) : RVs K H β (cutV vs lo hi) (cutA ds lo hi) := by
  unfold cutV cutA
  rw [r.length]
  exact (r.drop _).take _
theorem cutA_whole {xs : List A} {lo hi : Option Int} (h : HT.sIx xs.length 0 lo = 0 ∧ HT.sIx xs.length xs.length hi = xs.length) : cutA xs lo hi = xs := by
  unfold cutA
  rw [h.1, h.2]
  simp
def slA (x : A) (lo hi : Option Int) (μ : Mem) (Q : AK) : Prop := match x with
  | .tup xs => Q (.tup (cutA xs lo hi)) μ
  | .str z => z.length ≤ sizeLine ∧ Q (.str (cutS z lo hi)) μ
  | _ => False
/-- a list's slice is a new list -/
def slAL (x : A) (lo hi : Option Int) (μ : Mem) (Q : List A → Mem → Prop) : Prop := match x with
  | .frl xs => Q (cutA xs lo hi) μ
  | .ref k => match μ[k]? with
    | some (.lst xs) => Q (cutA xs lo hi) μ
    | _ => False
  | _ => False
abbrev ATO := AEnv → Mem → (Option Int → Mem → Prop) → Prop
def tAO (K : PySem.W.Frag) (a : ATO) : TO := fun σ H P => ∃ β ρ μ Q, Fr K σ H β ρ ∧ Mst K H β μ ∧ a ρ μ Q ∧ ∀ o H' β' μ', Le H β H' β' → Mst K H' β' μ' → Q o μ' → P o H'
abbrev POA (X : Cx) (e : Option Expr) (a : ATO) : Prop := PO X e (tAO X.K a)
def aNoPart : ATO := fun _ μ Q => Q none μ
def aPart (a : ATE) : ATO := fun ρ μ Q => a ρ μ fun d μ1 => match d with
  | .int i => Q (some i) μ1
  | _ => False
theorem po_imp {e : Option Expr} {t t' : TO} (h : PO X e t) (i : ∀ σ H P, t' σ H P → t σ H P) : PO X e t' := ⟨fun pins s σ H Q I q => h.run pins s σ H Q I (i σ H Q q)⟩
theorem xp_none : POA X none aNoPart := po_imp po_none fun σ H P ⟨β, ρ, μ, Q, F, M, h, k⟩ => k none H β μ (Le.refl _ _) M h
theorem xp_some {e : Expr} {a : ATE} (h : PEA X e a) : POA X (some e) (aPart a) := po_imp (po_some h) fun σ H P ⟨β, ρ, μ, Q, F, M, h, k⟩ => ⟨β, ρ, μ, _, F, M, h, fun v H1 β1 d μ1 L1 M1 r1 h1 => by
  cases d with
  | int i => exact ⟨i, r1.int_inv, k _ H1 β1 μ1 L1 M1 h1⟩
  | _ => exact h1.elim⟩
def aSl (a : ATE) (lo hi : ATO) : ATE := fun ρ μ Q => a ρ μ fun x μ1 => lo ρ μ1 fun l μ2 => hi ρ μ2 fun u μ3 => slA x l u μ3 Q
def aSlL (a : ATE) (lo hi : ATO) : ATA := fun ρ μ Q => a ρ μ fun x μ1 => lo ρ μ1 fun l μ2 => hi ρ μ2 fun u μ3 => slAL x l u μ3 Q
theorem xe_sl {e : Expr} {lo hi : Option Expr} {a : ATE} {tl th : ATO} {p2 pos : Pos} (he : PEA X e a) (hl : POA X lo tl) (hh : POA X hi th) : PEA X (.Subscript e (.Slice lo hi none p2) pos) (aSl a tl th) := by
  refine pe_imp (pe_slice (sl_tupA.or sl_str) he hl hh) fun σ H P ⟨β, ρ, μ, Q, F, M, h, k⟩ => ?_
  refine ⟨β, ρ, μ, _, F, M, h, fun v H1 β1 d μ1 L1 M1 r1 h1 => ⟨β1, ρ, μ1, _, F.mono L1.r, M1, h1, fun l H2 β2 μ2 L2 M2 h2 => ⟨β2, ρ, μ2, _, F.mono (L1.trans L2).r, M2, h2, fun u H3 β3 μ3 L3 M3 h3 => ?_⟩⟩⟩
  have k3 := k.le ((L1.trans L2).trans L3)
  have r3 := r1.mono (L2.trans L3).r
  cases d with
  | tup xs =>
    obtain ⟨a, vs, rfl, hs, ra⟩ := r3.tup_inv
    refine .inl ⟨a, vs, rfl, hs, fun e => ?_, fun _ => kn_tup k3 M3 (ra.cut l u) h3⟩
    have q : Q (.tup (cutA xs l u)) μ3 := h3
    rw [cutA_whole (by rw [← ra.length]; exact e)] at q
    exact kn_here k3 M3 r3 q
  | str z => exact .inr ⟨z, r3.str_inv, h3.1, kn_here k3 M3 (.str _) h3.2⟩
  | _ => exact h3.elim
theorem knl_new {K : PySem.W.Frag} {H0 H : Hp} {β0 β : List Addr} {μ : Mem} {Q : List A → Mem → Prop} {P : VK} {vs : List V} {ds : List A} (k : KnL K H0 β0 Q P) (L : Le H0 β0 H β) (M : Mst K H β μ) (r : RVs K H β vs ds) (q : Q ds μ) : ∀ p, H p = none → P (.ref p) (upd H p (.lst vs)) := fun p hp => by
  have L' : Le H β (upd H p (.lst vs)) β := Le.push M hp
  exact k _ _ _ _ _ _ (L.trans L') (M.push hp) upd_same (M.fresh hp) (L.free M hp) (r.mono L'.r) q
theorem xl_sl {e : Expr} {lo hi : Option Expr} {a : ATE} {tl th : ATO} {p2 pos : Pos} (he : PEA X e a) (hl : POA X lo tl) (hh : POA X hi th) : PLA X (.Subscript e (.Slice lo hi none p2) pos) (aSlL a tl th) := by
  refine pe_imp (pe_slice sl_list he hl hh) fun σ H P ⟨β, ρ, μ, Q, F, M, h, k⟩ => ?_
  refine ⟨β, ρ, μ, _, F, M, h, fun v H1 β1 d μ1 L1 M1 r1 h1 => ⟨β1, ρ, μ1, _, F.mono L1.r, M1, h1, fun l H2 β2 μ2 L2 M2 h2 => ⟨β2, ρ, μ2, _, F.mono (L1.trans L2).r, M2, h2, fun u H3 β3 μ3 L3 M3 h3 => ?_⟩⟩⟩
  have L := ((L1.trans L2).trans L3)
  have r3 := r1.mono (L2.trans L3).r
  cases d with
  | frl xs =>
    obtain ⟨a, vs, rfl, hs, ra⟩ := r3.frl_inv
    exact ⟨a, vs, rfl, hs.sq, knl_new k L M3 (ra.cut l u) h3⟩
  | ref m =>
    obtain ⟨a, rfl, ha⟩ := r3.ref_inv
    have h' : (match μ3[m]? with
      | some (.lst xs) => Q (cutA xs l u) μ3
      | _ => False) := h3
    split at h'
    · rename_i xs e
      obtain ⟨vs, q1, q2⟩ := M3.ok _ _ _ e ha
      exact ⟨a, vs, rfl, .inl (.inl q1), knl_new k L M3 (q2.cut l u) h'⟩
    · exact h'.elim
  | _ => exact h3.elim
/-- a new list as a value: a cell -/
def aCell (a : ATA) : ATE := fun ρ μ Q => a ρ μ fun ds μ1 => Q (.ref μ1.length) (μ1 ++ [.lst ds])
theorem Kn.cell {K : PySem.W.Frag} {H : Hp} {β : List Addr} {Q : AK} {P : VK} (k : Kn K H β Q P) : KnL K H β (fun ds μ1 => Q (.ref μ1.length) (μ1 ++ [.lst ds])) P := fun p H' β' vs ds μ' L M hp hn h0 r q => by
  refine k (.ref p) H' (β' ++ [p]) _ _ (Le.own M L h0) (M.cell hn (c := .lst ds) ⟨vs, hp, r.mono (Ler.more _ _ _)⟩) (.ref ?_) q
  rw [← M.len, List.getElem?_append_right (Nat.le_refl _), Nat.sub_self]
  rfl
theorem xe_cell {e : Expr} {a : ATA} (h : PLA X e a) : PEA X e (aCell a) := pe_imp h fun σ H P ⟨β, ρ, μ, Q, F, M, h, k⟩ => ⟨β, ρ, μ, _, F, M, h, k.cell⟩

/-! ### arguments, displays -/
def aNil : ATA := fun _ μ Q => Q [] μ
def aCons (a : ATE) (b : ATA) : ATA := fun ρ μ Q => a ρ μ fun d μ1 => b ρ μ1 fun ds μ2 => Q (d :: ds) μ2
theorem xa_nil : PAA X [] aNil := pa_imp pa_nil fun σ H P ⟨β, ρ, μ, Q, F, M, h, k⟩ => k [] H β [] μ (Le.refl _ _) M .nil h
theorem xa_cons {e : Expr} {es : List Expr} {a : ATE} {b : ATA} (ha : PEA X e a) (hr : PAA X es b) (hs : starEach (e :: es) X.env = (false, eval e X.env) :: starEach es X.env := by rfl) : PAA X (e :: es) (aCons a b) :=
  pa_imp (pa_cons ha hr hs) fun σ H P ⟨β, ρ, μ, Q, F, M, h, k⟩ => ⟨β, ρ, μ, _, F, M, h, fun v H1 β1 d μ1 L1 M1 r1 h1 => ⟨β1, ρ, μ1, _, F.mono L1.r, M1, h1, fun vs H2 β2 ds μ2 L2 M2 r2 h2 => k _ H2 β2 _ μ2 (L1.trans L2) M2 (.cons (r1.mono L2.r) r2) h2⟩⟩
def aTup (a : ATA) : ATE := fun ρ μ Q => a ρ μ fun ds μ1 => ds.length ≤ sizeLine ∧ Q (.tup ds) μ1
def aLst (a : ATA) : ATA := fun ρ μ Q => a ρ μ fun ds μ1 => ds.length ≤ sizeLine ∧ Q ds μ1
theorem xe_tup {es : List Expr} {a : ATA} {x1 : Nat} {pos : Pos} (h : PAA X es a) : PEA X (.Tuple es x1 pos) (aTup a) := pe_imp (pe_tup h) fun σ H P ⟨β, ρ, μ, Q, F, M, h, k⟩ =>
  ⟨β, ρ, μ, _, F, M, h, fun vs H1 β1 ds μ1 L1 M1 r1 ⟨z, q⟩ => ⟨by rw [r1.length]; exact z, kn_tup (k.le L1) M1 r1 q⟩⟩
theorem xl_lst {es : List Expr} {a : ATA} {pos : Pos} (h : PAA X es a) : PLA X (.List es pos) (aLst a) := pe_imp (pe_lst h) fun σ H P ⟨β, ρ, μ, Q, F, M, h, k⟩ =>
  ⟨β, ρ, μ, _, F, M, h, fun vs H1 β1 ds μ1 L1 M1 r1 ⟨z, q⟩ => ⟨by rw [r1.length]; exact z, knl_new k L1 M1 r1 q⟩⟩
end
end XL

/-! XL6: statements, targets, loops. -/
namespace XL
open PySem L2
section
variable {X : Cx}
/-! ### targets -/
abbrev ATG := A → AEnv → Mem → (AEnv → Mem → Prop) → Prop
abbrev ATGs := List A → AEnv → Mem → (AEnv → Mem → Prop) → Prop
def KnG (K : PySem.W.Frag) (H : Hp) (β : List Addr) (Q : AEnv → Mem → Prop) (P : L2.St → Hp → Prop) : Prop := ∀ σ' H' β' ρ' μ', Le H β H' β' → Fr K σ' H' β' ρ' → Mst K H' β' μ' → Q ρ' μ' → P σ' H'
theorem KnG.le {K : PySem.W.Frag} {H H1 : Hp} {β β1 : List Addr} {Q : AEnv → Mem → Prop} {P : L2.St → Hp → Prop} (k : KnG K H β Q P) (L : Le H β H1 β1) : KnG K H1 β1 Q P := fun σ' H' β' ρ' μ' L' => k σ' H' β' ρ' μ' (L.trans L')
def tAG (K : PySem.W.Frag) (g : ATG) : TG := fun v σ H P => ∃ d β ρ μ Q, Fr K σ H β ρ ∧ Mst K H β μ ∧ RV K H β v d ∧ g d ρ μ Q ∧ KnG K H β Q P
def tAGs (K : PySem.W.Frag) (g : ATGs) : TGs := fun vs σ H P => ∃ ds β ρ μ Q, Fr K σ H β ρ ∧ Mst K H β μ ∧ RVs K H β vs ds ∧ g ds ρ μ Q ∧ KnG K H β Q P
abbrev PGA (X : Cx) (e : Expr) (g : ATG) : Prop := PG X e (tAG X.K g)
abbrev PGsA (X : Cx) (es : List Expr) (g : ATGs) : Prop := PGs X es (tAGs X.K g)
theorem pg_imp {e : Expr} {t t' : TG} (h : PG X e t) (i : ∀ v σ H P, t' v σ H P → t v σ H P) : PG X e t' := ⟨fun pins s σ H v u Q I r q => h.run pins s σ H v u Q I r (i v σ H Q q)⟩
theorem pgs_imp {e : List Expr} {t t' : TGs} (h : PGs X e t) (i : ∀ v σ H P, t' v σ H P → t v σ H P) : PGs X e t' := ⟨fun pins s σ H v u Q I r q => h.run pins s σ H v u Q I r (i v σ H Q q)⟩
def gaName (i : Nat) : ATG := fun d ρ μ Q => Q (ρ.set i (some d)) μ
theorem xg_name {i : Nat} {x : Str} {pos : Pos} (hN : X.N.Nodup) (hi : X.N[i]? = some x) (hx : Loc X.env.scope x) (hf : X.fn x = true ∨ X.env.scope.names.lookup x = some .local := by first | exact .inl rfl | exact .inr rfl | assumption) : PGA X (.Name x pos) (gaName i) :=
  pg_imp (pg_name hN hi hx hf) fun v σ H P ⟨d, β, ρ, μ, Q, F, M, r, h, k⟩ => k _ H β _ μ (Le.refl _ _) (F.set r i) M h
def gaNil : ATGs := fun ds ρ μ Q => ds = [] ∧ Q ρ μ
def gaCons (t : ATG) (u : ATGs) : ATGs := fun ds ρ μ Q => match ds with
  | d :: r => t d ρ μ fun ρ' μ' => u r ρ' μ' Q
  | [] => False
theorem xgs_nil : PGsA X [] gaNil := pgs_imp pgs_nil fun vs σ H P ⟨ds, β, ρ, μ, Q, F, M, r, ⟨e, h⟩, k⟩ => by
  subst e
  cases r
  exact ⟨rfl, k _ H β _ μ (Le.refl _ _) F M h⟩
theorem xgs_cons {e : Expr} {es : List Expr} {t : ATG} {u : ATGs} (h1 : PGA X e t) (h2 : PGsA X es u)
    (hs : (assignEach (e :: es) X.env).map (·.2) = assign e X.env :: (assignEach es X.env).map (·.2) := by rfl) : PGsA X (e :: es) (gaCons t u) := pgs_imp (pgs_cons h1 h2 hs) fun vs σ H P ⟨ds, β, ρ, μ, Q, F, M, r, h, k⟩ => by
  cases r with
  | nil => exact h.elim
  | cons r1 r2 => exact ⟨_, _, rfl, _, β, ρ, μ, _, F, M, r1, h, fun σ' H' β' ρ' μ' L F' M' q => ⟨_, β', ρ', μ', Q, F', M', r2.mono L.r, q, k.le L⟩⟩
def gaTup (n : Nat) (t : ATGs) : ATG := fun d ρ μ Q => match d with
  | .tup ds => ds.length = n ∧ t ds ρ μ Q
  | _ => False
theorem xg_tup {es : List Expr} {k : Nat} {t : ATGs} {n : Nat} {pos : Pos} (hc : X.calm = true) (h : PGsA X es t)
    (hn : (assignEach es X.env).length = n := by rfl) (hst : (assignEach es X.env).findIdx? (·.1) = none := by rfl) : PGA X (.Tuple es k pos) (gaTup n t) := pg_imp (pg_tup hc h hn hst) fun v σ H P ⟨d, β, ρ, μ, Q, F, M, r, h, k⟩ => by
  cases d with
  | tup ds =>
    obtain ⟨a, vs, rfl, hs, ra⟩ := r.tup_inv
    exact ⟨a, vs, rfl, hs, by rw [ra.length]; exact h.1, ds, β, ρ, μ, Q, F, M, ra, h.2, k⟩
  | _ => exact h.elim
/-- o[i] = v, by values: a list's place, a dict's key -/
def setA (o i v : A) (μ : Mem) (Q : Mem → Prop) : Prop := match o with
  | .ref k => match μ[k]? with
    | some (.lst xs) => match i with
      | .int z => ∃ j, ixN xs.length z = some j ∧ Q (μ.set k (.lst (xs.set j v)))
      | _ => False
    | some (.dk kvs) => ∃ key, keyOf i = some key ∧ kvs.length < sizeLine ∧ Q (μ.set k (.dk (putKA kvs key v)))
    | _ => False
  | _ => False
def rA3 (K : PySem.W.Frag) : TSet := fun o i v H P => ∃ β μ d e f Q, Mst K H β μ ∧ RV K H β o d ∧ RV K H β i e ∧ RV K H β v f ∧ setA d e f μ Q ∧ ∀ H' β' μ', Le H β H' β' → Mst K H' β' μ' → Q μ' → P H'
theorem set_a (hu : X.A.units + 1 < cLine) : PSet X (rA3 X.K) := by
  intro pins s σ H o i v ov iv u P I ro ri rv h
  obtain ⟨β, μ, d, e, f, Q, M, rd, re, rf, h, k⟩ := h
  cases d with
  | ref m =>
    obtain ⟨a, rfl, ha⟩ := rd.ref_inv
    unfold setA at h
    dsimp only at h
    split at h
    · rename_i xs em
      have c := M.ok _ _ _ em ha
      have ns := c.lst_ns
      obtain ⟨vs, q1, r1⟩ := c
      cases e with
      | int z =>
        obtain ⟨j, hj, q⟩ := h
        refine set_list pins s σ H _ i v ov iv u P I ro ri rv ⟨a, vs, z, j, rfl, re.int_inv, q1, by rw [r1.length]; exact hj, ?_⟩
        have L : Le H β (upd H a (.lst (vs.set j v))) β := Le.put M em ha ns
        exact k _ β _ L (M.put (c' := .lst (xs.set j f)) em ha ns ⟨_, upd_same, (r1.set j rf).mono L.r⟩) q
      | _ => exact h.elim
    · rename_i kvs em
      have c := M.ok _ _ _ em ha
      have ns := c.dk_ns
      obtain ⟨ws, q1, r1⟩ := c
      obtain ⟨key, e1, hz, q⟩ := h
      obtain rfl : ov = Value.ref a := ro
      have L : Le H β (upd H a (.dK (putK ws key v))) β := Le.put M em ha ns
      refine d_setItem (H' := upd H a (.dK (putK ws key v))) hu I (.inl ⟨ws, key, q1, re.key e1, by rw [r1.length]; exact hz, rfl⟩) ri rv fun s' I' => ⟨_, I', ?_⟩
      exact k _ β _ L (M.put (c' := .dk (putKA kvs key f)) em ha ns ⟨_, upd_same, (r1.put rf).mono L.r⟩) q
    · exact h.elim
  | _ => exact h.elim
def gaSub (o i : ATE) : ATG := fun v ρ μ Q => o ρ μ fun d μ1 => i ρ μ1 fun e μ2 => setA d e v μ2 fun μ3 => Q ρ μ3
theorem xg_sub {o i : Expr} {to ti : ATE} {pos : Pos} (hu : X.A.units + 1 < cLine) (ho : PEA X o to) (hi : PEA X i ti)
    (ha : ∀ v, assign (.Subscript o i pos) X.env v = (do
      let ov ← holding [v] (eval o X.env)
      let iv ← holding [v, ov] (eval i X.env)
      standAt pos
      holding [v, ov, iv] (setItem ov iv v)
      release [v, ov, iv] []) := by intro _; rfl) : PGA X (.Subscript o i pos) (gaSub to ti) := pg_imp (pg_sub ho hi (set_a hu) ha) fun v σ H P ⟨d, β, ρ, μ, Q, F, M, r, h, k⟩ =>
  ⟨β, ρ, μ, _, F, M, h, fun o' H1 β1 d1 μ1 L1 M1 r1 h1 => ⟨β1, ρ, μ1, _, F.mono L1.r, M1, h1, fun i' H2 β2 d2 μ2 L2 M2 r2 h2 =>
    ⟨β2, μ2, d1, d2, d, _, M2, r1.mono L2.r, r2, r.mono (L1.trans L2).r, h2, fun H3 β3 μ3 L3 M3 q => k _ H3 β3 ρ μ3 ((L1.trans L2).trans L3) (F.mono ((L1.trans L2).trans L3).r) M3 q⟩⟩⟩

/-! ### statements -/
def aNext : ATS := fun D ρ μ => D.nx ρ μ
def aSeq (t u : ATS) : ATS := fun D ρ μ => t { D with nx := u D } ρ μ
theorem sk_here {K : PySem.W.Frag} {σ : L2.St} {H : Hp} {β : List Addr} {ρ : AEnv} {μ : Mem} {D : AEnds} {D' : Ends} (k : SK K H β D D') (F : Fr K σ H β ρ) (M : Mst K H β μ) (h : D.nx ρ μ) : D'.nx σ H := k.nx σ H β ρ μ (Le.refl _ _) F M h
theorem xss_nil : PSsA X [] aNext := pss_imp pss_nil fun D σ H ⟨β, ρ, μ, Q, F, M, h, k⟩ => sk_here k F M h
theorem xss_cons {s : Stmt} {ss : List Stmt} {t u : ATS} (h1 : PSA X s t) (h2 : PSsA X ss u) : PSsA X (s :: ss) (aSeq t u) := pss_imp (pss_cons h1 h2) fun D' σ H ⟨β, ρ, μ, D, F, M, h, k⟩ =>
  ⟨β, ρ, μ, _, F, M, h, ⟨fun σ' H' β' ρ' μ' L F' M' q => ⟨β', ρ', μ', D, F', M', q, k.le L⟩, k.rt, k.bk, k.ct⟩⟩
theorem xss_one {s : Stmt} {t : ATS} (h1 : PSA X s t) : PSsA X [s] t := pss_one h1
def aAsg (e : ATE) (g : ATG) : ATS := fun D ρ μ => e ρ μ fun d μ1 => g d ρ μ1 D.nx
theorem aAsg_ok {K : PySem.W.Frag} {e : ATE} {g : ATG} (D' : Ends) (σ : L2.St) (H : Hp) (h : tAS K (aAsg e g) D' σ H) : tAsg (tA K e) (tAG K g) D' σ H := by
  obtain ⟨β, ρ, μ, D, F, M, h, k⟩ := h
  exact ⟨β, ρ, μ, _, F, M, h, fun v H1 β1 d μ1 L1 M1 r1 h1 => ⟨d, β1, ρ, μ1, _, F.mono L1.r, M1, r1, h1, fun σ' H' β' ρ' μ' L F' M' q => k.nx σ' H' β' ρ' μ' (L1.trans L) F' M' q⟩⟩
theorem xs_asg {tg e : Expr} {te : ATE} {g : ATG} {pos : Pos} (he : PEA X e te) (hg : PGA X tg g) (hs : swapsWithSole [tg] e pos.line X.env = pure false := by rfl) (hw : swappedStores [tg] e X.env = pure none := by rfl)
    (h1 : (assignEach [tg] X.env).map (·.2) = [assign tg X.env] := by rfl) : PSA X (.Assign [tg] e pos) (aAsg te g) := ps_imp (ps_asg he hg hs hw h1) aAsg_ok
theorem gName_ok {K : PySem.W.Frag} {i : Nat} {v : V} {σ : L2.St} {H : Hp} {P : L2.St → Hp → Prop} (h : tAG K (gaName i) v σ H P) : gName i v σ H P := by
  obtain ⟨d, β, ρ, μ, Q, F, M, r, h, k⟩ := h
  exact k _ H β _ μ (Le.refl _ _) (F.set r i) M h
theorem xs_set {i : Nat} {x : Str} {e : Expr} {te : ATE} {pos pos' : Pos} (hN : X.N.Nodup) (hi : X.N[i]? = some x) (hx : Loc X.env.scope x) (he : PEA X e te) (hs : swapsWith e (some (.Name x pos')) pos.line X.env = pure false := by rfl) (hf : X.fn x = true ∨ X.env.scope.names.lookup x = some .local := by first | exact .inl rfl | exact .inr rfl | assumption) :
    PSA X (.Assign [.Name x pos'] e pos) (aAsg te (gaName i)) := ps_imp (ps_set hN hi hx he hs hf) fun D' σ H ⟨β, ρ, μ, D, F, M, h, k⟩ =>
  ⟨β, ρ, μ, _, F, M, h, fun v H1 β1 d μ1 L1 M1 r1 h1 => k.nx _ H1 β1 _ μ1 L1 ((F.mono L1.r).set r1 i) M1 h1⟩
/-- x op= e -/
def aAug (i : Nat) (e : ATE) (ra : AR2) : ATS := fun D ρ μ => match ρ[i]? with
  | some (some x) => e ρ μ fun y μ1 => ra x y μ1 fun z μ2 => D.nx (ρ.set i (some z)) μ2
  | _ => False
theorem xs_aug {op : Operator} {i : Nat} {x : Str} {e : Expr} {te : ATE} {ra : AR2} {pos pos' : Pos} (ho : OpR X (inplaceOp op) (rA2 X.K ra)) (hN : X.N.Nodup) (hi : X.N[i]? = some x) (hx : Loc X.env.scope x) (he : PEA X e te)
    (hf : X.fn x = true ∨ X.env.scope.names.lookup x = some .local := by first | exact .inl rfl | exact .inr rfl | assumption) : PSA X (.AugAssign (.Name x pos') op e pos) (aAug i te ra) := by
  refine ps_imp (ps_aug (ti := rA2 X.K ra) hN hi hx he ho hf) fun D' σ H ⟨β, ρ, μ, D, F, M, h, k⟩ => ?_
  unfold aAug at h
  split at h
  · rename_i d e
    obtain ⟨v, e', r⟩ := F.ok i d e
    exact ⟨v, e', β, ρ, μ, _, F, M, h, fun u H1 β1 d1 μ1 L1 M1 r1 h1 => ⟨β1, μ1, d, d1, _, M1, r.mono L1.r, r1, h1, fun z H2 β2 d2 μ2 L2 M2 r2 h2 => k.nx _ H2 β2 _ μ2 (L1.trans L2) ((F.mono (L1.trans L2).r).set r2 i) M2 h2⟩⟩
  · exact h.elim
theorem xi_add : OpR X (inplaceOp .Add) (rA2 X.K (intA0 (· + ·))) := xo_int0 iop_add
theorem xi_sub : OpR X (inplaceOp .Sub) (rA2 X.K (intA0 (· - ·))) := xo_int0 iop_sub
def aExpr (e : ATE) : ATS := fun D ρ μ => e ρ μ fun _ μ1 => D.nx ρ μ1
theorem xs_expr {e : Expr} {te : ATE} {pos : Pos} (he : PEA X e te) (hs : swapsWith e none pos.line X.env = pure false := by rfl) : PSA X (.Expr e pos) (aExpr te) := ps_imp (ps_expr he hs) fun D' σ H ⟨β, ρ, μ, D, F, M, h, k⟩ =>
  ⟨β, ρ, μ, _, F, M, h, fun v H1 β1 d μ1 L1 M1 r1 h1 => k.nx _ H1 β1 _ μ1 L1 (F.mono L1.r) M1 h1⟩
def aRet (e : ATE) : ATS := fun D ρ μ => e ρ μ D.rt
theorem xs_ret {e : Expr} {te : ATE} {pos : Pos} (he : PEA X e te) : PSA X (.Return (some e) pos) (aRet te) := ps_imp (ps_ret he) fun D' σ H ⟨β, ρ, μ, D, F, M, h, k⟩ => ⟨β, ρ, μ, _, F, M, h, k.rt⟩
def aIfS (c : ATT) (t u : ATS) : ATS := fun D ρ μ => c ρ μ fun b μ1 => if b = true then t D ρ μ1 else u D ρ μ1
theorem aIfS_ok {K : PySem.W.Frag} {c : ATT} {t u : ATS} (D' : Ends) (σ : L2.St) (H : Hp) (h : tAS K (aIfS c t u) D' σ H) : tIfS (tAT K c) (tAS K t) (tAS K u) D' σ H := by
  obtain ⟨β, ρ, μ, D, F, M, h, k⟩ := h
  refine ⟨β, ρ, μ, _, F, M, h, fun b H1 β1 μ1 L1 M1 h1 => ?_⟩
  cases b with
  | true => exact ⟨β1, ρ, μ1, D, F.mono L1.r, M1, h1, k.le L1⟩
  | false => exact ⟨β1, ρ, μ1, D, F.mono L1.r, M1, h1, k.le L1⟩
def aNever : ATS := fun _ _ _ => False
def aBreak : ATS := fun D ρ μ => D.bk ρ μ
def aCont : ATS := fun D ρ μ => D.ct ρ μ
def aPass : ATS := fun D ρ μ => D.nx ρ μ
/-- while -/
def aWhile (c : ATT) (b : ATS) : ATS := fun D ρ μ => ∃ W : Nat → AEnv → Mem → Prop, (∃ m, W m ρ μ) ∧ ∀ m ρ μ, W m ρ μ → c ρ μ fun t μ1 =>
  if t = true then b { D with nx := fun ρ' μ' => ∃ m', m' < m ∧ W m' ρ' μ', ct := fun ρ' μ' => ∃ m', m' < m ∧ W m' ρ' μ', bk := D.nx } ρ μ1 else D.nx ρ μ1
theorem aWhile_ok {K : PySem.W.Frag} {c : ATT} {b : ATS} (D' : Ends) (σ : L2.St) (H : Hp) (h : tAS K (aWhile c b) D' σ H) : tWhile (tAT K c) (tAS K b) D' σ H := by
  obtain ⟨β, ρ, μ, D, F, M, ⟨W, ⟨m0, w0⟩, turn⟩, k⟩ := h
  refine ⟨fun m σ' H' => ∃ β' ρ' μ', Le H β H' β' ∧ Fr K σ' H' β' ρ' ∧ Mst K H' β' μ' ∧ W m ρ' μ', ⟨m0, β, ρ, μ, Le.refl _ _, F, M, w0⟩, ?_⟩
  rintro m σ1 H1 ⟨β1, ρ1, μ1, L1, F1, M1, w1⟩
  refine ⟨β1, ρ1, μ1, _, F1, M1, turn m ρ1 μ1 w1, fun t H2 β2 μ2 L2 M2 h2 => ?_⟩
  cases t with
  | true =>
    refine ⟨fun σ' H' => ∃ m', m' < m ∧ ∃ β' ρ' μ', Le H β H' β' ∧ Fr K σ' H' β' ρ' ∧ Mst K H' β' μ' ∧ W m' ρ' μ', fun σ' H' ⟨m', hm, x⟩ => ⟨m', hm, x⟩, β2, ρ1, μ2, _, F1.mono L2.r, M2, h2, ?_⟩
    have L := L1.trans L2
    have kk := k.le L
    exact ⟨fun σ' H' β' ρ' μ' L' F' M' ⟨m', hm, q⟩ => ⟨m', hm, β', ρ', μ', L.trans L', F', M', q⟩, kk.rt, kk.nx, fun σ' H' β' ρ' μ' L' F' M' ⟨m', hm, q⟩ => ⟨m', hm, β', ρ', μ', L.trans L', F', M', q⟩⟩
  | false => exact (k.le (L1.trans L2)).nx σ1 H2 β2 ρ1 μ2 (Le.refl _ _) (F1.mono L2.r) M2 h2
theorem xs_while {c : Expr} {body : List Stmt} {tc : ATT} {tb : ATS} {pos : Pos} (hp : PassesOwn (model X.prog X.w) X.A X.env X.xe) (hc : PTA X c tc) (hb : PSsA X body tb) : PSA X (.While c body [] pos) (aWhile tc tb) := ps_imp (ps_while hp hc hb) aWhile_ok
theorem xs_if {c : Expr} {a b : List Stmt} {tc : ATT} {t u : ATS} {pos : Pos} (hc : PTA X c tc) (ha : PSsA X a t) (hb : PSsA X b u) : PSA X (.If c a b pos) (aIfS tc t u) := ps_imp (ps_if hc ha hb) aIfS_ok
theorem xs_never {st : Stmt} : PSA X st aNever := ps_imp ps_never fun D σ H ⟨β, ρ, μ, Q, F, M, h, k⟩ => h
theorem xs_pass {pos : Pos} : PSA X (.Pass pos) aNext := ps_imp ps_pass fun D σ H ⟨β, ρ, μ, Q, F, M, h, k⟩ => sk_here k F M h
theorem xs_break {pos : Pos} : PSA X (.Break pos) aBreak := ps_imp ps_break fun D σ H ⟨β, ρ, μ, Q, F, M, h, k⟩ => k.bk σ H β ρ μ (Le.refl _ _) F M h
theorem xs_cont {pos : Pos} : PSA X (.Continue pos) aCont := ps_imp ps_continue fun D σ H ⟨β, ρ, μ, Q, F, M, h, k⟩ => k.ct σ H β ρ μ (Le.refl _ _) F M h

/-! ### what is walked -/
def ItOk (K : PySem.W.Frag) (J : It) (xs : List A) (St : Mem → Prop) (H0 : Hp) (β0 : List Addr) : Prop := ∀ (H : Hp) (β : List Addr) (μ : Mem), Le H0 β0 H β → Mst K H β μ → St μ → ∀ i : Nat,
  (∀ d, xs[i]? = some d → J.go i H ∧ ∀ x H', J.yld i H x H' → Le H β H' β ∧ Mst K H' β μ ∧ RV K H' β x d) ∧ (i = xs.length → J.stop i H)
abbrev ATI := AEnv → Mem → (List A → (Mem → Prop) → Mem → Prop) → Prop
def KnI (K : PySem.W.Frag) (H : Hp) (β : List Addr) (Q : List A → (Mem → Prop) → Mem → Prop) (R : It → Hp → Prop) : Prop := ∀ J H' β' xs St μ', Le H β H' β' → Mst K H' β' μ' → ItOk K J xs St H' β' → Q xs St μ' → R J H'
def tAI (K : PySem.W.Frag) (a : ATI) : TI := fun σ H R => ∃ β ρ μ Q, Fr K σ H β ρ ∧ Mst K H β μ ∧ a ρ μ Q ∧ KnI K H β Q R
abbrev PIA (X : Cx) (tg e : Expr) (a : ATI) : Prop := PI X tg e (tAI X.K a)
theorem pi_imp {tg e : Expr} {t t' : TI} (h : PI X tg e t) (i : ∀ σ H R, t' σ H R → t σ H R) : PI X tg e t' := ⟨fun pins s σ H R I q => h.run pins s σ H R I (i σ H R q)⟩
def aFor (ai : ATI) (g : ATG) (b : ATS) : ATS := fun D ρ μ => ai ρ μ fun xs St μ1 => ∃ W : Nat → AEnv → Mem → Prop, W 0 ρ μ1 ∧ (∀ i ρ μ, i ≤ xs.length → W i ρ μ → St μ) ∧
  (∀ i d ρ μ, xs[i]? = some d → W i ρ μ → g d ρ μ fun ρ2 μ2 => b { D with nx := W (i + 1), ct := W (i + 1), bk := D.nx } ρ2 μ2) ∧ ∀ ρ μ, W xs.length ρ μ → D.nx ρ μ
theorem aFor_ok {K : PySem.W.Frag} {ai : ATI} {g : ATG} {b : ATS} (D' : Ends) (σ : L2.St) (H : Hp) (h : tAS K (aFor ai g b) D' σ H) : tFor (tAI K ai) (tAG K g) (tAS K b) D' σ H := by
  obtain ⟨β, ρ, μ, D, F, M, h, k⟩ := h
  refine ⟨β, ρ, μ, _, F, M, h, fun J H1 β1 xs St μ1 L1 M1 it ⟨W, w0, hst, turn, hd⟩ => ?_⟩
  refine ⟨fun i m σ' H' => m = xs.length - i ∧ i ≤ xs.length ∧ ∃ β' ρ' μ', Le H1 β1 H' β' ∧ Fr K σ' H' β' ρ' ∧ Mst K H' β' μ' ∧ W i ρ' μ', ⟨_, rfl, Nat.zero_le _, β1, ρ, μ1, Le.refl _ _, F.mono L1.r, M1, w0⟩, ?_⟩
  rintro i m σ2 H2 ⟨rfl, hi, β2, ρ2, μ2, L2, F2, M2, w2⟩
  have st := hst i ρ2 μ2 hi w2
  obtain ⟨go, stop⟩ := it H2 β2 μ2 L2 M2 st i
  by_cases hlt : i < xs.length
  · obtain ⟨g1, yl⟩ := go _ (List.getElem?_eq_getElem hlt)
    refine .inr ⟨g1, fun σ' H' => ∃ β' ρ' μ', Le H1 β1 H' β' ∧ Fr K σ' H' β' ρ' ∧ Mst K H' β' μ' ∧ W (i + 1) ρ' μ', fun σ' H' q => ⟨xs.length - (i + 1), by omega, rfl, hlt, q⟩, fun x H3 y => ?_⟩
    obtain ⟨L3, M3, r3⟩ := yl x H3 y
    refine ⟨_, β2, ρ2, μ2, _, F2.mono L3.r, M3, r3, turn i _ ρ2 μ2 (List.getElem?_eq_getElem hlt) w2, fun σ4 H4 β4 ρ4 μ4 L4 F4 M4 q4 => ?_⟩
    have LL := (L2.trans L3).trans L4
    have kk := k.le (L1.trans LL)
    exact ⟨β4, ρ4, μ4, _, F4, M4, q4, ⟨fun σ' H' β' ρ' μ' L' F' M' q => ⟨β', ρ', μ', LL.trans L', F', M', q⟩, kk.rt, kk.nx, fun σ' H' β' ρ' μ' L' F' M' q => ⟨β', ρ', μ', LL.trans L', F', M', q⟩⟩⟩
  · have e : i = xs.length := by omega
    subst e
    exact .inl ⟨stop rfl, (k.le (L1.trans L2)).nx σ2 H2 β2 ρ2 μ2 (Le.refl _ _) F2 M2 (hd ρ2 μ2 w2)⟩
theorem xs_for {tg iter : Expr} {body : List Stmt} {ai : ATI} {g : ATG} {tb : ATS} {pos : Pos} (hp : PassesOwn (model X.prog X.w) X.A X.env X.xe) (hc : X.calm = true) (hi : PIA X tg iter ai) (hg : PGA X tg g) (hb : PSsA X body tb)
    (hs : ∀ x, foldedSetIterable iter X.env x = pure x := by intro _; rfl) : PSA X (.For tg iter body [] pos) (aFor ai g tb) := ps_imp (ps_for hp hc hi hg hb hs) aFor_ok
/-- ranges -/
def intsFrom (lo : Int) (n : Nat) : List A := (List.range n).map fun i => A.int (lo + (i : Nat))
theorem intsFrom_len (lo : Int) (n : Nat) : (intsFrom lo n).length = n := by simp [intsFrom]
theorem intsFrom_get {lo : Int} {n i : Nat} {d : A} (h : (intsFrom lo n)[i]? = some d) : i < n ∧ d = .int (lo + (i : Nat)) := by
  unfold intsFrom at h
  rw [List.getElem?_map] at h
  have hi : i < n := by
    cases e : (List.range n)[i]? with
    | none => rw [e] at h; cases h
    | some j =>
      have := (List.getElem?_eq_some_iff.mp e).1
      simpa using this
  rw [List.getElem?_range hi] at h
  exact ⟨hi, (Option.some.inj h).symm⟩
theorem it_range {K : PySem.W.Frag} {lo : Int} {n : Nat} {H0 : Hp} {β0 : List Addr} : ItOk K (Itr lo n) (intsFrom lo n) (fun _ => True) H0 β0 := fun H β μ L M _ i => by
  refine ⟨fun d h => ?_, fun e => ?_⟩
  · obtain ⟨hi, rfl⟩ := intsFrom_get h
    refine ⟨hi, fun x H' y => ?_⟩
    obtain ⟨rfl, rfl⟩ := y
    exact ⟨Le.refl _ _, M, .int _⟩
  · rw [intsFrom_len] at e
    show n ≤ i
    omega
def aRange1 (a : ATE) : ATI := fun ρ μ R => a ρ μ fun d μ1 => match d with
  | .int j => -(2 ^ 62) ≤ j ∧ j < 2 ^ 62 ∧ R (intsFrom 0 j.toNat) (fun _ => True) μ1
  | _ => False
theorem xi_range1 {tg a : Expr} {ta : ATE} {p pos : Pos} (hg : Gl X "range") (hm : X.mg "range" = none) (ha : PEA X a ta) (hs : starEach [a] X.env = [(false, eval a X.env)] := by rfl) : PIA X tg (.Call (.Name "range" p) [a] [] pos) (aRange1 ta) :=
  pi_imp (pi_range1 hg hm (xa_cons ha xa_nil (by rw [hs]; rfl)) hs) fun σ H R ⟨β, ρ, μ, Q, F, M, h, k⟩ => ⟨β, ρ, μ, fun ds μ1 => match ds with
    | [.int j] => -(2 ^ 62) ≤ j ∧ j < 2 ^ 62 ∧ Q (intsFrom 0 j.toNat) (fun _ => True) μ1
    | _ => False, F, M, by
      unfold aRange1 at h
      have e : (fun (d : A) (μ1 : Mem) => match d with
        | .int j => -(2 ^ 62) ≤ j ∧ j < 2 ^ 62 ∧ Q (intsFrom 0 j.toNat) (fun _ => True) μ1
        | _ => False) = fun d μ1 => (match [d] with
        | [.int j] => -(2 ^ 62) ≤ j ∧ j < 2 ^ 62 ∧ Q (intsFrom 0 j.toNat) (fun _ => True) μ1
        | _ => False) := by funext d μ1; cases d <;> rfl
      rw [e] at h
      exact h, fun vs H1 β1 ds μ1 L1 M1 r1 q => by
      match ds, r1, q with
      | [.int j], r1, q =>
        cases r1 with
        | cons r rr =>
          cases rr
          cases r
          exact ⟨j, rfl, q.1, q.2.1, k _ H1 β1 _ _ μ1 L1 M1 it_range q.2.2⟩⟩
end
end XL

/-! XL7: what is walked; comprehensions. -/
namespace XL
open PySem L2
section
variable {X : Cx} {tg : Expr}
def iSeq (K : PySem.W.Frag) (tl : TE) : TI := fun σ H R => tl σ H fun x H1 => (∃ a, x = .ref a ∧ (∃ xs, SqL K H1 a xs) ∧ R (Itl K a) H1) ∨ ∃ a, x = .ref a ∧ (∃ xs, SqT K H1 a xs) ∧ R (Itt K a) H1
theorem pi_seq {l : Expr} {tl : TE} (hl : PE X l tl) : PI X tg l (iSeq X.K tl) := by
  refine ⟨fun pins s σ H R I h => ?_⟩
  refine thn (hl.run pins s σ H _ I h) fun v s1 ⟨x, H1, I1, r1, q1⟩ => ?_
  rcases q1 with ⟨a, e, ⟨xs, hq⟩, q⟩ | ⟨a, e, ⟨xs, hq⟩, q⟩
  · subst e
    cases r1
    obtain ⟨its, rv, p, hz⟩ := I1.list hq
    refine wpAny_pyIter_list p.isList ?_
    refine ⟨s1.heap.objs.size, [s1.heap.objs.size], _, _, H1, rfl, I1.kept (t' := s1.toks) fun b o e => Heap.get?_push_of_some _ e, turn_list a _, ⟨_, Heap.get?_push_size _ rfl, rfl, rfl⟩, fun b hb => ?_, q⟩
    have e : b = s1.heap.objs.size := by simpa using hb
    subst e
    exact I1.fpOk (Nat.le_refl _) (I1.hok.fresh (Nat.le_refl _))
  · subst e
    cases r1
    obtain ⟨its, rv, p, hz⟩ := I1.tuple hq
    refine wpAny_pyIter_tuple (show s1.heap.IsTuple a its.toArray from p) ?_
    refine ⟨s1.heap.objs.size, [s1.heap.objs.size], _, _, H1, rfl, I1.kept (t' := s1.toks) fun b o e => Heap.get?_push_of_some _ e, turn_tuple a _, ⟨_, Heap.get?_push_size _ rfl, rfl, rfl⟩, fun b hb => ?_, q⟩
    have e : b = s1.heap.objs.size := by simpa using hb
    subst e
    exact I1.fpOk (Nat.le_refl _) (I1.hok.fresh (Nat.le_refl _))
theorem sqt_inj {K : PySem.W.Frag} {H : Hp} {a : Addr} {xs : List V} {i : Nat} {x : V} (h : SqT K H a xs) (q : ∀ ys, SqT K H a ys → ys[i]? = some x) : xs[i]? = some x := q xs h
/-- items that stand in a tuple for good -/
theorem it_tup {K : PySem.W.Frag} {a : Addr} {vs : List V} {ds : List A} {H0 : Hp} {β0 : List Addr} (h : SqT K H0 a vs) (r : RVs K H0 β0 vs ds) : ItOk K (Itt K a) ds (fun _ => True) H0 β0 := fun H β μ L M _ i => by
  have h' := L.r.sqt h
  have r' := r.mono L.r
  refine ⟨fun d e => ?_, fun e => ⟨vs, h', by rw [r.length, e]; exact Nat.le_refl _⟩⟩
  obtain ⟨v, ev, rv⟩ := r'.getD e
  refine ⟨⟨vs, v, h', ev⟩, fun x H' y => ?_⟩
  obtain ⟨rfl, y⟩ := y
  have : v = x := Option.some.inj (ev.symm.trans (y vs h'))
  subst this
  exact ⟨Le.refl _ _, M, rv⟩
theorem it_frl {K : PySem.W.Frag} {a : Addr} {vs : List V} {ds : List A} {H0 : Hp} {β0 : List Addr} (h : FL K H0 a vs) (r : RVs K H0 β0 vs ds) : ItOk K (Itl K a) ds (fun _ => True) H0 β0 := fun H β μ L M _ i => by
  have h' := (L.r.fl h).sq
  have r' := r.mono L.r
  refine ⟨fun d e => ?_, fun e => ⟨vs, h', by rw [r.length, e]; exact Nat.le_refl _⟩⟩
  obtain ⟨v, ev, rv⟩ := r'.getD e
  refine ⟨⟨vs, v, h', ev⟩, fun x H' y => ?_⟩
  obtain ⟨rfl, y⟩ := y
  have : v = x := Option.some.inj (ev.symm.trans (y vs h'))
  subst this
  exact ⟨Le.refl _ _, M, rv⟩
theorem it_new {K : PySem.W.Frag} {a : Addr} {vs : List V} {ds : List A} {H0 : Hp} {β0 : List Addr} (h : H0 a = some (.lst vs)) (hn : a ∉ β0) (r : RVs K H0 β0 vs ds) : ItOk K (Itl K a) ds (fun _ => True) H0 β0 := fun H β μ L M _ i => by
  have h' : SqL K H a vs := .inl (.inl (L.fr _ _ h hn))
  have r' := r.mono L.r
  refine ⟨fun d e => ?_, fun e => ⟨vs, h', by rw [r.length, e]; exact Nat.le_refl _⟩⟩
  obtain ⟨v, ev, rv⟩ := r'.getD e
  refine ⟨⟨vs, v, h', ev⟩, fun x H' y => ?_⟩
  obtain ⟨rfl, y⟩ := y
  have : v = x := Option.some.inj (ev.symm.trans (y vs h'))
  subst this
  exact ⟨Le.refl _ _, M, rv⟩
theorem it_ref {K : PySem.W.Frag} {k : Nat} {a : Addr} {ds : List A} {H0 : Hp} {β0 : List Addr} (hb : β0[k]? = some a) : ItOk K (Itl K a) ds (fun μ => μ[k]? = some (.lst ds)) H0 β0 := fun H β μ L M st i => by
  obtain ⟨vs, q, r'⟩ := M.ok _ _ _ st (L.get hb)
  have h' : SqL K H a vs := .inl (.inl q)
  refine ⟨fun d e => ?_, fun e => ⟨vs, h', by rw [r'.length, e]; exact Nat.le_refl _⟩⟩
  obtain ⟨v, ev, rv⟩ := r'.getD e
  refine ⟨⟨vs, v, h', ev⟩, fun x H' y => ?_⟩
  obtain ⟨rfl, y⟩ := y
  have : v = x := Option.some.inj (ev.symm.trans (y vs h'))
  subst this
  exact ⟨Le.refl _ _, M, rv⟩
def seqI (d : A) (μ : Mem) (R : List A → (Mem → Prop) → Mem → Prop) : Prop := match d with
  | .tup xs => R xs (fun _ => True) μ
  | .frl xs => R xs (fun _ => True) μ
  | .ref k => match μ[k]? with
    | some (.lst xs) => R xs (fun μ' => μ'[k]? = some (.lst xs)) μ
    | _ => False
  | _ => False
def aSeqI (a : ATE) : ATI := fun ρ μ R => a ρ μ fun d μ1 => seqI d μ1 R
theorem xi_seq {e : Expr} {a : ATE} (h : PEA X e a) : PIA X tg e (aSeqI a) := pi_imp (pi_seq h) fun σ H R ⟨β, ρ, μ, Q, F, M, h, k⟩ => ⟨β, ρ, μ, _, F, M, h, fun v H1 β1 d μ1 L1 M1 r1 h1 => by
  cases d with
  | tup xs =>
    obtain ⟨a, vs, rfl, hs, ra⟩ := r1.tup_inv
    exact .inr ⟨a, rfl, ⟨vs, hs⟩, k _ H1 β1 _ _ μ1 L1 M1 (it_tup hs ra) h1⟩
  | frl xs =>
    obtain ⟨a, vs, rfl, hs, ra⟩ := r1.frl_inv
    exact .inl ⟨a, rfl, ⟨vs, hs.sq⟩, k _ H1 β1 _ _ μ1 L1 M1 (it_frl hs ra) h1⟩
  | ref m =>
    obtain ⟨a, rfl, ha⟩ := r1.ref_inv
    unfold seqI at h1
    dsimp only at h1
    split at h1
    · rename_i xs e
      obtain ⟨vs, q1, q2⟩ := M1.ok _ _ _ e ha
      exact .inl ⟨a, rfl, ⟨vs, .inl (.inl q1)⟩, k _ H1 β1 _ _ μ1 L1 M1 (it_ref ha) h1⟩
    · exact h1.elim
  | _ => exact h1.elim⟩
def aNewI (a : ATA) : ATI := fun ρ μ R => a ρ μ fun xs μ1 => R xs (fun _ => True) μ1
theorem xi_new {e : Expr} {a : ATA} (h : PLA X e a) : PIA X tg e (aNewI a) := pi_imp (pi_list h) fun σ H R ⟨β, ρ, μ, Q, F, M, h, k⟩ => ⟨β, ρ, μ, _, F, M, h, fun p H1 β1 vs ds μ1 L1 M1 hp hn h0 r1 h1 =>
  ⟨p, rfl, ⟨vs, .inl (.inl hp)⟩, k _ H1 β1 _ _ μ1 L1 M1 (it_new hp hn r1) h1⟩⟩
def aRange2 (a b : ATE) : ATI := fun ρ μ R => a ρ μ fun d μ1 => b ρ μ1 fun e μ2 => match d, e with
  | .int i, .int j => (-(2 ^ 62) ≤ i ∧ i < 2 ^ 62 ∧ -(2 ^ 62) ≤ j ∧ j < 2 ^ 62) ∧ R (intsFrom i (j - i).toNat) (fun _ => True) μ2
  | _, _ => False
theorem xi_range2 {a b : Expr} {ta tb : ATE} {p pos : Pos} (hg : Gl X "range") (hm : X.mg "range" = none) (ha : PEA X a ta) (hb : PEA X b tb) (hs : starEach [a, b] X.env = [(false, eval a X.env), (false, eval b X.env)] := by rfl) (hs2 : starEach [b] X.env = [(false, eval b X.env)] := by rfl) :
    PIA X tg (.Call (.Name "range" p) [a, b] [] pos) (aRange2 ta tb) :=
  pi_imp (pi_range2 hg hm (xa_cons ha (xa_cons hb xa_nil (by rw [hs2]; rfl)) (by rw [hs, hs2])) hs hs2) fun σ H R ⟨β, ρ, μ, Q, F, M, h, k⟩ => by
    refine ⟨β, ρ, μ, fun ds μ1 => ∃ i j, ds = [A.int i, A.int j] ∧ (-(2 ^ 62) ≤ i ∧ i < 2 ^ 62 ∧ -(2 ^ 62) ≤ j ∧ j < 2 ^ 62) ∧ Q (intsFrom i (j - i).toNat) (fun _ => True) μ1, F, M, ?_, fun vs H1 β1 ds μ1 L1 M1 r1 q => ?_⟩
    · have e : (fun (d : A) (μ1 : Mem) => tb ρ μ1 fun e μ2 => match d, e with
        | .int i, .int j => (-(2 ^ 62) ≤ i ∧ i < 2 ^ 62 ∧ -(2 ^ 62) ≤ j ∧ j < 2 ^ 62) ∧ Q (intsFrom i (j - i).toNat) (fun _ => True) μ2
        | _, _ => False) = fun d μ1 => tb ρ μ1 fun e μ2 => ∃ i j, [d, e] = [A.int i, A.int j] ∧ (-(2 ^ 62) ≤ i ∧ i < 2 ^ 62 ∧ -(2 ^ 62) ≤ j ∧ j < 2 ^ 62) ∧ Q (intsFrom i (j - i).toNat) (fun _ => True) μ2 := by
        funext d μ1
        congr 1
        funext e μ2
        refine propext ⟨fun h => ?_, fun ⟨i, j, ee, h⟩ => ?_⟩
        · cases d <;> first | exact h.elim | (cases e <;> first | exact h.elim | exact ⟨_, _, rfl, h⟩)
        · cases ee
          exact h
      unfold aRange2 at h
      rw [e] at h
      exact h
    · obtain ⟨i, j, rfl, hb, q⟩ := q
      cases r1 with
      | cons ra rr =>
        cases rr with
        | cons rb rr =>
          cases rr
          cases ra
          cases rb
          exact ⟨i, j, rfl, hb, k _ H1 β1 _ _ μ1 L1 M1 it_range q⟩

/-! ### comprehensions -/
mutual
def A.lt (n : Nat) : A → Bool
  | .tup xs => A.lts n xs
  | .frl xs => A.lts n xs
  | .ref k => decide (k < n)
  | _ => true
def A.lts (n : Nat) : List A → Bool
  | [] => true
  | x :: xs => x.lt n && A.lts n xs
end
section
variable {K : PySem.W.Frag} {H H0 : Hp} {β g : List Addr}
mutual
theorem RV.low : ∀ {v : V} {d : A}, RV K H (β ++ g) v d → d.lt β.length = true → RV K H β v d
  | _, _, .non, _ => .non
  | _, _, .bl b, _ => .bl b
  | _, _, .int i, _ => .int i
  | _, _, .str x, _ => .str x
  | _, _, .tup h r, e => .tup h (RVs.low r (by simpa [A.lt] using e))
  | _, _, .ref h, e => .ref (by
    have e' := of_decide_eq_true (by simpa [A.lt] using e)
    rw [List.getElem?_append_left e'] at h
    exact h)
  | _, _, .frl h r, e => .frl h (RVs.low r (by simpa [A.lt] using e))
  | _, _, .ty n, _ => .ty n
theorem RVs.low : ∀ {vs : List V} {ds : List A}, RVs K H (β ++ g) vs ds → A.lts β.length ds = true → RVs K H β vs ds
  | _, _, .nil, _ => .nil
  | _, _, .cons h r, e => by
    simp only [A.lts, Bool.and_eq_true] at e
    exact .cons (RV.low h e.1) (RVs.low r e.2)
end
mutual
theorem RV.is_lt : ∀ {v : V} {d : A}, RV K H0 β v d → d.lt β.length = true
  | _, _, .non => by simp [A.lt]
  | _, _, .bl b => by simp [A.lt]
  | _, _, .int i => by simp [A.lt]
  | _, _, .str x => by simp [A.lt]
  | _, _, .tup h r => by simp only [A.lt]; exact RVs.is_lt r
  | _, _, .ref h => by simp only [A.lt]; exact decide_eq_true (List.getElem?_eq_some_iff.mp h).1
  | _, _, .frl h r => by simp only [A.lt]; exact RVs.is_lt r
  | _, _, .ty n => by simp [A.lt]
theorem RVs.is_lt : ∀ {vs : List V} {ds : List A}, RVs K H0 β vs ds → A.lts β.length ds = true
  | _, _, .nil => by simp [A.lts]
  | _, _, .cons h r => by
    simp only [A.lts, Bool.and_eq_true]
    exact ⟨RV.is_lt h, RVs.is_lt r⟩
end
def ltKs {κ : Type} (n : Nat) (kvs : List (κ × A)) : Bool := kvs.all fun kv => kv.2.lt n
theorem RKs.low {κ : Type} : ∀ {vs : List (κ × V)} {ds : List (κ × A)}, RKs K H (β ++ g) vs ds → ltKs β.length ds = true → RKs K H β vs ds
  | _, _, .nil, _ => .nil
  | _, _, .cons h r, e => by
    unfold ltKs at e
    rw [List.all_cons, Bool.and_eq_true] at e
    exact .cons (RV.low h e.1) (RKs.low r e.2)
theorem RKs.is_lt {κ : Type} : ∀ {vs : List (κ × V)} {ds : List (κ × A)}, RKs K H0 β vs ds → ltKs β.length ds = true
  | _, _, .nil => rfl
  | _, _, .cons h r => by
    unfold ltKs
    rw [List.all_cons, Bool.and_eq_true]
    exact ⟨RV.is_lt h, RKs.is_lt r⟩
def Cell.lt (n : Nat) : Cell → Bool
  | .lst xs => A.lts n xs
  | .dk kvs => ltKs n kvs
  | .lk _ _ kvs => ltKs n kvs
  | .dt kvs => ltKs n kvs
  | .ins _ fs => ltKs n fs
theorem CellOk.low {a : Addr} {c : Cell} (h : CellOk K H (β ++ g) a c) (e : c.lt β.length = true) : CellOk K H β a c := by
  cases c with
  | lst ds => obtain ⟨vs, q, r⟩ := h; exact ⟨vs, q, r.low e⟩
  | dk ds => obtain ⟨vs, q, r⟩ := h; exact ⟨vs, q, r.low e⟩
  | lk o ws ds => obtain ⟨q, r⟩ := h; exact ⟨q, r.low e⟩
  | dt ds => obtain ⟨vs, q, r⟩ := h; exact ⟨vs, q, r.low e⟩
  | ins C ds => obtain ⟨o, vs, q, r⟩ := h; exact ⟨o, vs, q, r.low e⟩
theorem CellOk.is_lt {a : Addr} {c : Cell} (h : CellOk K H0 β a c) : c.lt β.length = true := by
  cases c with
  | lst ds => obtain ⟨vs, q, r⟩ := h; exact r.is_lt
  | dk ds => obtain ⟨vs, q, r⟩ := h; exact r.is_lt
  | lk o ws ds => obtain ⟨q, r⟩ := h; exact r.is_lt
  | dt ds => obtain ⟨vs, q, r⟩ := h; exact r.is_lt
  | ins C ds => obtain ⟨o, vs, q, r⟩ := h; exact r.is_lt
theorem Le.shrink {H1 : Hp} {β1 : List Addr} {Hb : Hp} {βb : List Addr} (a : Le Hb βb H1 β1) {H2 : Hp} {β2 : List Addr} (b : Le H1 β1 H2 β2) : Le Hb βb H2 β1 where
  fr := (a.trans b).fr
  tx := (a.trans b).tx
  pre := a.pre
  nw := a.nw
/-- a memory without what was added, all refs of which are old -/
theorem Mst.drop {μ ν : Mem} (M : Mst K H (β ++ g) (μ ++ ν)) (hl : β.length = μ.length) (hc : ∀ (k : Nat) (c : Cell), μ[k]? = some c → c.lt μ.length = true) : Mst K H β μ where
  len := hl
  nd := (List.nodup_append.mp M.nd).1
  ok := fun k c a h1 h2 => by
    have k1 : k < μ.length := (List.getElem?_eq_some_iff.mp h1).1
    have k2 : k < β.length := (List.getElem?_eq_some_iff.mp h2).1
    refine (M.ok k c a (by rw [List.getElem?_append_left k1]; exact h1) (by rw [List.getElem?_append_left k2]; exact h2)).low ?_
    rw [hl]
    exact hc k c h1
theorem Mst.lts {μ : Mem} (M : Mst K H0 β μ) : ∀ (k : Nat) (c : Cell), μ[k]? = some c → c.lt μ.length = true := fun k c h => by
  obtain ⟨a, _, q⟩ := M.at h
  rw [← M.len]
  exact q.is_lt
end
end
end XL

/-! XL8: list comprehensions. -/
namespace XL
open PySem L2
theorem wipe_get (σ : L2.St) (j : Nat) : ∀ vs : List Nat, (wipe σ vs)[j]? = if j ∈ vs then (σ[j]?).map (fun _ => none) else σ[j]?
  | [] => by simp [wipe]
  | v :: vs => by
    have ih := wipe_get σ j vs
    unfold wipe
    rw [List.getElem?_set]
    by_cases hv : v = j
    · subst hv
      simp only [List.mem_cons, true_or, if_true, wipe_length]
      by_cases hl : v < σ.length
      · rw [if_pos hl, List.getElem?_eq_getElem hl]; rfl
      · rw [if_neg hl, List.getElem?_eq_none (by omega)]; rfl
    · rw [if_neg hv, ih]
      have : (j ∈ v :: vs) ↔ j ∈ vs := by simp [Ne.symm hv]
      simp only [this]
theorem wipe_set {σ : L2.St} {i : Nat} {y : Option V} {vs : List Nat} (h : i ∈ vs) : wipe (σ.set i y) vs = wipe σ vs := by
  refine List.ext_getElem? fun j => ?_
  rw [wipe_get, wipe_get]
  by_cases hj : j ∈ vs
  · rw [if_pos hj, if_pos hj, List.getElem?_set]
    by_cases e : i = j
    · subst e
      rw [if_pos rfl]
      by_cases hl : i < σ.length
      · rw [if_pos hl, List.getElem?_eq_getElem hl]; rfl
      · rw [if_neg hl, List.getElem?_eq_none (by omega)]
    · rw [if_neg e]
  · rw [if_neg hj, if_neg hj, List.getElem?_set_ne (show i ≠ j from fun e => hj (by rw [← e]; exact h))]
theorem wipe_wipe (σ : L2.St) (vs : List Nat) : wipe (wipe σ vs) vs = wipe σ vs := by
  refine List.ext_getElem? fun j => ?_
  rw [wipe_get, wipe_get]
  by_cases hj : j ∈ vs
  · rw [if_pos hj, if_pos hj]
    cases σ[j]? <;> rfl
  · rw [if_neg hj, if_neg hj]
def wipeA (ρ : AEnv) : List Nat → AEnv
  | [] => ρ
  | v :: vs => (wipeA ρ vs).set v none
theorem Fr.wipe {K : PySem.W.Frag} {σ : L2.St} {H : Hp} {β : List Addr} {ρ : AEnv} (F : Fr K σ H β ρ) : ∀ vs : List Nat, Fr K (L2.wipe σ vs) H β (wipeA ρ vs)
  | [] => F
  | v :: vs => by
    have ih := Fr.wipe F vs
    refine ⟨by unfold L2.wipe wipeA; rw [List.length_set, List.length_set]; exact ih.len, fun i d h => ?_⟩
    unfold wipeA at h
    unfold L2.wipe
    by_cases hv : v = i
    · subst hv
      rw [List.getElem?_set] at h
      simp only [if_true] at h
      split at h <;> cases h
    · rw [List.getElem?_set_ne hv] at h
      rw [List.getElem?_set_ne hv]
      exact ih.ok i d h
/-- a comprehension's target -/
abbrev AGC := A → AEnv → (AEnv → Prop) → Prop
def GOk (K : PySem.W.Frag) (vs : List Nat) (g : TG) (ga : AGC) : Prop := ∀ x d σ H β ρ (P : L2.St → Hp → Prop) (Q : AEnv → Prop), Fr K σ H β ρ → RV K H β x d → ga d ρ Q → (∀ σ' ρ', Fr K σ' H β ρ' → L2.wipe σ' vs = L2.wipe σ vs → Q ρ' → P σ' H) → g x σ H P
def gcName (i : Nat) : AGC := fun d ρ Q => Q (ρ.set i (some d))
def gcTup2 (i j : Nat) : AGC := fun d ρ Q => match d with
  | .tup [x, y] => Q ((ρ.set i (some x)).set j (some y))
  | _ => False
def gcTup3 (i j l : Nat) : AGC := fun d ρ Q => match d with
  | .tup [x, y, z] => Q (((ρ.set i (some x)).set j (some y)).set l (some z))
  | _ => False
theorem gok_name {K : PySem.W.Frag} {vs : List Nat} {i : Nat} (h : i ∈ vs) : GOk K vs (gName i) (gcName i) := fun x d σ H β ρ P Q F r q k => k _ _ (F.set r i) (wipe_set h) q
theorem gok_tup2 {K : PySem.W.Frag} {vs : List Nat} {i j : Nat} (hi : i ∈ vs) (hj : j ∈ vs) : GOk K vs (gTup K 2 (gCons (gName i) (gCons (gName j) gNil))) (gcTup2 i j) := fun x d σ H β ρ P Q F r q k => by
  match d, r, q with
  | .tup [a, b], r, q =>
    obtain ⟨p, us, rfl, hs, ra⟩ := r.tup_inv
    cases ra with
    | cons r1 ra =>
      cases ra with
      | cons r2 ra =>
        cases ra
        exact ⟨p, _, rfl, hs, rfl, _, _, rfl, _, _, rfl, rfl, k _ _ ((F.set r1 i).set r2 j) (by rw [wipe_set hj, wipe_set hi]) q⟩
theorem gok_tup3 {K : PySem.W.Frag} {vs : List Nat} {i j l : Nat} (hi : i ∈ vs) (hj : j ∈ vs) (hl : l ∈ vs) : GOk K vs (gTup K 3 (gCons (gName i) (gCons (gName j) (gCons (gName l) gNil)))) (gcTup3 i j l) := fun x d σ H β ρ P Q F r q k => by
  match d, r, q with
  | .tup [a, b, c], r, q =>
    obtain ⟨p, us, rfl, hs, ra⟩ := r.tup_inv
    cases ra with
    | cons r1 ra =>
      cases ra with
      | cons r2 ra =>
        cases ra with
        | cons r3 ra =>
          cases ra
          exact ⟨p, _, rfl, hs, rfl, _, _, rfl, _, _, rfl, _, _, rfl, rfl, k _ _ (((F.set r1 i).set r2 j).set r3 l) (by rw [wipe_set hl, wipe_set hj, wipe_set hi]) q⟩
def Shr (μ μ' : Mem) (ok : Nat → Bool) (P : Mem → Prop) : Prop := P μ' ∨ ∃ g, μ' = μ ++ g ∧ ok μ.length = true ∧ P μ
def aYes : ATT := fun _ μ Q => Q true μ
def aLc (ai : ATI) (ga : AGC) (tt : ATT) (te : ATE) (vs : List Nat) : ATA := fun ρ μ Q => ai ρ μ fun xs St μ1 => xs.length ≤ sizeLine ∧ ∃ W : Nat → List A → Mem → Prop, W 0 [] μ1 ∧ (∀ i acc μ, i ≤ xs.length → W i acc μ → St μ) ∧
  (∀ i d acc μ, xs[i]? = some d → W i acc μ → ga d (wipeA ρ vs) fun ρ2 => tt ρ2 μ fun b μ2 => if b = true then te ρ2 μ2 fun e μ3 => Shr μ μ3 (fun n => e.lt n) (W (i + 1) (acc ++ [e])) else Shr μ μ2 (fun _ => true) (W (i + 1) acc)) ∧
  ∀ acc μ, W xs.length acc μ → Q acc μ
theorem shr_ok {K : PySem.W.Frag} {H1 H2 H3 : Hp} {β1 β2 β3 : List Addr} {μ μ' : Mem} {ok : Nat → Bool} {P : Mem → Prop} (h : Shr μ μ' ok P) (L1 : Le H1 β1 H2 β2) (M2 : Mst K H2 β2 μ) (L2 : Le H2 β2 H3 β3) (M3 : Mst K H3 β3 μ') :
    ∃ β4 μ4, P μ4 ∧ Le H1 β1 H3 β4 ∧ Mst K H3 β4 μ4 ∧ (∀ a, a ∈ β4 → a ∈ β3) ∧ Ler H2 β2 H3 β4 ∧ ∀ {v : V} {d : A}, RV K H3 β3 v d → (ok = fun n => d.lt n) → RV K H3 β4 v d := by
  rcases h with h | ⟨g, rfl, hk, h⟩
  · exact ⟨β3, μ', h, L1.trans L2, M3, fun _ m => m, L2.r, fun r _ => r⟩
  · obtain ⟨gb, rfl⟩ := L2.pre
    refine ⟨β2, μ, h, L1.shrink L2, M3.drop M2.len M2.lts, fun a m => List.mem_append_left _ m, ⟨L2.tx, fun _ _ e => e⟩, fun {v d} r e => ?_⟩
    subst e
    exact r.low (by rw [M2.len]; exact hk)
theorem Le.mut {H1 H : Hp} {β1 β : List Addr} {D : Addr} {u : HO} (L : Le H1 β1 H β) (h : H1 D = none) : Le H1 β1 (upd H D u) β where
  fr := fun a o e n => by rw [upd_ne (ne_of_none e h)]; exact L.fr a o e n
  tx := fun a o e n => by rw [upd_ne (ne_of_none e h)]; exact L.tx a o e n
  pre := L.pre
  nw := L.nw
theorem Ler.mut {H : Hp} {β : List Addr} {D : Addr} {o u : HO} (h : H D = some o) (hs : ¬ Stb o) : Ler H β (upd H D u) β :=
  ⟨fun a v e s => by rw [upd_ne (show a ≠ D from fun ea => by rw [ea, h] at e; cases e; exact hs s)]; exact e, fun _ _ e => e⟩
theorem Mst.keepR {K : PySem.W.Frag} {H H' : Hp} {β : List Addr} {μ : Mem} (M : Mst K H β μ) (L : Ler H β H' β) (e : ∀ a, a ∈ β → H' a = H a) : Mst K H' β μ :=
  ⟨M.len, M.nd, fun k c a h1 h2 => (M.ok k c a h1 h2).mono L (e a (List.mem_of_getElem? h2))⟩
theorem Mst.mut {K : PySem.W.Frag} {H : Hp} {β : List Addr} {μ : Mem} {D : Addr} {o u : HO} (M : Mst K H β μ) (h : H D = some o) (hs : ¬ Stb o) (hn : D ∉ β) : Mst K (upd H D u) β μ :=
  M.keepR (Ler.mut h hs) fun a m => upd_ne fun e => hn (by rw [← e]; exact m)
theorem aLc_ok {K : PySem.W.Frag} {ai : ATI} {g : TG} {ga : AGC} {tt : ATT} {te : ATE} {vs : List Nat} (hg : GOk K vs g ga) (σ : L2.St) (H : Hp) (P : VK) (h : tAL K (aLc ai ga tt te vs) σ H P) : tLc (tAI K ai) g (tAT K tt) (tA K te) vs σ H P := by
  obtain ⟨β, ρ, μ, Q, F, M, h, k⟩ := h
  refine ⟨β, ρ, μ, _, F, M, h, fun J H1 β1 xs St μ1 la M1 it ⟨hz, W, w0, hst, turn, hd⟩ => ?_⟩
  intro D hD
  have hD1 : D ∉ β1 := M1.fresh hD
  refine ⟨fun i m H' => m = xs.length - i ∧ i ≤ xs.length ∧ ∃ β' μ' acc us, Le H1 β1 H' β' ∧ Mst K H' β' μ' ∧ H' D = some (.lst us) ∧ D ∉ β' ∧ RVs K H' β' us acc ∧ acc.length ≤ i ∧ W i acc μ',
    ⟨_, rfl, Nat.zero_le _, β1, μ1, [], [], Le.push M1 hD, M1.push hD, upd_same, hD1, .nil, Nat.le_refl _, w0⟩, ?_⟩
  rintro i m H2 ⟨rfl, hi, β2, μ2, acc, us, lb, M2, hD2, hn2, r2, ha, w2⟩
  have ns : ¬ Stb (.lst us) := fun z => z
  have st := hst i acc μ2 hi w2
  obtain ⟨go, stop⟩ := it H2 β2 μ2 lb M2 st i
  by_cases hlt : i < xs.length
  · obtain ⟨g1, yl⟩ := go _ (List.getElem?_eq_getElem hlt)
    refine .inr ⟨g1, fun H' => ∃ β' μ' acc us, Le H1 β1 H' β' ∧ Mst K H' β' μ' ∧ H' D = some (.lst us) ∧ D ∉ β' ∧ RVs K H' β' us acc ∧ acc.length ≤ i + 1 ∧ W (i + 1) acc μ', fun H' q => ⟨xs.length - (i + 1), by omega, rfl, hlt, q⟩, fun x H3 y => ?_⟩
    obtain ⟨lc, M3, r3⟩ := yl x H3 y
    have F3 : Fr K (wipe σ vs) H3 β2 (wipeA ρ vs) := (F.mono ((la.trans lb).trans lc).r).wipe vs
    have hD3 : H3 D = some (.lst us) := lc.fr _ _ hD2 hn2
    refine hg x _ _ H3 β2 _ _ _ F3 r3 (turn i _ acc μ2 (List.getElem?_eq_getElem hlt) w2) fun σ4 ρ4 F4 hw q4 => ?_
    refine ⟨by rw [hw, wipe_wipe], β2, ρ4, μ2, _, F4, M3, q4, fun b H5 β5 μ5 ld M5 q5 => ?_⟩
    have hn5 : D ∉ β5 := fun m => by
      have := ld.nw D m hn2
      rw [hD3] at this; cases this
    have hD5 : H5 D = some (.lst us) := ld.fr _ _ hD3 hn2
    cases b with
    | true =>
      refine ⟨β5, ρ4, μ5, _, F4.mono ld.r, M5, q5, fun v H6 β6 e μ6 le M6 r6 q6 => ?_⟩
      have hn6 : D ∉ β6 := fun m => by
        have := le.nw D m hn5
        rw [hD5] at this; cases this
      have hD6 : H6 D = some (.lst us) := le.fr _ _ hD5 hn5
      obtain ⟨β7, μ7, w7, lf, M7, sub7, ler, low⟩ := shr_ok q6 (lb.trans lc) M3 (ld.trans le) M6
      have hn7 : D ∉ β7 := fun m => hn6 (sub7 D m)
      have r7 : RVs K H6 β7 us acc := (r2.mono lc.r).mono ler
      have v7 := low r6 rfl
      refine ⟨us, hD6, ?_, β7, μ7, acc ++ [e], us ++ [v], lf.mut hD, M7.mut hD6 ns hn7, upd_same, hn7, (r7.append (.cons v7 .nil)).mono (Ler.mut hD6 ns), by rw [List.length_append]; show acc.length + 1 ≤ i + 1; omega, w7⟩
      rw [r2.length]
      exact Nat.lt_of_le_of_lt ha (Nat.lt_of_lt_of_le hlt hz)
    | false =>
      have q5' : Shr μ2 μ5 (fun _ => true) (W (i + 1) acc) := q5
      obtain ⟨β7, μ7, w7, lf, M7, sub7, ler, _⟩ := shr_ok q5' (lb.trans lc) M3 ld M5
      have hn7 : D ∉ β7 := fun m => hn5 (sub7 D m)
      exact ⟨β7, μ7, acc, us, lf, M7, hD5, hn7, (r2.mono lc.r).mono ler, by omega, w7⟩
  · have e : i = xs.length := by omega
    subst e
    refine .inl ⟨stop rfl, k D H2 β2 us acc μ2 (la.trans lb) M2 hD2 hn2 (la.free M1 hD) r2 (hd acc μ2 w2)⟩
section
variable {X : Cx}
theorem pts_imp {ifs : List Expr} {t t' : TT} (h : PTs X ifs t) (i : ∀ σ H P, t' σ H P → t σ H P) : PTs X ifs t' := ⟨fun pins s σ H Q I q => h.run pins s σ H Q I (i σ H Q q)⟩
abbrev PTsA (X : Cx) (ifs : List Expr) (a : ATT) : Prop := PTs X ifs (tAT X.K a)
theorem xts_nil : PTsA X [] aYes := pts_imp pts_nil fun σ H P ⟨β, ρ, μ, Q, F, M, h, k⟩ => k true H β μ (Le.refl _ _) M h
theorem xts_one {c : Expr} {a : ATT} (h : PTA X c a) : PTsA X [c] a := pts_one h
/-- [e for tg in iter if ..] -/
theorem xl_lc {elt tg iter : Expr} {ifs : List Expr} {scope : Scope} {own : List (Str × Nat)} {pos : Pos} {ai : ATI} {g : TG} {ga : AGC} {tt : ATT} {te : ATE} (hc : X.calm = true) (hN : X.N.Nodup) (hi : PIA X tg iter ai) (ok : BlkOk X.N X.env.scope scope own) (ho : GOk X.K (own.map (·.2)) g ga)
    (hg : ∀ (s : Shared) (H : Hp) (C : Addr) (cl : List (Str × Addr)) (fp : List Addr), PG (X.blk s H scope (compEnvC scope cl C X.env) fp) tg g) (ht : ∀ (s : Shared) (H : Hp) (C : Addr) (cl : List (Str × Addr)) (fp : List Addr), PTsA (X.blk s H scope (compEnvC scope cl C X.env) fp) ifs tt)
    (he : ∀ (s : Shared) (H : Hp) (C : Addr) (cl : List (Str × Addr)) (fp : List Addr), PEA (X.blk s H scope (compEnvC scope cl C X.env) fp) elt te) (hs : ∀ x, foldedSetIterable iter X.env x = pure x := by intro _; rfl) :
    PLA X (.ListComp elt [⟨tg, iter, ifs, 0⟩] scope pos) (aLc ai ga tt te (own.map (·.2))) := pe_imp (pe_lc hc hN hi ok hg ht he hs) (aLc_ok ho)
/-- name = [..] on one line, the name a local -/
def aSetL (i : Nat) (a : ATA) : ATS := fun D ρ μ => a ρ μ fun ds μ1 => D.nx (ρ.set i (some (.ref μ1.length))) (μ1 ++ [.lst ds])
theorem xs_setLc {i : Nat} {y : Str} {py : Pos} {elt tg iter : Expr} {ifs : List Expr} {scope : Scope} {own : List (Str × Nat)} {pos spos : Pos} {ai : ATI} {g : TG} {ga : AGC} {tt : ATT} {te : ATE} (hc : X.calm = true) (hN : X.N.Nodup) (hy : X.N[i]? = some y) (hyl : X.env.scope.names.lookup y = some .local)
    (hsw : swapsWith (.ListComp elt [⟨tg, iter, ifs, 0⟩] scope pos) (some (.Name y py)) spos.line X.env = pure true) (hi : PIA X tg iter ai) (ok : BlkOk X.N X.env.scope scope own) (ho : GOk X.K (own.map (·.2)) g ga)
    (hg : ∀ (s : Shared) (H : Hp) (C : Addr) (cl : List (Str × Addr)) (fp : List Addr), PG (X.blk s H scope (compEnvC scope cl C X.env) fp) tg g) (ht : ∀ (s : Shared) (H : Hp) (C : Addr) (cl : List (Str × Addr)) (fp : List Addr), PTsA (X.blk s H scope (compEnvC scope cl C X.env) fp) ifs tt)
    (he : ∀ (s : Shared) (H : Hp) (C : Addr) (cl : List (Str × Addr)) (fp : List Addr), PEA (X.blk s H scope (compEnvC scope cl C X.env) fp) elt te) (hs : ∀ x, foldedSetIterable iter X.env x = pure x := by intro _; rfl) :
    PSA X (.Assign [.Name y py] (.ListComp elt [⟨tg, iter, ifs, 0⟩] scope pos) spos) (aSetL i (aLc ai ga tt te (own.map (·.2)))) := ps_imp (ps_setLc hc hN hy hyl hsw hi ok hg ht he hs) fun D' σ H ⟨β, ρ, μ, D, F, M, h, k⟩ => by
  refine aLc_ok ho σ H _ ⟨β, ρ, μ, _, F, M, h, fun p H' β' vs ds μ' L M' hp hn h0 r q => ?_⟩
  have M2 := M'.cell hn (c := .lst ds) ⟨vs, hp, r.mono (Ler.more _ _ _)⟩
  have L2 : Le H β H' (β' ++ [p]) := Le.own M' L h0
  refine k.nx _ H' (β' ++ [p]) _ _ L2 ((F.mono L2.r).set (.ref ?_) i) M2 q
  rw [← M'.len, List.getElem?_append_right (Nat.le_refl _), Nat.sub_self]
  rfl
end
/-- elements that change nothing -/
theorem aLc_f {ga : AGC} {tt : ATT} {te : ATE} {vs : List Nat} {ρ : AEnv} {μ1 : Mem} {Q : List A → Mem → Prop} {xs : List A} {St : Mem → Prop} (f : A → Option A) (hz : xs.length ≤ sizeLine) (hst : St μ1)
    (h : ∀ d, d ∈ xs → ∀ (Y : A → Mem → Prop) (N : Mem → Prop), (∀ e g, f d = some e → e.lt μ1.length = true → Y e (μ1 ++ g)) → (f d = none → ∀ g, N (μ1 ++ g)) → ga d (wipeA ρ vs) fun ρ2 => tt ρ2 μ1 fun b μ2 => if b = true then te ρ2 μ2 Y else N μ2)
    (hQ : Q (xs.filterMap f) μ1) : xs.length ≤ sizeLine ∧ ∃ W : Nat → List A → Mem → Prop, W 0 [] μ1 ∧ (∀ i acc μ, i ≤ xs.length → W i acc μ → St μ) ∧
  (∀ i d acc μ, xs[i]? = some d → W i acc μ → ga d (wipeA ρ vs) fun ρ2 => tt ρ2 μ fun b μ2 => if b = true then te ρ2 μ2 fun e μ3 => Shr μ μ3 (fun n => e.lt n) (W (i + 1) (acc ++ [e])) else Shr μ μ2 (fun _ => true) (W (i + 1) acc)) ∧
  ∀ acc μ, W xs.length acc μ → Q acc μ := by
  refine ⟨hz, fun i acc μ => μ = μ1 ∧ acc = (xs.take i).filterMap f, ⟨rfl, rfl⟩, fun i acc μ _ e => by rw [e.1]; exact hst, fun i d acc μ hd ⟨e1, e2⟩ => ?_, fun acc μ ⟨e1, e2⟩ => by rw [e1, e2, List.take_length]; exact hQ⟩
  subst e1
  have ht : xs.take (i + 1) = xs.take i ++ [d] := by
    obtain ⟨hl, e⟩ := List.getElem?_eq_some_iff.mp hd
    rw [← e, List.take_succ_eq_append_getElem hl]
  refine h d (List.mem_of_getElem? hd) _ _ (fun e g ef lt => .inr ⟨g, rfl, lt, rfl, ?_⟩) (fun ef g => .inr ⟨g, rfl, rfl, rfl, ?_⟩)
  · rw [ht, List.filterMap_append, e2]
    simp [ef]
  · rw [ht, List.filterMap_append, e2]
    simp [ef]
end XL

/-! XL9: defs and their promises. -/
namespace XL
open PySem PySem.Spec PyProof.Rows L2
mutual
theorem A.lt_mono {n m : Nat} (h : n ≤ m) : ∀ d : A, d.lt n = true → d.lt m = true
  | .non, _ => by simp [A.lt]
  | .bl _, _ => by simp [A.lt]
  | .int _, _ => by simp [A.lt]
  | .str _, _ => by simp [A.lt]
  | .ty _, _ => by simp [A.lt]
  | .tup xs, e => by simp only [A.lt] at e ⊢; exact A.lts_mono h xs e
  | .frl xs, e => by simp only [A.lt] at e ⊢; exact A.lts_mono h xs e
  | .ref k, e => by simp only [A.lt, decide_eq_true_eq] at e ⊢; omega
theorem A.lts_mono {n m : Nat} (h : n ≤ m) : ∀ ds : List A, A.lts n ds = true → A.lts m ds = true
  | [], _ => by simp [A.lts]
  | d :: ds, e => by
    simp only [A.lts, Bool.and_eq_true] at e ⊢
    exact ⟨A.lt_mono h d e.1, A.lts_mono h ds e.2⟩
end
theorem ltKs_mono {κ : Type} {n m : Nat} (h : n ≤ m) (kvs : List (κ × A)) (e : ltKs n kvs = true) : ltKs m kvs = true := by
  unfold ltKs at e ⊢
  rw [List.all_eq_true] at e ⊢
  exact fun x hx => A.lt_mono h _ (e x hx)
theorem Cell.lt_mono {n m : Nat} (h : n ≤ m) (c : Cell) (e : c.lt n = true) : c.lt m = true := by
  cases c with
  | lst xs => exact A.lts_mono h xs e
  | dk xs => exact ltKs_mono h xs e
  | lk _ _ xs => exact ltKs_mono h xs e
  | dt xs => exact ltKs_mono h xs e
  | ins _ xs => exact ltKs_mono h xs e
def KeepC (μ0 μ1 : Mem) : Prop := ∀ (k : Nat) (c : Cell), μ1[k]? = some c → μ0[k]? = some c ∨ c.lt μ1.length = true
theorem KeepC.refl (μ : Mem) : KeepC μ μ := fun _ _ h => .inl h
theorem KeepC.set {μ0 μ1 : Mem} (h : KeepC μ0 μ1) (k : Nat) (c : Cell) (hc : c.lt μ1.length = true) : KeepC μ0 (μ1.set k c) := fun j c' e => by
  rw [List.getElem?_set] at e
  split at e
  · split at e
    · cases e; right; rw [List.length_set]; exact hc
    · cases e
  · rcases h j c' e with q | q
    · exact .inl q
    · right; rw [List.length_set]; exact q
/-- what a def hands back: locals are dropped -/
def Ret (μ0 : Mem) (Q : AK) : AK := fun d μ' =>
  (∃ μ1 g, μ' = μ1 ++ g ∧ μ0.length ≤ μ1.length ∧ d.lt μ1.length = true ∧ KeepC μ0 μ1 ∧ Q d μ1) ∨
  ∃ μ1 g ds g', μ' = μ1 ++ g ++ .lst ds :: g' ∧ d = .ref (μ1 ++ g).length ∧ μ0.length ≤ μ1.length ∧ A.lts μ1.length ds = true ∧ KeepC μ0 μ1 ∧ Q (.ref μ1.length) (μ1 ++ [.lst ds])
theorem ret_same {μ : Mem} {Q : AK} {d : A} {g : Mem} (h : d.lt μ.length = true) (q : Q d μ) : Ret μ Q d (μ ++ g) := .inl ⟨μ, g, rfl, Nat.le_refl _, h, KeepC.refl _, q⟩
theorem ret_here {μ : Mem} {Q : AK} {d : A} (h : d.lt μ.length = true) (q : Q d μ) : Ret μ Q d μ := .inl ⟨μ, [], by simp, Nat.le_refl _, h, KeepC.refl _, q⟩
theorem ret_new {μ : Mem} {Q : AK} {g g' : Mem} {ds : List A} {k : Nat} (hk : k = (μ ++ g).length) (h : A.lts μ.length ds = true) (q : Q (.ref μ.length) (μ ++ [.lst ds])) : Ret μ Q (.ref k) (μ ++ g ++ .lst ds :: g') := .inr ⟨μ, g, ds, g', rfl, by rw [hk], Nat.le_refl _, h, KeepC.refl _, q⟩
theorem Le.low {H H' : Hp} {β β1 g : List Addr} (L : Le H β H' (β1 ++ g)) (h : ∃ g1, β1 = β ++ g1) : Le H β H' β1 := ⟨L.fr, L.tx, h, fun a m n => L.nw a (List.mem_append_left _ m) n⟩
theorem pre_of {α : Type} {a b c d : List α} (e : a ++ b = c ++ d) (h : c.length ≤ a.length) : ∃ g, a = c ++ g := by
  refine ⟨a.drop c.length, ?_⟩
  have e1 : (a ++ b).take c.length = c := by rw [e]; simp
  rw [List.take_append_of_le_length h] at e1
  have e2 : a = a.take c.length ++ a.drop c.length := (List.take_append_drop _ _).symm
  rw [e1] at e2
  exact e2
theorem keep_lt {K : PySem.W.Frag} {H : Hp} {β : List Addr} {μ0 μ1 : Mem} (M0 : Mst K H β μ0) (hl : μ0.length ≤ μ1.length) (h : KeepC μ0 μ1) : ∀ (k : Nat) (c : Cell), μ1[k]? = some c → c.lt μ1.length = true := fun k c e => by
  rcases h k c e with q | q
  · exact Cell.lt_mono hl c (M0.lts k c q)
  · exact q
theorem split_len {α : Type} (b : List α) (n : Nat) (h : n ≤ b.length) : ∃ b1 g, b = b1 ++ g ∧ b1.length = n := ⟨b.take n, b.drop n, (List.take_append_drop _ _).symm, by rw [List.length_take]; omega⟩
theorem ret_ok {K : PySem.W.Frag} {H H' : Hp} {β β' : List Addr} {μ0 μ' : Mem} {Q : AK} {P : VK} {v : V} {d : A} (M0 : Mst K H β μ0) (k : Kn K H β Q P) (L : Le H β H' β') (M : Mst K H' β' μ') (r : RV K H' β' v d) (h : Ret μ0 Q d μ') : P v H' := by
  rcases h with ⟨μ1, g, rfl, hl, hd, hk, q⟩ | ⟨μ1, g, ds, g', rfl, rfl, hl, hd, hk, q⟩
  · obtain ⟨β1, gb, rfl, hb⟩ := split_len β' μ1.length (by rw [M.len, List.length_append]; omega)
    have hp : ∃ g1, β1 = β ++ g1 := by
      obtain ⟨g2, e2⟩ := L.pre
      exact pre_of e2 (by rw [hb, M0.len]; exact hl)
    exact k v H' β1 d μ1 (L.low hp) (M.drop hb (keep_lt M0 hl hk)) (r.low (by rw [hb]; exact hd)) q
  · obtain ⟨a, rfl, ha⟩ := r.ref_inv
    obtain ⟨β1, gb, rfl, hb⟩ := split_len β' μ1.length (by rw [M.len, List.length_append, List.length_append]; omega)
    have hp : ∃ g1, β1 = β ++ g1 := by
      obtain ⟨g2, e2⟩ := L.pre
      exact pre_of e2 (by rw [hb, M0.len]; exact hl)
    have hm : (μ1 ++ g ++ .lst ds :: g')[(μ1 ++ g).length]? = some (.lst ds) := by rw [List.getElem?_append_right (Nat.le_refl _), Nat.sub_self]; rfl
    obtain ⟨vs, e1, e2⟩ := M.ok _ _ _ hm ha
    have M1 : Mst K H' β1 μ1 := by
      rw [List.append_assoc] at M
      exact M.drop hb (keep_lt M0 hl hk)
    have hn : a ∉ β1 := fun m => by
      obtain ⟨i, hi, ei⟩ := List.mem_iff_getElem.mp m
      obtain ⟨hj, ej⟩ := List.getElem?_eq_some_iff.mp ha
      have hi' : i < (β1 ++ gb).length := by rw [List.length_append]; omega
      have q1 : (β1 ++ gb)[i] = (β1 ++ gb)[(μ1 ++ g).length] := by rw [ej, List.getElem_append_left hi]; exact ei
      have := (List.getElem_inj M.nd).mp q1
      rw [List.length_append] at this
      omega
    have r1 : RVs K H' β1 vs ds := e2.low (by rw [hb]; exact hd)
    have hH : H a = none := by
      cases e : H a with
      | none => rfl
      | some u =>
        have ha' : a ∈ β1 ++ gb := List.mem_of_getElem? ha
        have hb' : a ∉ β := fun m => by
          obtain ⟨g1, rfl⟩ := hp
          exact hn (List.mem_append_left _ m)
        rw [L.nw a ha' hb'] at e
        cases e
    refine k (.ref a) H' (β1 ++ [a]) _ _ (Le.own M1 (L.low hp) hH) (M1.cell hn (c := .lst ds) ⟨vs, e1, r1.mono (Ler.more _ _ _)⟩) (.ref ?_) q
    rw [← hb, List.getElem?_append_right (Nat.le_refl _), Nat.sub_self]
    rfl

/-! ### promises -/
abbrev ASp := List A → Mem → AK → Prop
def toSp (K : PySem.W.Frag) (n : Nat) (as : ASp) : Sp := fun vs H P _ => vs.length = n ∧ ∃ ds β μ Q, RVs K H β vs ds ∧ Mst K H β μ ∧ as ds μ Q ∧ Kn K H β Q P
structure FnA (P : Program) (w : World) (K : PySem.W.Frag) (mg : Str → Option Value) (base : Heap) (k : Nat) (x : Str) (n : Nat) (as : ASp) : Prop where
  ex : ∃ f fd ps, FnOk P w K mg base CX0 k f fd ps (toSp K n as) ∧ ps.length = n ∧ mg x = some (.ref f) ∧ PySem.W.keepIn K (.ref f) = true ∧ Binds K fd ps []
  len : ∀ ds μ Q, as ds μ Q → ds.length = n
theorem FnA.imp {P : Program} {w : World} {K : PySem.W.Frag} {mg : Str → Option Value} {base : Heap} {k : Nat} {x : Str} {n : Nat} {as as' : ASp} (F : FnA P w K mg base k x n as) (h : ∀ ds μ Q, as' ds μ Q → as ds μ Q) : FnA P w K mg base k x n as' := by
  obtain ⟨f, fd, ps, F1, F2⟩ := F.ex
  exact ⟨⟨f, fd, ps, F1.imp fun vs H Q E ⟨hn, ds, β, μ, Qa, r, M, q, kk⟩ => ⟨hn, ds, β, μ, Qa, r, M, h _ _ _ q, kk⟩, F2⟩, fun ds μ Q q => F.len ds μ Q (h _ _ _ q)⟩
theorem FnA.mono {P : Program} {w : World} {K : PySem.W.Frag} {mg : Str → Option Value} {base : Heap} {j k : Nat} {x : Str} {n : Nat} {as : ASp} (F : FnA P w K mg base j x n as) (h : j ≤ k) : FnA P w K mg base k x n as := by
  obtain ⟨f, fd, ps, F1, F2⟩ := F.ex
  exact ⟨⟨f, fd, ps, F1.mono h, F2⟩, F.len⟩
def aCall (as : ASp) (a : ATA) : ATE := fun ρ μ Q => a ρ μ fun ds μ1 => as ds μ1 Q
section
variable {X : Cx}
theorem aCall_ok {K : PySem.W.Frag} {n : Nat} {as : ASp} {a : ATA} (hlen : ∀ ds μ Q, as ds μ Q → ds.length = n) (E : XK) (σ : L2.St) (H : Hp) (P : VK) (h : tA K (aCall as a) σ H P) : tCall (toSp K n as) [] E (tAA K a) σ H P := by
  obtain ⟨β, ρ, μ, Q, F, M, h, k⟩ := h
  refine ⟨β, ρ, μ, _, F, M, h, fun vs H1 β1 ds μ1 L1 M1 r1 h1 => ?_⟩
  show toSp K n as (vs ++ []) H1 P E
  rw [List.append_nil]
  exact ⟨by rw [r1.length]; exact hlen _ _ _ h1, ds, β1, μ1, Q, r1, M1, h1, k.le L1⟩
theorem xe_call {k n : Nat} {x : Str} {as : ASp} {p pos : Pos} {e : Expr} {es : List Expr} {a : ATA} (F : FnA X.prog X.w X.K X.mg X.base k x n as) (hr : Room k X.A) (hg : Gl X x) (ha : PAA X (e :: es) a)
    (hdb : (x == ("__debug__" : Str)) = false := by decide) (he : starEach (e :: es) X.env = (false, eval e X.env) :: starEach es X.env := by rfl) (hpl : (backTo pos (starEach es X.env)).any (·.1) = false := by rfl) :
    PEA X (.Call (.Name x p) (e :: es) [] pos) (aCall as a) := by
  obtain ⟨f, fd, ps, F1, _, hm, hk, hb⟩ := F.ex
  exact pe_imp (pe_call F1 hr hg hm hk hb .nil pass0 ha hdb he hpl) (aCall_ok F.len _)
end
def astart (N : Nat) (ds : List A) : AEnv := ds.map some ++ List.replicate (N - ds.length) none
theorem fr_start {K : PySem.W.Frag} {H : Hp} {β : List Addr} {N : List Str} {vs : List V} {ds : List A} (r : RVs K H β vs ds) : Fr K (L2.start N vs) H β (astart N.length ds) := by
  have hl := r.length
  refine ⟨by unfold L2.start astart; simp [hl], fun i d h => ?_⟩
  unfold astart at h
  unfold L2.start
  by_cases hi : i < ds.length
  · rw [List.getElem?_append_left (by simpa using hi), List.getElem?_map] at h
    cases e : ds[i]? with
    | none => rw [e] at h; cases h
    | some d' =>
      rw [e] at h
      cases h
      obtain ⟨v, ev, rv⟩ := r.getD e
      exact ⟨v, by rw [List.getElem?_append_left (by simpa [hl] using hi), List.getElem?_map, ev]; rfl, rv⟩
  · rw [List.getElem?_append_right (by simpa using hi), List.getElem?_replicate] at h
    split at h <;> cases h
/-- a promise that nobody can call upon -/
theorem fn_false {P : Program} {w : World} {K : PySem.W.Frag} {mg : Str → Option Value} {base : Heap} {x : Str} {f : Addr} {fd : FuncData} {ps : List Str} {k n : Nat} {as : ASp} (hk : PySem.W.keepIn K (.ref f) = true) (hn : ps.length = n) (hm : mg x = some (.ref f)) (hb : Binds K fd ps []) (h : ∀ ds μ Q, ¬ as ds μ Q) : FnA P w K mg base k x n as :=
  ⟨⟨f, fd, ps, ⟨fun vs H Q E q => by obtain ⟨_, _, _, _, _, _, _, z, _⟩ := q; exact (h _ _ _ z).elim, fun A outer s H args us vs Q E _ _ _ _ q => by obtain ⟨_, _, _, _, _, _, _, z, _⟩ := q; exact (h _ _ _ z).elim⟩, hn, hm, hk, hb⟩, fun _ _ _ z => (h _ _ _ z).elim⟩
theorem hu1 {A : Around} {k : Nat} (hr : Room k A) : A.units + 1 < cLine := by have := hr.un; omega
theorem hu64 {A : Around} {k : Nat} (hr : Room k A) : A.units + 64 < cLine := by have := hr.un; omega
theorem hu65 {A : Around} {k : Nat} (hr : Room k A) : A.units + 65 < cLine := by have := hr.un; omega
/-- THE RULE of a def -/
theorem fn_a {P : Program} {w : World} {K : PySem.W.Frag} {mg : Str → Option Value} {base : Heap} {x qual : Str} {params : Arguments} {body : List Stmt} {scope : Scope} {f : Addr} {fd : FuncData} {N ps : List Str} {k n : Nat} {as : ASp} {a : ATS}
    (F : FunD K x qual params body scope [] [] f fd) (S : FnScope N ps scope) (hn : ps.length = n) (hm : mg x = some (.ref f)) (hb : Binds K fd ps []) (hlen : ∀ ds μ Q, as ds μ Q → ds.length = n)
    (hbody : ∀ (cdv : Value) (A : Around) (outer : List Env) (s : Shared) (H : Hp) (E : XK), Room k (A.deeper (envOfC qual scope s.heap.objs.size f cdv)) → PSsA (cxOf CX0 P w K mg base N qual scope f cdv A outer s H E).nox body a)
    (hread : ∀ ds μ Q, as ds μ Q → a { nx := fun _ μ' => Ret μ Q .non μ', rt := Ret μ Q } (astart N.length ds) μ) : FnA P w K mg base (k + 1) x n as := by
  refine ⟨⟨f, fd, ps, ?_, hn, hm, F.kp, hb⟩, hlen⟩
  refine F.ok S (fun vs H Q E h => by rw [hn]; exact h.1) (fun cdv A outer s H vs Q E hr h => ⟨_, (hbody cdv A outer s H E hr).nox, ?_⟩)
  obtain ⟨_, ds, β, μ, Qa, r, M, q, kk⟩ := h
  refine ⟨β, _, μ, _, fr_start r, M, hread ds μ Qa q, ⟨fun σ' H' β' ρ' μ' L F' M' h => ret_ok M kk L M' .non h, fun v H' β' d μ' L M' rv h => ret_ok M kk L M' rv h, fun _ _ _ _ _ _ _ _ h => h.elim, fun _ _ _ _ _ _ _ _ h => h.elim⟩⟩
end XL

/-! XL10: built-ins by name; methods of lists. -/
namespace XL
open PySem PySem.Spec PyProof.Rows L2
section
variable {X : Cx}
/-! ### sequences that a call takes -/
def tAQ (K : PySem.W.Frag) (a : ATA) : TE := fun σ H P => ∃ β ρ μ Q, Fr K σ H β ρ ∧ Mst K H β μ ∧ a ρ μ Q ∧ ∀ p H' β' vs ds μ', Le H β H' β' → Mst K H' β' μ' → (SqL K H' p vs ∨ (SqT K H' p vs ∧ RV K H' β' (.ref p) (.tup ds))) → RVs K H' β' vs ds → Q ds μ' → P (.ref p) H'
def tAQL (K : PySem.W.Frag) (a : ATA) : TE := fun σ H P => ∃ β ρ μ Q, Fr K σ H β ρ ∧ Mst K H β μ ∧ a ρ μ Q ∧ ∀ p H' β' vs ds μ', Le H β H' β' → Mst K H' β' μ' → SqL K H' p vs → RVs K H' β' vs ds → Q ds μ' → P (.ref p) H'
abbrev PQA (X : Cx) (e : Expr) (a : ATA) : Prop := PE X e (tAQ X.K a)
abbrev PQLA (X : Cx) (e : Expr) (a : ATA) : Prop := PE X e (tAQL X.K a)
theorem xq_new {e : Expr} {a : ATA} (h : PLA X e a) : PQA X e a := pe_imp h fun σ H P ⟨β, ρ, μ, Q, F, M, h, k⟩ => ⟨β, ρ, μ, Q, F, M, h, fun p H' β' vs ds μ' L M' hp hn h0 r q => k p H' β' vs ds μ' L M' (.inl (.inl (.inl hp))) r q⟩
theorem xql_new {e : Expr} {a : ATA} (h : PLA X e a) : PQLA X e a := pe_imp h fun σ H P ⟨β, ρ, μ, Q, F, M, h, k⟩ => ⟨β, ρ, μ, Q, F, M, h, fun p H' β' vs ds μ' L M' hp hn h0 r q => k p H' β' vs ds μ' L M' (.inl (.inl hp)) r q⟩
def seqQ (d : A) (μ : Mem) (Q : List A → Mem → Prop) : Prop := match d with
  | .tup xs => Q xs μ
  | .frl xs => Q xs μ
  | .ref k => match μ[k]? with
    | some (.lst xs) => Q xs μ
    | _ => False
  | _ => False
def lstQ (d : A) (μ : Mem) (Q : List A → Mem → Prop) : Prop := match d with
  | .frl xs => Q xs μ
  | .ref k => match μ[k]? with
    | some (.lst xs) => Q xs μ
    | _ => False
  | _ => False
def aSeqQ (a : ATE) : ATA := fun ρ μ Q => a ρ μ fun d μ1 => seqQ d μ1 Q
def aLstQ (a : ATE) : ATA := fun ρ μ Q => a ρ μ fun d μ1 => lstQ d μ1 Q
theorem xq_val {e : Expr} {a : ATE} (h : PEA X e a) : PQA X e (aSeqQ a) := pe_imp h fun σ H P ⟨β, ρ, μ, Q, F, M, h, k⟩ => ⟨β, ρ, μ, _, F, M, h, fun v H1 β1 d μ1 L1 M1 r1 h1 => by
  cases d with
  | tup xs =>
    obtain ⟨a, vs, rfl, hs, ra⟩ := r1.tup_inv
    exact k a H1 β1 vs xs μ1 L1 M1 (.inr ⟨hs, r1⟩) ra h1
  | frl xs =>
    obtain ⟨a, vs, rfl, hs, ra⟩ := r1.frl_inv
    exact k a H1 β1 vs xs μ1 L1 M1 (.inl hs.sq) ra h1
  | ref m =>
    obtain ⟨a, rfl, ha⟩ := r1.ref_inv
    unfold seqQ at h1
    dsimp only at h1
    split at h1
    · rename_i xs e
      obtain ⟨vs, q1, q2⟩ := M1.ok _ _ _ e ha
      exact k a H1 β1 vs xs μ1 L1 M1 (.inl (.inl (.inl q1))) q2 h1
    · exact h1.elim
  | _ => exact h1.elim⟩
theorem xql_val {e : Expr} {a : ATE} (h : PEA X e a) : PQLA X e (aLstQ a) := pe_imp h fun σ H P ⟨β, ρ, μ, Q, F, M, h, k⟩ => ⟨β, ρ, μ, _, F, M, h, fun v H1 β1 d μ1 L1 M1 r1 h1 => by
  cases d with
  | frl xs =>
    obtain ⟨a, vs, rfl, hs, ra⟩ := r1.frl_inv
    exact k a H1 β1 vs xs μ1 L1 M1 hs.sq ra h1
  | ref m =>
    obtain ⟨a, rfl, ha⟩ := r1.ref_inv
    unfold lstQ at h1
    dsimp only at h1
    split at h1
    · rename_i xs e
      obtain ⟨vs, q1, q2⟩ := M1.ok _ _ _ e ha
      exact k a H1 β1 vs xs μ1 L1 M1 (.inl (.inl q1)) q2 h1
    · exact h1.elim
  | _ => exact h1.elim⟩
abbrev Sole (X : Cx) (e : Expr) : Prop := starEach [e] X.env = (false, eval e X.env) :: starEach [] X.env
theorem sole_pl {e : Expr} {pos : Pos} : (backTo pos (starEach ([] : List Expr) X.env)).any (·.1) = false := by rfl

/-! ### len -/
def lenV (d : A) (μ : Mem) : Option Nat := match d with
  | .tup xs => some xs.length
  | .frl xs => some xs.length
  | .str s => if s.length ≤ sizeLine then some s.length else none
  | .ref k => match μ[k]? with
    | some (.lst xs) => some xs.length
    | some (.dk kvs) => some kvs.length
    | _ => none
  | _ => none
def aLen (a : ATE) : ATE := fun ρ μ Q => a ρ μ fun d μ1 => ∃ n, lenV d μ1 = some n ∧ Q (.int (n : Int)) μ1
theorem callr_or {f : Value} {r r' : List V → Hp → VK → Prop} (h : CallR X f r) (h' : CallR X f r') : CallR X f (fun x H Q => r x H Q ∨ r' x H Q) := by
  intro pins s σ H xs us Q I r q
  rcases q with q | q
  · exact h pins s σ H xs us Q I r q
  · exact h' pins s σ H xs us Q I r q
theorem xe_len {e : Expr} {a : ATE} {p pos : Pos} (hg : Gl X "len") (hm : X.mg "len" = none) (ha : PEA X e a) (he : Sole X e := by rfl) : PEA X (.Call (.Name "len" p) [e] [] pos) (aLen a) :=
  pe_imp (pe_callB (callr_or call_len call_lenD) hg hm PySem.boot_len (pa_cons ha pa_nil he) (by decide) (by decide) he rfl) fun σ H P ⟨β, ρ, μ, Q, F, M, h, k⟩ => ⟨β, ρ, μ, _, F, M, h, fun v H1 β1 d μ1 L1 M1 r1 ⟨n, e, q⟩ => by
    have fin : P (.int (n : Int)) H1 := k _ H1 β1 _ μ1 L1 M1 (.int _) q
    cases d with
    | tup xs =>
      obtain ⟨a, vs, rfl, hs, ra⟩ := r1.tup_inv
      exact .inl ⟨_, n, rfl, .inr ⟨vs, hs, by rw [ra.length]; exact (Option.some.inj e).symm⟩, fin⟩
    | frl xs =>
      obtain ⟨a, vs, rfl, hs, ra⟩ := r1.frl_inv
      exact .inl ⟨_, n, rfl, .inl ⟨vs, hs.sq, by rw [ra.length]; exact (Option.some.inj e).symm⟩, fin⟩
    | str z =>
      have e' : (if z.length ≤ sizeLine then some z.length else none) = some n := e
      by_cases hz : z.length ≤ sizeLine
      · rw [if_pos hz] at e'
        cases r1.str_inv
        exact .inl ⟨_, n, rfl, ⟨hz, (Option.some.inj e').symm⟩, fin⟩
      · rw [if_neg hz] at e'; cases e'
    | ref m =>
      obtain ⟨a, rfl, ha⟩ := r1.ref_inv
      unfold lenV at e
      dsimp only at e
      split at e
      · rename_i xs em
        obtain ⟨vs, q1, q2⟩ := M1.ok _ _ _ em ha
        exact .inl ⟨_, n, rfl, .inl ⟨vs, .inl (.inl q1), by rw [q2.length]; exact (Option.some.inj e).symm⟩, fin⟩
      · rename_i kvs em
        obtain ⟨ws, q1, q2⟩ := M1.ok _ _ _ em ha
        exact .inr ⟨a, ws, rfl, q1, by rw [q2.length, Option.some.inj e]; exact fin⟩
      · cases e
    | _ => cases e⟩
/-- len of a new list -/
def aLenN (a : ATA) : ATE := fun ρ μ Q => a ρ μ fun ds μ1 => Q (.int (ds.length : Int)) μ1
theorem xe_lenN {e : Expr} {a : ATA} {p pos : Pos} (hg : Gl X "len") (hm : X.mg "len" = none) (ha : PQA X e a) (he : Sole X e := by rfl) : PEA X (.Call (.Name "len" p) [e] [] pos) (aLenN a) :=
  pe_imp (pe_callB call_len_seq hg hm PySem.boot_len (pa_cons ha pa_nil he) (by decide) (by decide) he rfl) fun σ H P ⟨β, ρ, μ, Q, F, M, h, k⟩ => ⟨β, ρ, μ, _, F, M, h, fun p H1 β1 vs ds μ1 L1 M1 hs r1 q => ⟨p, vs, rfl, hs.imp id (·.1), by
    rw [r1.length]
    exact k _ H1 β1 _ μ1 L1 M1 (.int _) q⟩⟩
/-! ### ints -/
def aAbs (a : ATE) : ATE := fun ρ μ Q => a ρ μ fun d μ1 => match d with
  | .int i => Q (.int (if i < 0 then -i else i)) μ1
  | _ => False
theorem xe_abs {e : Expr} {a : ATE} {p pos : Pos} (hg : Gl X "abs") (hm : X.mg "abs" = none) (ha : PEA X e a) (he : Sole X e := by rfl) : PEA X (.Call (.Name "abs" p) [e] [] pos) (aAbs a) :=
  pe_imp (pe_callB call_abs hg hm (by decide +kernel) (pa_cons ha pa_nil he) (by decide) (by decide) he rfl) fun σ H P ⟨β, ρ, μ, Q, F, M, h, k⟩ => ⟨β, ρ, μ, _, F, M, h, fun v H1 β1 d μ1 L1 M1 r1 q => by
    cases d with
    | int i => cases r1.int_inv; exact ⟨i, rfl, k _ H1 β1 _ μ1 L1 M1 (.int _) q⟩
    | _ => exact q.elim⟩
def aInt (a : ATE) : ATE := fun ρ μ Q => a ρ μ fun d μ1 => match d with
  | .int i => Q (.int i) μ1
  | .bl b => Q (.int (if b then 1 else 0)) μ1
  | _ => False
theorem xe_int1 {e : Expr} {a : ATE} {p pos : Pos} (hg : Gl X "int") (hm : X.mg "int" = none) (ha : PEA X e a) (he : Sole X e := by rfl) : PEA X (.Call (.Name "int" p) [e] [] pos) (aInt a) :=
  pe_imp (pe_callTy call_int1 hg hm (by decide +kernel) (pa_cons ha pa_nil he) (by decide) (by decide) he rfl) fun σ H P ⟨β, ρ, μ, Q, F, M, h, k⟩ => ⟨β, ρ, μ, _, F, M, h, fun v H1 β1 d μ1 L1 M1 r1 q => by
    cases d with
    | int i => cases r1.int_inv; exact .inl ⟨i, rfl, k _ H1 β1 _ μ1 L1 M1 (.int _) q⟩
    | bl i => cases r1.bl_inv; exact .inr ⟨i, rfl, k _ H1 β1 _ μ1 L1 M1 (.int _) q⟩
    | _ => exact q.elim⟩
def aTwo (g : Int → Int → Int) (a b : ATE) : ATE := fun ρ μ Q => a ρ μ fun d μ1 => b ρ μ1 fun e μ2 => match d, e with
  | .int i, .int j => Q (.int (g i j)) μ2
  | _, _ => False
theorem aTwo_ok {K : PySem.W.Frag} {g : Int → Int → Int} {a b : ATE} (σ : L2.St) (H : Hp) (P : VK) (h : tA K (aTwo g a b) σ H P) : tCB (fun xs H Q => ∃ i j, xs = [.int i, .int j] ∧ Q (.int (g i j)) H) (tCons (tA K a) (tCons (tA K b) tNil)) σ H P := by
  obtain ⟨β, ρ, μ, Q, F, M, h, k⟩ := h
  refine ⟨β, ρ, μ, _, F, M, h, fun v H1 β1 d μ1 L1 M1 r1 h1 => ⟨β1, ρ, μ1, _, F.mono L1.r, M1, h1, fun u H2 β2 e μ2 L2 M2 r2 h2 => ?_⟩⟩
  cases d with
  | int i =>
    cases e with
    | int j =>
      cases r1.int_inv
      cases r2.int_inv
      exact ⟨i, j, rfl, k _ H2 β2 _ μ2 (L1.trans L2) M2 (.int _) h2⟩
    | _ => exact h2.elim
  | _ => exact h2.elim
theorem xe_max2 {e f : Expr} {a b : ATE} {p pos : Pos} (hc : X.calm = true) (hg : Gl X "max") (hm : X.mg "max" = none) (ha : PEA X e a) (hb : PEA X f b) (he : starEach [e, f] X.env = (false, eval e X.env) :: starEach [f] X.env := by rfl) (hf : Sole X f := by rfl)
    (hpl : (backTo pos (starEach [f] X.env)).any (·.1) = false := by rfl) : PEA X (.Call (.Name "max" p) [e, f] [] pos) (aTwo (fun i j => if j > i then j else i) a b) :=
  pe_imp (pe_callB (call_max2 hc) hg hm (by decide +kernel) (pa_cons ha (pa_cons hb pa_nil hf) he) (by decide) (by decide) he hpl) aTwo_ok
theorem xe_min2 {e f : Expr} {a b : ATE} {p pos : Pos} (hc : X.calm = true) (hg : Gl X "min") (hm : X.mg "min" = none) (ha : PEA X e a) (hb : PEA X f b) (he : starEach [e, f] X.env = (false, eval e X.env) :: starEach [f] X.env := by rfl) (hf : Sole X f := by rfl)
    (hpl : (backTo pos (starEach [f] X.env)).any (·.1) = false := by rfl) : PEA X (.Call (.Name "min" p) [e, f] [] pos) (aTwo (fun i j => if j < i then j else i) a b) :=
  pe_imp (pe_callB (call_min2 hc) hg hm (by decide +kernel) (pa_cons ha (pa_cons hb pa_nil hf) he) (by decide) (by decide) he hpl) aTwo_ok
/-! ### isinstance -/
def tyN (d : A) (μ : Mem) : Option String := match d with
  | .non => some "NoneType"
  | .bl _ => some "bool"
  | .int _ => some "int"
  | .str _ => some "str"
  | .tup _ => some "tuple"
  | .frl _ => some "list"
  | .ref k => match μ[k]? with
    | some (.lst _) => some "list"
    | some (.dk _) => some "dict"
    | _ => none
  | .ty _ => none
def aIsi (a : ATE) (n : String) : ATE := fun ρ μ Q => a ρ μ fun d μ1 => ∃ t b, tyN d μ1 = some t ∧ kitB t n = some b ∧ Q (.bl b) μ1
theorem FL.ty {K : PySem.W.Frag} {H : Hp} {a : Addr} {vs : List V} (h : FL K H a vs) : TyX K H (.ref a) (.type "list") := by
  rcases h with ⟨o, e⟩ | ⟨o, its, n, e, c, _⟩
  · exact .base (.frz e)
  · exact .kList e c
theorem sqt_ty {K : PySem.W.Frag} {H : Hp} {a : Addr} {vs : List V} (h : SqT K H a vs) : TyX K H (.ref a) (.type "tuple") := by
  rcases h with (e | ⟨o, e⟩) | ⟨o, its, n, e, c, _⟩
  · exact .base (.tup e)
  · exact .fTuple e
  · exact .kTuple e c
theorem tyN_ok {K : PySem.W.Frag} {H : Hp} {β : List Addr} {μ : Mem} {v : V} {d : A} {t : String} (M : Mst K H β μ) (r : RV K H β v d) (h : tyN d μ = some t) : TyX K H v (.type t) := by
  cases r with
  | non => cases h; exact .base .non
  | bl b => cases h; exact .base (.bl b)
  | int b => cases h; exact .base (.int b)
  | str b => cases h; exact .base (.str b)
  | tup hs ra => cases h; exact sqt_ty hs
  | frl hs ra => cases h; exact hs.ty
  | @ref k a hk =>
    unfold tyN at h
    dsimp only at h
    split at h
    · rename_i xs e
      cases h
      obtain ⟨vs, q1, q2⟩ := M.ok _ _ _ e hk
      exact .base (.lst q1)
    · rename_i xs e
      cases h
      obtain ⟨vs, q1, q2⟩ := M.ok _ _ _ e hk
      exact .base (.dK q1)
    · cases h
  | ty n => cases h
theorem xe_isi {e c : Expr} {a : ATE} {n : String} {p pos : Pos} (hg : Gl X "isinstance") (hm : X.mg "isinstance" = none) (ha : PEA X e a) (hcl : PEA X c (aC (.ty n))) (he : starEach [e, c] X.env = (false, eval e X.env) :: starEach [c] X.env := by rfl) (hf : Sole X c := by rfl)
    (hpl : (backTo pos (starEach [c] X.env)).any (·.1) = false := by rfl) : PEA X (.Call (.Name "isinstance" p) [e, c] [] pos) (aIsi a n) :=
  pe_imp (pe_callB call_isi hg hm (by decide +kernel) (pa_cons ha (pa_cons hcl pa_nil hf) he) (by decide) (by decide) he hpl) fun σ H P ⟨β, ρ, μ, Q, F, M, h, k⟩ =>
    ⟨β, ρ, μ, _, F, M, h, fun v H1 β1 d μ1 L1 M1 r1 h1 => ⟨β1, ρ, μ1, fun d2 μ2 => d2 = .ty n ∧ μ2 = μ1, F.mono L1.r, M1, ⟨rfl, rfl⟩, fun u H2 β2 e μ2 L2 M2 r2 ⟨e1, e2⟩ => by
      subst e1 e2
      obtain ⟨t, b, e1, e2, q⟩ := h1
      cases r2.ty_inv
      exact ⟨v, .ty n, .type t, .type n, b, rfl, .ty n, tyN_ok M2 (r1.mono L2.r) e1, kit_ty e2, k _ H2 β2 _ μ2 (L1.trans L2) M2 (.bl _) q⟩⟩⟩
end
end XL

/-! XL11: tuple, list, sum, any, all, max, min, sorted; append. -/
namespace XL
open PySem PySem.Spec PyProof.Rows L2
section
variable {X : Cx}
theorem aq_run {K : PySem.W.Frag} {a : ATA} {P : VK} {σ : L2.St} {H : Hp} {r : List V → Hp → VK → Prop} {Qa : List A → Mem → Prop} {β : List Addr} {ρ : AEnv} {μ : Mem} (F : Fr K σ H β ρ) (M : Mst K H β μ) (h : a ρ μ Qa)
    (k : ∀ p H' β' vs ds μ', Le H β H' β' → Mst K H' β' μ' → (SqL K H' p vs ∨ (SqT K H' p vs ∧ RV K H' β' (.ref p) (.tup ds))) → RVs K H' β' vs ds → Qa ds μ' → r [.ref p] H' P) : tCB r (tCons (tAQ K a) tNil) σ H P :=
  ⟨β, ρ, μ, Qa, F, M, h, fun p H' β' vs ds μ' L M' s r q => k p H' β' vs ds μ' L M' s r q⟩
def aTupOf (a : ATA) : ATE := fun ρ μ Q => a ρ μ fun ds μ1 => Q (.tup ds) μ1
theorem xe_tupOf {e : Expr} {a : ATA} {p pos : Pos} (hg : Gl X "tuple") (hm : X.mg "tuple" = none) (ha : PQA X e a) (he : Sole X e := by rfl) : PEA X (.Call (.Name "tuple" p) [e] [] pos) (aTupOf a) :=
  pe_imp (pe_callTy call_tuple_of hg hm (by decide +kernel) (pa_cons ha pa_nil he) (by decide) (by decide) he rfl) fun σ H P ⟨β, ρ, μ, Q, F, M, h, k⟩ => ⟨β, ρ, μ, _, F, M, h, fun p H1 β1 vs ds μ1 L1 M1 hs r1 q => ⟨p, vs, rfl, by
    rcases hs with hs | ⟨hs, rt⟩
    · exact .inl ⟨hs, kn_tup (k.le L1) M1 r1 q⟩
    · exact .inr ⟨hs, k _ H1 β1 _ μ1 L1 M1 rt q⟩⟩⟩
def aLstOf (a : ATA) : ATA := fun ρ μ Q => a ρ μ fun ds μ1 => Q ds μ1
theorem xl_lstOf {e : Expr} {a : ATA} {p pos : Pos} (hg : Gl X "list") (hm : X.mg "list" = none) (ha : PQA X e a) (he : Sole X e := by rfl) : PLA X (.Call (.Name "list" p) [e] [] pos) (aLstOf a) :=
  pe_imp (pe_callTy call_list_of hg hm (by decide +kernel) (pa_cons ha pa_nil he) (by decide) (by decide) he rfl) fun σ H P ⟨β, ρ, μ, Q, F, M, h, k⟩ => ⟨β, ρ, μ, _, F, M, h, fun p H1 β1 vs ds μ1 L1 M1 hs r1 q => ⟨p, vs, rfl, hs.imp id (·.1), knl_new k L1 M1 r1 q⟩⟩
/-- sums, any, all, max, min of a list -/
def aSum (a : ATA) : ATE := fun ρ μ Q => a ρ μ fun ds μ1 => ∃ ns : List Int, ds = ns.map A.int ∧ Q (.int ns.sum) μ1
def aAny (a : ATA) : ATE := fun ρ μ Q => a ρ μ fun ds μ1 => ∃ ns : List Bool, ds = ns.map A.bl ∧ Q (.bl (ns.any id)) μ1
def aAll (a : ATA) : ATE := fun ρ μ Q => a ρ μ fun ds μ1 => ∃ ns : List Bool, ds = ns.map A.bl ∧ Q (.bl (ns.all id)) μ1
def aMaxL (a : ATA) : ATE := fun ρ μ Q => a ρ μ fun ds μ1 => ∃ ns : List Int, ds = ns.map A.int ∧ 0 < ns.length ∧ ∀ m, m ∈ ns → (∀ y, y ∈ ns → y ≤ m) → Q (.int m) μ1
def aMinL (a : ATA) : ATE := fun ρ μ Q => a ρ μ fun ds μ1 => ∃ ns : List Int, ds = ns.map A.int ∧ 0 < ns.length ∧ ∀ m, m ∈ ns → (∀ y, y ∈ ns → m ≤ y) → Q (.int m) μ1
theorem xe_sum {e : Expr} {a : ATA} {p pos : Pos} (hc : X.calm = true) (hg : Gl X "sum") (hm : X.mg "sum" = none) (ha : PQLA X e a) (he : Sole X e := by rfl) : PEA X (.Call (.Name "sum" p) [e] [] pos) (aSum a) :=
  pe_imp (pe_callB (cr_sum hc) hg hm (by decide +kernel) (pa_cons ha pa_nil he) (by decide) (by decide) he rfl) fun σ H P ⟨β, ρ, μ, Q, F, M, h, k⟩ => ⟨β, ρ, μ, _, F, M, h, fun p H1 β1 vs ds μ1 L1 M1 hs r1 ⟨ns, e, q⟩ => by
    subst e
    cases r1.of_ints
    exact ⟨p, ns, rfl, hs, k _ H1 β1 _ μ1 L1 M1 (.int _) q⟩⟩
theorem xe_any {e : Expr} {a : ATA} {p pos : Pos} (hc : X.calm = true) (hg : Gl X "any") (hm : X.mg "any" = none) (ha : PQLA X e a) (he : Sole X e := by rfl) : PEA X (.Call (.Name "any" p) [e] [] pos) (aAny a) :=
  pe_imp (pe_callB (cr_any hc) hg hm (by decide +kernel) (pa_cons ha pa_nil he) (by decide) (by decide) he rfl) fun σ H P ⟨β, ρ, μ, Q, F, M, h, k⟩ => ⟨β, ρ, μ, _, F, M, h, fun p H1 β1 vs ds μ1 L1 M1 hs r1 ⟨ns, e, q⟩ => by
    subst e
    cases r1.of_bls
    exact ⟨p, ns, rfl, hs, k _ H1 β1 _ μ1 L1 M1 (.bl _) q⟩⟩
theorem xe_all {e : Expr} {a : ATA} {p pos : Pos} (hc : X.calm = true) (hg : Gl X "all") (hm : X.mg "all" = none) (ha : PQLA X e a) (he : Sole X e := by rfl) : PEA X (.Call (.Name "all" p) [e] [] pos) (aAll a) :=
  pe_imp (pe_callB (cr_all hc) hg hm (by decide +kernel) (pa_cons ha pa_nil he) (by decide) (by decide) he rfl) fun σ H P ⟨β, ρ, μ, Q, F, M, h, k⟩ => ⟨β, ρ, μ, _, F, M, h, fun p H1 β1 vs ds μ1 L1 M1 hs r1 ⟨ns, e, q⟩ => by
    subst e
    cases r1.of_bls
    exact ⟨p, ns, rfl, hs, k _ H1 β1 _ μ1 L1 M1 (.bl _) q⟩⟩
theorem xe_maxL {e : Expr} {a : ATA} {p pos : Pos} (hc : X.calm = true) (hg : Gl X "max") (hm : X.mg "max" = none) (ha : PQLA X e a) (he : Sole X e := by rfl) : PEA X (.Call (.Name "max" p) [e] [] pos) (aMaxL a) :=
  pe_imp (pe_callB (cr_max hc) hg hm (by decide +kernel) (pa_cons ha pa_nil he) (by decide) (by decide) he rfl) fun σ H P ⟨β, ρ, μ, Q, F, M, h, k⟩ => ⟨β, ρ, μ, _, F, M, h, fun p H1 β1 vs ds μ1 L1 M1 hs r1 ⟨ns, e, h0, q⟩ => by
    subst e
    cases r1.of_ints
    exact ⟨p, ns, rfl, hs, h0, fun m m1 m2 => k _ H1 β1 _ μ1 L1 M1 (.int _) (q m m1 m2)⟩⟩
theorem xe_minL {e : Expr} {a : ATA} {p pos : Pos} (hc : X.calm = true) (hg : Gl X "min") (hm : X.mg "min" = none) (ha : PQLA X e a) (he : Sole X e := by rfl) : PEA X (.Call (.Name "min" p) [e] [] pos) (aMinL a) :=
  pe_imp (pe_callB (cr_min hc) hg hm (by decide +kernel) (pa_cons ha pa_nil he) (by decide) (by decide) he rfl) fun σ H P ⟨β, ρ, μ, Q, F, M, h, k⟩ => ⟨β, ρ, μ, _, F, M, h, fun p H1 β1 vs ds μ1 L1 M1 hs r1 ⟨ns, e, h0, q⟩ => by
    subst e
    cases r1.of_ints
    exact ⟨p, ns, rfl, hs, h0, fun m m1 m2 => k _ H1 β1 _ μ1 L1 M1 (.int _) (q m m1 m2)⟩⟩
/-- sorted, ints -/
def aSorted (a : ATA) : ATA := fun ρ μ Q => a ρ μ fun ds μ1 => ∃ ns : List Int, ds = ns.map A.int ∧ ∀ ns' : List Int, ns'.Perm ns → ns'.Pairwise (· ≤ ·) → Q (ns'.map A.int) μ1
theorem xl_sorted {e : Expr} {a : ATA} {p pos : Pos} (hg : Gl X "sorted") (hm : X.mg "sorted" = none) (ha : PQLA X e a) (he : Sole X e := by rfl) : PLA X (.Call (.Name "sorted" p) [e] [] pos) (aSorted a) :=
  pe_imp (pe_callB cr_sortedI hg hm (by decide +kernel) (pa_cons ha pa_nil he) (by decide) (by decide) he rfl) fun σ H P ⟨β, ρ, μ, Q, F, M, h, k⟩ => ⟨β, ρ, μ, _, F, M, h, fun p H1 β1 vs ds μ1 L1 M1 hs r1 ⟨ns, e, q⟩ => by
    subst e
    cases r1.of_ints
    exact ⟨p, ns, rfl, hs, fun ns' l hp hs hl => knl_new k L1 M1 (RVs.ints ns') (q ns' hp hs) l hl⟩⟩

/-! ### methods of lists -/
/-- o.append(e) -/
def aApp (o e : ATE) : ATE := fun ρ μ Q => o ρ μ fun d μ1 => match d with
  | .ref k => (∃ xs, μ1[k]? = some (.lst xs)) ∧ e ρ μ1 fun y μ2 => ∃ xs, μ2[k]? = some (.lst xs) ∧ xs.length < sizeLine ∧ Q .non (μ2.set k (.lst (xs ++ [y])))
  | _ => False
theorem xe_app {o e : Expr} {to te : ATE} {apos cpos : Pos} (ho : PEA X o to) (ha : PEA X e te) (hbase : attributeBase o "append" X.env (eval o X.env) = eval o X.env := by rfl)
    (hfew : ((backTo cpos (starEach [e] X.env)).all (fun x => !x.1) && (backToKw cpos (keywordEach [] X.env)).all (fun x => x.1.isSome)
      && decide (([e] : List Expr).length + ([] : List Keyword).length + (if ([] : List Keyword).isEmpty then 0 else 1) < 30)) = true := by rfl)
    (hline : (apos.endLine == cpos.line) = true := by rfl) (hs : Sole X e := by rfl) :
    PEA X (.Call (.Attribute o "append" apos) [e] [] cpos) (aApp to te) :=
  pe_imp (pe_bm PySem.F.plainAttrs_list PySem.F.slot_list_append PySem.F.type_list_append mt_append ho (pa_cons ha pa_nil hs) hbase hfew hline hs rfl) fun σ H P ⟨β, ρ, μ, Q, F, M, h, k⟩ => ⟨β, ρ, μ, _, F, M, h, fun v H1 β1 d μ1 L1 M1 r1 h1 => by
    cases d with
    | ref m =>
      obtain ⟨a, rfl, ha⟩ := r1.ref_inv
      obtain ⟨⟨xs0, e0⟩, h2⟩ := h1
      obtain ⟨vs0, q0, _⟩ := M1.ok _ _ _ e0 ha
      refine ⟨Or.inl ⟨rfl, vs0, .inl (.inl q0)⟩, β1, ρ, μ1, _, F.mono L1.r, M1, h2, fun u H2 β2 y μ2 L2 M2 r2 ⟨xs, e2, hz, q⟩ => ?_⟩
      have ha2 := L2.get ha
      have c := M2.ok _ _ _ e2 ha2
      have ns := c.lst_ns
      obtain ⟨vs, q2, rr⟩ := c
      have Lw : Le H2 β2 (upd H2 a (.lst (vs ++ [u]))) β2 := Le.put M2 e2 ha2 ns
      exact ⟨a, vs, u, rfl, rfl, q2, by rw [rr.length]; exact hz, k _ _ β2 _ _ ((L1.trans L2).trans Lw) (M2.put (c' := .lst (xs ++ [y])) e2 ha2 ns ⟨_, upd_same, (rr.append (.cons r2 .nil)).mono Lw.r⟩) .non q⟩
    | _ => exact h1.elim⟩
end
end XL

/-! XL12: dicts; zip. -/
namespace XL
open PySem PySem.Spec PyProof.Rows L2
abbrev ADA := AEnv → Mem → (List (Key × A) → Mem → Prop) → Prop
def KnD (K : PySem.W.Frag) (H : Hp) (β : List Addr) (Q : List (Key × A) → Mem → Prop) (P : VK) : Prop := ∀ p H' β' ws kvs μ', Le H β H' β' → Mst K H' β' μ' → H' p = some (.dK ws) → p ∉ β' → H p = none → RKs K H' β' ws kvs → Q kvs μ' → P (.ref p) H'
def tAD (K : PySem.W.Frag) (a : ADA) : TE := fun σ H P => ∃ β ρ μ Q, Fr K σ H β ρ ∧ Mst K H β μ ∧ a ρ μ Q ∧ KnD K H β Q P
abbrev PDA (X : Cx) (e : Expr) (a : ADA) : Prop := PE X e (tAD X.K a)
def aDCell (a : ADA) : ATE := fun ρ μ Q => a ρ μ fun kvs μ1 => Q (.ref μ1.length) (μ1 ++ [.dk kvs])
theorem Kn.dcell {K : PySem.W.Frag} {H : Hp} {β : List Addr} {Q : AK} {P : VK} (k : Kn K H β Q P) : KnD K H β (fun ds μ1 => Q (.ref μ1.length) (μ1 ++ [.dk ds])) P := fun p H' β' vs ds μ' L M' hp hn h0 r q => by
  refine k (.ref p) H' (β' ++ [p]) _ _ (Le.own M' L h0) (M'.cell hn (c := .dk ds) ⟨vs, hp, r.mono (Ler.more _ _ _)⟩) (.ref ?_) q
  rw [← M'.len, List.getElem?_append_right (Nat.le_refl _), Nat.sub_self]
  rfl
theorem len_putKA {κ : Type} [DecidableEq κ] (kvs : List (κ × A)) (k : κ) (v : A) : (putKA kvs k v).length ≤ kvs.length + 1 := by
  unfold putKA
  split
  · rw [List.length_map]; omega
  · rw [List.length_append]; show kvs.length + 1 ≤ _; omega
section
variable {X : Cx}
theorem xe_dcell {e : Expr} {a : ADA} (h : PDA X e a) : PEA X e (aDCell a) := pe_imp h fun σ H P ⟨β, ρ, μ, Q, F, M, h, k⟩ => ⟨β, ρ, μ, _, F, M, h, k.dcell⟩
def aDNew : ADA := fun _ μ Q => Q [] μ
theorem xd_new {pos : Pos} : PDA X (.Dict [] [] pos) aDNew := pe_imp pe_dnewK fun σ H P ⟨β, ρ, μ, Q, F, M, h, k⟩ => fun p hp =>
  k p _ β [] [] μ (Le.push M hp) (M.push hp) upd_same (M.fresh hp) hp .nil h
def aDc (ai : ATI) (ga : AGC) (tt : ATT) (tk tv : ATE) (vs : List Nat) : ADA := fun ρ μ Q => ai ρ μ fun xs St μ1 => xs.length ≤ sizeLine ∧ ∃ W : Nat → List (Key × A) → Mem → Prop, W 0 [] μ1 ∧ (∀ i acc μ, i ≤ xs.length → W i acc μ → St μ) ∧
  (∀ i d acc μ, xs[i]? = some d → W i acc μ → ga d (wipeA ρ vs) fun ρ2 => tt ρ2 μ fun b μ2 => if b = true then tk ρ2 μ2 fun y μ3 => tv ρ2 μ3 fun z μ4 => ∃ key, keyOf y = some key ∧ Shr μ μ4 (fun n => z.lt n) (W (i + 1) (putKA acc key z)) else Shr μ μ2 (fun _ => true) (W (i + 1) acc)) ∧
  ∀ acc μ, W xs.length acc μ → Q acc μ
theorem aDc_ok {K : PySem.W.Frag} {ai : ATI} {g : TG} {ga : AGC} {tt : ATT} {tk tv : ATE} {vs : List Nat} (hg : GOk K vs g ga) (σ : L2.St) (H : Hp) (P : VK) (h : tAD K (aDc ai ga tt tk tv vs) σ H P) : tDc (tAI K ai) g (tAT K tt) (tA K tk) (tA K tv) vs σ H P := by
  obtain ⟨β, ρ, μ, Q, F, M, h, k⟩ := h
  refine ⟨β, ρ, μ, _, F, M, h, fun J H1 β1 xs St μ1 la M1 it ⟨hz, W, w0, hst, turn, hd⟩ => ?_⟩
  intro D hD
  have hD1 : D ∉ β1 := M1.fresh hD
  refine ⟨fun i m H' => m = xs.length - i ∧ i ≤ xs.length ∧ ∃ β' μ' acc us, Le H1 β1 H' β' ∧ Mst K H' β' μ' ∧ H' D = some (.dK us) ∧ D ∉ β' ∧ RKs K H' β' us acc ∧ acc.length ≤ i ∧ W i acc μ',
    ⟨_, rfl, Nat.zero_le _, β1, μ1, [], [], Le.push M1 hD, M1.push hD, upd_same, hD1, .nil, Nat.le_refl _, w0⟩, ?_⟩
  rintro i m H2 ⟨rfl, hi, β2, μ2, acc, us, lb, M2, hD2, hn2, r2, ha, w2⟩
  have ns : ¬ Stb (.dK us) := fun z => z
  have st := hst i acc μ2 hi w2
  obtain ⟨go, stop⟩ := it H2 β2 μ2 lb M2 st i
  by_cases hlt : i < xs.length
  · obtain ⟨g1, yl⟩ := go _ (List.getElem?_eq_getElem hlt)
    refine .inr ⟨g1, fun H' => ∃ β' μ' acc us, Le H1 β1 H' β' ∧ Mst K H' β' μ' ∧ H' D = some (.dK us) ∧ D ∉ β' ∧ RKs K H' β' us acc ∧ acc.length ≤ i + 1 ∧ W (i + 1) acc μ', fun H' q => ⟨xs.length - (i + 1), by omega, rfl, hlt, q⟩, fun x H3 y => ?_⟩
    obtain ⟨lc, M3, r3⟩ := yl x H3 y
    have F3 : Fr K (wipe σ vs) H3 β2 (wipeA ρ vs) := (F.mono ((la.trans lb).trans lc).r).wipe vs
    have hD3 : H3 D = some (.dK us) := lc.fr _ _ hD2 hn2
    refine hg x _ _ H3 β2 _ _ _ F3 r3 (turn i _ acc μ2 (List.getElem?_eq_getElem hlt) w2) fun σ4 ρ4 F4 hw q4 => ?_
    refine ⟨by rw [hw, wipe_wipe], β2, ρ4, μ2, _, F4, M3, q4, fun b H5 β5 μ5 ld M5 q5 => ?_⟩
    have hn5 : D ∉ β5 := fun m => by
      have := ld.nw D m hn2
      rw [hD3] at this; cases this
    have hD5 : H5 D = some (.dK us) := ld.fr _ _ hD3 hn2
    cases b with
    | true =>
      refine ⟨β5, ρ4, μ5, _, F4.mono ld.r, M5, q5, fun v H6 β6 e μ6 le M6 r6 q6 => ⟨β6, ρ4, μ6, _, F4.mono (ld.trans le).r, M6, q6, fun u H8 β8 z μ8 lg M8 r8 ⟨key, hk, q8⟩ => ?_⟩⟩
      have hn6 : D ∉ β6 := fun m => by
        have := le.nw D m hn5
        rw [hD5] at this; cases this
      have hD6 : H6 D = some (.dK us) := le.fr _ _ hD5 hn5
      have hn8 : D ∉ β8 := fun m => by
        have := lg.nw D m hn6
        rw [hD6] at this; cases this
      have hD8 : H8 D = some (.dK us) := lg.fr _ _ hD6 hn6
      obtain ⟨β7, μ7, w7, lf, M7, sub7, ler, low⟩ := shr_ok q8 (lb.trans lc) M3 ((ld.trans le).trans lg) M8
      have hn7 : D ∉ β7 := fun m => hn8 (sub7 D m)
      have r7 : RKs K H8 β7 us acc := (r2.mono lc.r).mono ler
      have v7 := low r8 rfl
      have hl := len_putKA acc key z
      refine ⟨us, key, r6.key hk, hD8, ?_, β7, μ7, putKA acc key z, putK us key u, lf.mut hD, M7.mut hD8 ns hn7, upd_same, hn7, (r7.put v7).mono (Ler.mut hD8 ns), by omega, w7⟩
      rw [r2.length]
      exact Nat.lt_of_le_of_lt ha (Nat.lt_of_lt_of_le hlt hz)
    | false =>
      have q5' : Shr μ2 μ5 (fun _ => true) (W (i + 1) acc) := q5
      obtain ⟨β7, μ7, w7, lf, M7, sub7, ler, _⟩ := shr_ok q5' (lb.trans lc) M3 ld M5
      have hn7 : D ∉ β7 := fun m => hn5 (sub7 D m)
      exact ⟨β7, μ7, acc, us, lf, M7, hD5, hn7, (r2.mono lc.r).mono ler, by omega, w7⟩
  · have e : i = xs.length := by omega
    subst e
    refine .inl ⟨stop rfl, k D H2 β2 us acc μ2 (la.trans lb) M2 hD2 hn2 (la.free M1 hD) r2 (hd acc μ2 w2)⟩
theorem xd_dc {kx vx tg iter : Expr} {ifs : List Expr} {scope : Scope} {own : List (Str × Nat)} {pos : Pos} {ai : ATI} {g : TG} {ga : AGC} {tt : ATT} {tk tv : ATE} (hc : X.calm = true) (hN : X.N.Nodup) (hi : PIA X tg iter ai) (ok : BlkOk X.N X.env.scope scope own) (ho : GOk X.K (own.map (·.2)) g ga)
    (hg : ∀ (s : Shared) (H : Hp) (C : Addr) (cl : List (Str × Addr)) (fp : List Addr), PG (X.blk s H scope (compEnvC scope cl C X.env) fp) tg g) (ht : ∀ (s : Shared) (H : Hp) (C : Addr) (cl : List (Str × Addr)) (fp : List Addr), PTsA (X.blk s H scope (compEnvC scope cl C X.env) fp) ifs tt)
    (hk : ∀ (s : Shared) (H : Hp) (C : Addr) (cl : List (Str × Addr)) (fp : List Addr), PEA (X.blk s H scope (compEnvC scope cl C X.env) fp) kx tk)
    (he : ∀ (s : Shared) (H : Hp) (C : Addr) (cl : List (Str × Addr)) (fp : List Addr), PEA (X.blk s H scope (compEnvC scope cl C X.env) fp) vx tv) (hs : ∀ x, foldedSetIterable iter X.env x = pure x := by intro _; rfl) :
    PDA X (.DictComp kx vx [⟨tg, iter, ifs, 0⟩] scope pos) (aDc ai ga tt tk tv (own.map (·.2))) := pe_imp (pe_dc hc hN hi ok hg ht hk he hs) (aDc_ok ho)
/-- entries that change nothing -/
theorem aDc_f {ga : AGC} {tt : ATT} {tk tv : ATE} {vs : List Nat} {ρ : AEnv} {μ1 : Mem} {Q : List (Key × A) → Mem → Prop} {xs : List A} {St : Mem → Prop} (f : A → Option (Key × A)) (hz : xs.length ≤ sizeLine) (hst : St μ1)
    (h : ∀ d, d ∈ xs → ∀ (Y : A → A → Mem → Prop) (N : Mem → Prop), (∀ y e key g, keyOf y = some key → f d = some (key, e) → e.lt μ1.length = true → Y y e (μ1 ++ g)) → (f d = none → ∀ g, N (μ1 ++ g)) → ga d (wipeA ρ vs) fun ρ2 => tt ρ2 μ1 fun b μ2 => if b = true then tk ρ2 μ2 fun y μ3 => tv ρ2 μ3 fun z μ4 => Y y z μ4 else N μ2)
    (hQ : Q ((xs.filterMap f).foldl (fun acc kv => putKA acc kv.1 kv.2) []) μ1) : xs.length ≤ sizeLine ∧ ∃ W : Nat → List (Key × A) → Mem → Prop, W 0 [] μ1 ∧ (∀ i acc μ, i ≤ xs.length → W i acc μ → St μ) ∧
  (∀ i d acc μ, xs[i]? = some d → W i acc μ → ga d (wipeA ρ vs) fun ρ2 => tt ρ2 μ fun b μ2 => if b = true then tk ρ2 μ2 fun y μ3 => tv ρ2 μ3 fun z μ4 => ∃ key, keyOf y = some key ∧ Shr μ μ4 (fun n => z.lt n) (W (i + 1) (putKA acc key z)) else Shr μ μ2 (fun _ => true) (W (i + 1) acc)) ∧
  ∀ acc μ, W xs.length acc μ → Q acc μ := by
  refine ⟨hz, fun i acc μ => μ = μ1 ∧ acc = ((xs.take i).filterMap f).foldl (fun acc kv => putKA acc kv.1 kv.2) [], ⟨rfl, rfl⟩, fun i acc μ _ e => by rw [e.1]; exact hst, fun i d acc μ hd ⟨e1, e2⟩ => ?_, fun acc μ ⟨e1, e2⟩ => by rw [e1, e2, List.take_length]; exact hQ⟩
  subst e1
  have ht : xs.take (i + 1) = xs.take i ++ [d] := by
    obtain ⟨hl, e⟩ := List.getElem?_eq_some_iff.mp hd
    rw [← e, List.take_succ_eq_append_getElem hl]
  refine h d (List.mem_of_getElem? hd) _ _ (fun y e key g hk ef lt => ⟨key, hk, .inr ⟨g, rfl, lt, rfl, ?_⟩⟩) (fun ef g => .inr ⟨g, rfl, rfl, rfl, ?_⟩)
  · rw [ht, List.filterMap_append, e2]
    simp [ef]
  · rw [ht, List.filterMap_append, e2]
    simp [ef]
/-- len of a new dict -/
def aLenD (a : ADA) : ATE := fun ρ μ Q => a ρ μ fun kvs μ1 => Q (.int (kvs.length : Int)) μ1
theorem xe_lenD {e : Expr} {a : ADA} {p pos : Pos} (hg : Gl X "len") (hm : X.mg "len" = none) (ha : PDA X e a) (he : Sole X e := by rfl) : PEA X (.Call (.Name "len" p) [e] [] pos) (aLenD a) :=
  pe_imp (pe_callB call_lenD hg hm PySem.boot_len (pa_cons ha pa_nil he) (by decide) (by decide) he rfl) fun σ H P ⟨β, ρ, μ, Q, F, M, h, k⟩ => ⟨β, ρ, μ, _, F, M, h, fun p H1 β1 ws kvs μ1 L1 M1 hp hn h0 r1 q => ⟨p, ws, rfl, hp, by
    rw [r1.length]
    exact k _ H1 β1 _ μ1 L1 M1 (.int _) q⟩⟩

/-! ### a dict walked by its keys: locked the while -/
def aKeysI (a : ATE) : ATI := fun ρ μ R => a ρ μ fun d μ1 => match d with
  | .ref k => match μ1[k]? with
    | some (.lk o ws kvs) => R (kvs.map fun kv => kA kv.1) (fun μ' => μ'[k]? = some (.lk o ws kvs)) μ1
    | _ => False
  | _ => False
theorem it_keys {K : PySem.W.Frag} {k : Nat} {a : Addr} {o : Obj} {ws : List (Key × V)} {kvs : List (Key × A)} {H0 : Hp} {β0 : List Addr} (hb : β0[k]? = some a) : ItOk K (Itk a o ws) (kvs.map fun kv => kA kv.1) (fun μ => μ[k]? = some (.lk o ws kvs)) H0 β0 := fun H β μ L M st i => by
  obtain ⟨q, r⟩ := M.ok _ _ _ st (L.get hb)
  have hl := r.length
  refine ⟨fun d e => ?_, fun e => ⟨q, by rw [hl, e, List.length_map]; exact Nat.le_refl _⟩⟩
  rw [List.getElem?_map] at e
  cases ek : kvs[i]? with
  | none => rw [ek] at e; cases e
  | some kv =>
    rw [ek] at e
    cases e
    have hi : i < kvs.length := (List.getElem?_eq_some_iff.mp ek).1
    refine ⟨⟨q, by rw [hl]; exact hi⟩, fun x H' y => ?_⟩
    obtain ⟨rfl, key, v, e2, rfl⟩ := y
    have hk := r.keys
    have e3 : (ws.map (·.1))[i]? = some key := by rw [List.getElem?_map, e2]; rfl
    rw [hk, List.getElem?_map, ek] at e3
    cases (Option.some.inj e3)
    refine ⟨Le.refl _ _, M, ?_⟩
    show RV K _ β (kV kv.1) (kA kv.1)
    cases kv.1 with
    | inl z => exact .int z
    | inr z => exact .str z
theorem xi_keys {tg e : Expr} {a : ATE} (h : PEA X e a) : PIA X tg e (aKeysI a) := pi_imp (pi_keys h) fun σ H R ⟨β, ρ, μ, Q, F, M, h, k⟩ => ⟨β, ρ, μ, _, F, M, h, fun v H1 β1 d μ1 L1 M1 r1 h1 => by
  cases d with
  | ref m =>
    obtain ⟨a, rfl, ha⟩ := r1.ref_inv
    dsimp only at h1
    split at h1
    · rename_i o ws kvs e
      obtain ⟨q, r⟩ := M1.ok _ _ _ e ha
      exact ⟨a, o, rfl, .inl ⟨ws, q, k _ H1 β1 _ _ μ1 L1 M1 (it_keys ha) h1⟩⟩
    · exact h1.elim
  | _ => exact h1.elim⟩
/-- the dict that stands in slot i is locked while e runs -/
def lockA (i : Nat) (ρ : AEnv) (μ : Mem) (go : Mem → (Mem → (Mem → Prop) → Prop) → Prop) : Prop := ∃ k kvs, ρ[i]? = some (some (.ref k)) ∧ μ[k]? = some (.dk kvs) ∧ ∀ o ws, go (μ.set k (.lk o ws kvs)) fun μ' c => μ'[k]? = some (.lk o ws kvs) ∧ c (μ'.set k (.dk kvs))
def aLockE (i : Nat) (a : ADA) : ADA := fun ρ μ Q => lockA i ρ μ fun μ1 un => a ρ μ1 fun kvs μ2 => un μ2 (Q kvs)
def aLockL (i : Nat) (a : ATA) : ATA := fun ρ μ Q => lockA i ρ μ fun μ1 un => a ρ μ1 fun ds μ2 => un μ2 (Q ds)
def aLockS (i : Nat) (a : ATS) : ATS := fun D ρ μ => lockA i ρ μ fun μ1 un => a ⟨fun ρ' μ' => un μ' (D.nx ρ'), fun d μ' => un μ' (D.rt d), fun ρ' μ' => un μ' (D.bk ρ'), fun ρ' μ' => un μ' (D.ct ρ')⟩ ρ μ1
theorem lk_unlock {K : PySem.W.Frag} {H H' : Hp} {β β' : List Addr} {μ : Mem} {k : Nat} {a : Addr} {o : Obj} {ws : List (Key × V)} {kvs : List (Key × A)} (hH : H a = some (.dK ws)) (ha : β[k]? = some a)
    (L : Le (upd H a (.frz o (.dK ws))) β H' β') (M' : Mst K H' β' μ) (e : μ[k]? = some (.lk o ws kvs)) :
    H' a = some (.frz o (.dK ws)) ∧ Le H β (upd H' a (.dK ws)) β' ∧ Mst K (upd H' a (.dK ws)) β' (μ.set k (.dk kvs)) ∧ Ler H' β' (upd H' a (.dK ws)) β' := by
  have hb := L.get ha
  have c := M'.ok _ _ _ e hb
  have ns := c.lk_ns
  obtain ⟨q, r⟩ := c
  have L2 : Le H' β' (upd H' a (.dK ws)) β' := Le.put M' e hb ns
  refine ⟨q, ⟨fun b u h n => ?_, fun b u h s => ?_, L.pre, fun b m n => ?_⟩, M'.put (c' := .dk kvs) e hb ns ⟨ws, upd_same, r.mono L2.r⟩, L2.r⟩
  · have hne : b ≠ a := fun z => n (by rw [z]; exact List.mem_of_getElem? ha)
    rw [upd_ne hne]
    exact L.fr b u (by rw [upd_ne hne]; exact h) n
  · have hne : b ≠ a := fun z => by rw [z, hH] at h; cases h; exact s
    rw [upd_ne hne]
    exact L.tx b u (by rw [upd_ne hne]; exact h) s
  · have hne : b ≠ a := fun z => n (by rw [z]; exact List.mem_of_getElem? ha)
    have := L.nw b m n
    rw [upd_ne hne] at this
    exact this
theorem lk_lock {K : PySem.W.Frag} {H : Hp} {β : List Addr} {μ : Mem} {k : Nat} {a : Addr} {kvs : List (Key × A)} (M : Mst K H β μ) (e : μ[k]? = some (.dk kvs)) (ha : β[k]? = some a) :
    ∃ ws, H a = some (.dK ws) ∧ ∀ o, Le H β (upd H a (.frz o (.dK ws))) β ∧ Mst K (upd H a (.frz o (.dK ws))) β (μ.set k (.lk o ws kvs)) := by
  have c := M.ok _ _ _ e ha
  have ns := c.dk_ns
  obtain ⟨ws, q, r⟩ := c
  refine ⟨ws, q, fun o => ?_⟩
  have L2 : Le H β (upd H a (.frz o (.dK ws))) β := Le.put M e ha ns
  exact ⟨L2, M.put (c' := .lk o ws kvs) e ha ns ⟨upd_same, r.mono L2.r⟩⟩
theorem xd_lock {e : Expr} {a : ADA} (i : Nat) (h : PDA X e a) : PDA X e (aLockE i a) := pe_imp (pe_lock h) fun σ H P ⟨β, ρ, μ, Q, F, M, ⟨m, kvs, e1, e2, go⟩, k⟩ => by
  obtain ⟨v, ev, rv⟩ := F.ok i _ e1
  obtain ⟨p, rfl, hp⟩ := rv.ref_inv
  obtain ⟨ws, hH, lk⟩ := lk_lock M e2 hp
  refine ⟨p, .dK ws, hH, trivial, fun od => ?_⟩
  obtain ⟨L1, M1⟩ := lk od
  refine ⟨β, ρ, _, _, F.mono L1.r, M1, go od ws, fun q H' β' us kvs2 μ' L M' hq hn h0 r ⟨eq, cc⟩ => ?_⟩
  obtain ⟨q1, L2, M2, lr⟩ := lk_unlock hH hp L M' eq
  have hqp : q ≠ p := fun z => hn (by rw [z]; exact List.mem_of_getElem? (L.get hp))
  exact ⟨q1, k q _ β' us kvs2 _ L2 M2 (by rw [upd_ne hqp]; exact hq) hn (by rw [upd_ne hqp] at h0; exact h0) (r.mono lr) cc⟩
theorem xl_lock {e : Expr} {a : ATA} (i : Nat) (h : PLA X e a) : PLA X e (aLockL i a) := pe_imp (pe_lock h) fun σ H P ⟨β, ρ, μ, Q, F, M, ⟨m, kvs, e1, e2, go⟩, k⟩ => by
  obtain ⟨v, ev, rv⟩ := F.ok i _ e1
  obtain ⟨p, rfl, hp⟩ := rv.ref_inv
  obtain ⟨ws, hH, lk⟩ := lk_lock M e2 hp
  refine ⟨p, .dK ws, hH, trivial, fun od => ?_⟩
  obtain ⟨L1, M1⟩ := lk od
  refine ⟨β, ρ, _, _, F.mono L1.r, M1, go od ws, fun q H' β' us kvs2 μ' L M' hq hn h0 r ⟨eq, cc⟩ => ?_⟩
  obtain ⟨q1, L2, M2, lr⟩ := lk_unlock hH hp L M' eq
  have hqp : q ≠ p := fun z => hn (by rw [z]; exact List.mem_of_getElem? (L.get hp))
  exact ⟨q1, k q _ β' us kvs2 _ L2 M2 (by rw [upd_ne hqp]; exact hq) hn (by rw [upd_ne hqp] at h0; exact h0) (r.mono lr) cc⟩
/-! ### zip of two tuples -/
def zipA (xs ys : List A) : List A := List.zipWith (fun x y => A.tup [x, y]) xs ys
def aZip (a b : ATE) : ATI := fun ρ μ R => a ρ μ fun d μ1 => b ρ μ1 fun e μ2 => match d, e with
  | .tup xs, .tup ys => R (zipA xs ys) (fun _ => True) μ2
  | _, _ => False
theorem it_zip {K : PySem.W.Frag} {a b : Addr} {vs us : List V} {ds es : List A} {H0 : Hp} {β0 : List Addr} (h : SqT K H0 a vs) (h' : SqT K H0 b us) (r : RVs K H0 β0 vs ds) (r' : RVs K H0 β0 us es) : ItOk K (RZ.ItzT K a b) (zipA ds es) (fun _ => True) H0 β0 := fun H β μ L M _ i => by
  have s1 := L.r.sqt h
  have s2 := L.r.sqt h'
  have r1 := r.mono L.r
  have r2 := r'.mono L.r
  refine ⟨fun d e => ?_, fun e => ⟨vs, us, s1, s2, ?_⟩⟩
  · unfold zipA at e
    rw [List.getElem?_zipWith] at e
    cases e1 : ds[i]? with
    | none => rw [e1] at e; cases e
    | some x =>
      cases e2 : es[i]? with
      | none => rw [e1, e2] at e; cases e
      | some y =>
        rw [e1, e2] at e
        cases e
        obtain ⟨v, ev, rv⟩ := r1.getD e1
        obtain ⟨u, eu, ru⟩ := r2.getD e2
        refine ⟨⟨vs, us, v, u, s1, s2, ev, eu⟩, fun z H' w => ?_⟩
        obtain ⟨T, v', u', rfl, hT, rfl, w1, w2⟩ := w
        have q1 := w1 vs s1
        have q2 := w2 us s2
        rw [ev] at q1; cases q1
        rw [eu] at q2; cases q2
        have Lp : Le H β (upd H T (.tup [v, u])) β := Le.push M hT
        exact ⟨Lp, M.push hT, .tup (.inl (.inl upd_same)) (.cons (rv.mono Lp.r) (.cons (ru.mono Lp.r) .nil))⟩
  · unfold zipA at e
    rw [List.length_zipWith] at e
    rw [r1.length, r2.length, e]
    omega
theorem xi_zip {e e2 : Expr} {a b : ATE} {p pos tpos : Pos} {elts : List Expr} {kk : Nat} (hg : Gl X "zip") (hm : X.mg "zip" = none) (ha : PEA X e a) (hb : PEA X e2 b)
    (hs : starEach [e, e2] X.env = (false, eval e X.env) :: starEach [e2] X.env := by rfl) (hs2 : Sole X e2 := by rfl) (hpl : (backTo pos (starEach [e2] X.env)).any (·.1) = false := by rfl) :
    PIA X (.Tuple elts kk tpos) (.Call (.Name "zip" p) [e, e2] [] pos) (aZip a b) :=
  pi_imp (RZ.pi_zipA hg hm (pa_cons ha (pa_cons hb pa_nil hs2) hs) hs hpl) fun σ H R ⟨β, ρ, μ, Q, F, M, h, k⟩ =>
    ⟨β, ρ, μ, _, F, M, h, fun v H1 β1 d μ1 L1 M1 r1 h1 => ⟨β1, ρ, μ1, _, F.mono L1.r, M1, h1, fun u H2 β2 e μ2 L2 M2 r2 h2 => by
      cases d with
      | tup xs =>
        cases e with
        | tup ys =>
          obtain ⟨x, vs, rfl, hs, ra⟩ := (r1.mono L2.r).tup_inv
          obtain ⟨y, us, rfl, ht, rb⟩ := r2.tup_inv
          exact ⟨x, y, vs, us, rfl, .inr ⟨hs, ht, k _ H2 β2 _ _ μ2 (L1.trans L2) M2 (it_zip hs ht ra rb) h2⟩⟩
        | _ => exact h2.elim
      | _ => exact h2.elim⟩⟩
end
end XL

section
set_option maxHeartbeats 2000000
/-! XL13: more rules: t[::-1], sorted(set(t)), sorted of a new dict, tuple(range(n)), x, y = a, b. -/
namespace XL
open PySem PySem.Spec PyProof.Rows L2
section
variable {prog : Program} {w : World} {A : Around} {E : Value → Shared → Prop} {s : Shared}
theorem sliceApplied_rev {sl : Addr} {vl vu vs : Value} {n : Nat} {Q : Int × Int × Nat → Shared → Prop} (hs : s.heap.IsSliceOf sl vl vu vs) (pl : IsPart vl none) (pu : IsPart vu none) (ps : IsPart vs (some (-1)))
    (h : Q ((n : Int) - 1, -1, n) s) : wpAny (model prog w) A (Builtin.Slice.sliceApplied (.ref sl) (pure (n : Int))) Q E s := by
  obtain ⟨os, hos, hcs, hds⟩ := id hs
  unfold Builtin.Slice.sliceApplied Builtin.Slice.sliceFields
  refine wpAny_bind (wpAny_bind (wpAny_field hos hds (x := vl) rfl (wpAny_bind (wpAny_field hos hds (x := vu) rfl (wpAny_bind (wpAny_field hos hds (x := vs) rfl (wpAny_pure ?_)))))))
  refine wpAny_bind (HT.slicePart_ ps ?_)
  show wpAny _ _ (if ((-1 : Int) == 0) = true then _ else _) _ _ s
  rw [if_neg (by decide)]
  refine wpAny_bind (HT.slicePart_ pl (wpAny_bind (HT.slicePart_ pu (wpAny_bind (wpAny_pure ?_)))))
  have e : Builtin.Slice.sliceAdjust none none (-1) (n : Int) = ((n : Int) - 1, -1) := by
    simp [Builtin.Slice.sliceAdjust]
  show wpAny _ _ (match Builtin.Slice.sliceAdjust none none (-1) (n : Int) with | (lo, hi) => pure (lo, (-1 : Int), Builtin.Slice.slicePlaces lo hi (-1))) _ _ s
  rw [e]
  have e2 : Builtin.Slice.slicePlaces ((n : Int) - 1) (-1) (-1) = n := by
    unfold Builtin.Slice.slicePlaces
    simp only [show ¬ ((-1 : Int) > 0) by decide, if_false]
    by_cases h0 : n = 0
    · subst h0; simp
    · rw [if_pos (by omega)]
      have : ((n : Int) - 1 - -1 - 1) / - -1 + 1 = n := by
        rw [show (- -1 : Int) = 1 by decide, Int.ediv_one]; omega
      rw [this]
      exact Int.toNat_natCast n
  show wpAny _ _ (pure ((n : Int) - 1, (-1 : Int), Builtin.Slice.slicePlaces ((n : Int) - 1) (-1) (-1))) _ _ s
  rw [e2]
  exact wpAny_pure h
theorem fm_congr {α β : Type} {f g : α → Option β} : ∀ {l : List α}, (∀ x, x ∈ l → f x = g x) → l.filterMap f = l.filterMap g
  | [], _ => rfl
  | x :: l, h => by
    rw [List.filterMap_cons, List.filterMap_cons, h x List.mem_cons_self, fm_congr fun y hy => h y (List.mem_cons_of_mem _ hy)]
theorem pick_rev (xs : Array Value) : ((List.range xs.size).filterMap fun (m : Nat) => xs[(((xs.size : Int) - 1) + (m : Int) * -1).toNat]?).toArray = xs.toList.reverse.toArray := by
  congr 1
  have e1 : ((List.range xs.size).filterMap fun (m : Nat) => xs[(((xs.size : Int) - 1) + (m : Int) * -1).toNat]?) = (((List.range xs.size).map fun k => xs.size - 1 - k).filterMap (xs[·]?)) := by
    rw [List.filterMap_map]
    refine fm_congr fun m hm => ?_
    have hm' : m < xs.size := by simpa using hm
    have : (((xs.size : Int) - 1) + (m : Int) * -1).toNat = xs.size - 1 - m := by omega
    rw [this]
    rfl
  rw [e1, PySem.W.krv_range, List.filterMap_reverse, PySem.W.krv_all]
theorem getItem_tuple_rev {t sl : Addr} {items : Array Value} {vl vu vs : Value} {Q : Value → Shared → Prop} (ht : IsTup s.heap t items) (hs : s.heap.IsSliceOf sl vl vu vs) (pl : IsPart vl none) (pu : IsPart vu none) (ps : IsPart vs (some (-1)))
    (h : Q (.ref s.heap.objs.size) { s with heap := s.heap.push { cls := .type "tuple", data := .seq items.toList.reverse.toArray } })
    (hsz : items.size ≤ sizeLine) : wpAny (model prog w) A (getItem (.ref t) (.ref sl)) Q E s := by
  have htake : sizeOk (.seq items.toList.reverse.toArray) := by
    show items.toList.reverse.toArray.size ≤ sizeLine
    rw [List.size_toArray, List.length_reverse, Array.length_toList]
    exact hsz
  obtain ⟨os, hos, hcs, hds⟩ := id hs
  have hTs : s.TypeIs (.ref sl) "slice" := ⟨os, hos, hcs⟩
  unfold getItem
  try with_reducible refine wpAny_holding ?_
  first | refine wpAny_bind (wpAny_pure ?_) | skip
  refine wpAny_bind (wpAny_sequenceKey ht.typeIs (by decide) ?_)
  refine wpAny_bind (wpAny_callSpecial?_slot (name := Str.ofString "__getitem__") ht.typeIs PyProof.Rows.slot_tuple_getitem
    (wpAny_call_entry PyProof.Rows.slot_tuple_getitem ht.typeIs entry_tuple_getitem ?_ (args_tuple_getitem _ _)))
  show wpAny _ _ (Builtin.Tuple.tupleItemsOf (.ref t) >>= _) _ _ s
  refine wpAny_bind (tupleItemsOf_ ht ?_)
  refine wpAny_bind (wpAny_typeOf hTs ?_)
  rw [if_pos (by decide)]
  refine wpAny_bind (sliceApplied_rev hs pl pu ps ?_)
  show wpAny _ _ (if (((items.size : Int) - 1) == 0 && (-1 : Int) == 1 && items.size == items.size) = true then _ else _) _ _ s
  rw [if_neg (by rw [show ((-1 : Int) == 1) = false by decide, Bool.and_false, Bool.false_and]; exact Bool.false_ne_true), pick_rev]
  first
    | exact wpAny_bind (m := Builtin.Tuple.tupleExact _) (wpAny_newObj_type (wpAny_pure ⟨_, rfl, wpAny_pure h⟩) htake)
    | exact wpAny_bind (m := Builtin.Tuple.tupleExact _) (wpAny_newObj_type (wpAny_bind (wpAny_pure (wpAny_pure ⟨_, rfl, wpAny_pure h⟩))) htake)
    | exact wpAny_bind (wpAny_bind (m := Builtin.Tuple.tupleExact _) (wpAny_newObj_type (wpAny_pure (wpAny_pure ⟨_, rfl, wpAny_pure h⟩)) htake))
    | exact wpAny_bind (wpAny_bind (m := Builtin.Tuple.tupleExact _) (wpAny_newObj_type (wpAny_pure ⟨_, rfl, wpAny_pure h⟩) htake))
end
section
variable {X : Cx}
def tRevT (K : PySem.W.Frag) (te : TE) : TE := fun σ H Q => te σ H fun x H1 => ∃ a xs, x = .ref a ∧ SqT K H1 a xs ∧ ∀ p, H1 p = none → Q (.ref p) (upd H1 p (.tup xs.reverse))
theorem pe_revT {e : Expr} {te : TE} {k : Nat} {p1 p2 p3 pos : Pos} (he : PE X e te) : PE X (.Subscript e (.Slice none none (some (.UnaryOp .USub (.Constant (.int 1) k p1) p2)) p3) pos) (tRevT X.K te) := by
  refine ⟨fun pins s σ H Q I h => ?_⟩
  refine Subscript_ (thn (he.run pins s σ H _ I h) fun v s1 ⟨x, H1, I1, r1, q1⟩ => ?_)
  obtain ⟨a, xs, ex, hx, q⟩ := q1
  subst ex
  cases r1
  have hst : PO X (some (.UnaryOp .USub (.Constant (.int 1) k p1) p2)) (tPart (tUn (rU fun i => .int (-i)) (tC (.int 1)))) := po_some (pe_un un_neg pe_int)
  refine wpAny_Slice (thn (po_none.run pins s1 σ H1 (fun o H2 => o = none ∧ H2 = H1) I1 ⟨rfl, rfl⟩) fun vl s2 ⟨l, H2, I2, pl, el, e2⟩ => ?_)
  subst el e2
  refine thn (po_none.run pins s2 σ H2 (fun o H3 => o = none ∧ H3 = H2) I2 ⟨rfl, rfl⟩) fun vu s3 ⟨u, H3, I3, pu, eu, e3⟩ => ?_
  subst eu e3
  refine thn (hst.run pins s3 σ H3 (fun o H4 => o = some (-1) ∧ H4 = H3) I3 ⟨1, rfl, -1, rfl, rfl, rfl⟩) fun vs s4 ⟨o, H4, I4, ps, eo, e4⟩ => ?_
  subst eo e4
  have I5 : Inv X pins σ H4 { s4 with heap := s4.heap.push { cls := .type "slice", data := .fields #[vl, vu, vs] } } := I4.kept (t' := s4.toks) fun b ob q => Heap.get?_push_of_some _ q
  obtain ⟨its, r, ht, hz⟩ := I5.tuple hx
  have hlen := r.length
  show wpAny (model X.prog X.w) X.A (subscriptTail e (.Slice none none (some (.UnaryOp .USub (.Constant (.int 1) k p1) p2)) p3) (.ref a) (.ref s4.heap.objs.size)) (EP X pins σ Q) X.xe { s4 with heap := s4.heap.push { cls := .type "slice", data := .fields #[vl, vu, vs] } }
  refine tail_any (ops := [.ref a, .ref s4.heap.objs.size]) ht.typeIs PyProof.Rows.slot_tuple_getitem.lookup ?_ (by with_unfolding_all rfl)
  refine getItem_tuple_rev ht (Heap.IsSliceOf.new _ vl vu vs) pl pu ps ?_ (by rw [List.size_toArray]; omega)
  refine ⟨.ref _, _, I5.laid (t' := s4.toks) (o := .tup xs.reverse) (fun b ob q => Heap.get?_push_of_some _ q) (Nat.le_refl _) ?_, rfl, q _ (I5.hok.fresh (Nat.le_refl _))⟩
  exact ⟨by rw [List.length_reverse]; exact hz, _, r.reverse, _, Heap.get?_push_size _ rfl, rfl, _, rfl⟩
def aRevT (a : ATE) : ATE := fun ρ μ Q => a ρ μ fun d μ1 => match d with
  | .tup xs => Q (.tup xs.reverse) μ1
  | _ => False
theorem xe_revT {e : Expr} {a : ATE} {k : Nat} {p1 p2 p3 pos : Pos} (he : PEA X e a) : PEA X (.Subscript e (.Slice none none (some (.UnaryOp .USub (.Constant (.int 1) k p1) p2)) p3) pos) (aRevT a) :=
  pe_imp (pe_revT he) fun σ H P ⟨β, ρ, μ, Q, F, M, h, k⟩ => ⟨β, ρ, μ, _, F, M, h, fun v H1 β1 d μ1 L1 M1 r1 h1 => by
    cases d with
    | tup xs =>
      obtain ⟨a, vs, rfl, hs, ra⟩ := r1.tup_inv
      exact ⟨a, vs, rfl, hs, kn_tup (k.le L1) M1 ra.reverse h1⟩
    | _ => exact h1.elim⟩
/-! ### sorted of a new dict, of a dict -/
def aSortedD (a : ADA) : ATA := fun ρ μ Q => a ρ μ fun kvs μ1 => ∃ ks : List Int, kvs.map (·.1) = ks.map Sum.inl ∧ ks.length < 64 ∧ ∀ ns' : List Int, ns'.Perm ks → ns'.Pairwise (· ≤ ·) → Q (ns'.map A.int) μ1
theorem xl_sortedD {e : Expr} {a : ADA} {p pos : Pos} (hc : X.calm = true) (hg : Gl X "sorted") (hm : X.mg "sorted" = none) (ha : PDA X e a) (he : Sole X e := by rfl) : PLA X (.Call (.Name "sorted" p) [e] [] pos) (aSortedD a) :=
  pe_imp (pe_callB (call_sortedDI hc) hg hm (by decide +kernel) (pa_cons ha pa_nil he) (by decide) (by decide) he rfl) fun σ H P ⟨β, ρ, μ, Q, F, M, h, k⟩ => ⟨β, ρ, μ, _, F, M, h, fun p H1 β1 ws kvs μ1 L1 M1 hp hn h0 r1 ⟨ks, e, hl, q⟩ =>
    ⟨p, ws, ks, rfl, .inl hp, by rw [r1.keys]; exact e, hl, fun ns' l hp hs hl => knl_new k L1 M1 (RVs.ints ns') (q ns' hp hs) l hl⟩⟩
def aSortedDV (a : ATE) : ATA := fun ρ μ Q => a ρ μ fun d μ1 => match d with
  | .ref k => match μ1[k]? with
    | some (.dk kvs) => ∃ ks : List Int, kvs.map (·.1) = ks.map Sum.inl ∧ ks.length < 64 ∧ ∀ ns' : List Int, ns'.Perm ks → ns'.Pairwise (· ≤ ·) → Q (ns'.map A.int) μ1
    | _ => False
  | _ => False
theorem xl_sortedDV {e : Expr} {a : ATE} {p pos : Pos} (hc : X.calm = true) (hg : Gl X "sorted") (hm : X.mg "sorted" = none) (ha : PEA X e a) (he : Sole X e := by rfl) : PLA X (.Call (.Name "sorted" p) [e] [] pos) (aSortedDV a) :=
  pe_imp (pe_callB (call_sortedDI hc) hg hm (by decide +kernel) (pa_cons ha pa_nil he) (by decide) (by decide) he rfl) fun σ H P ⟨β, ρ, μ, Q, F, M, h, k⟩ => ⟨β, ρ, μ, _, F, M, h, fun v H1 β1 d μ1 L1 M1 r1 h1 => by
    cases d with
    | ref m =>
      obtain ⟨a, rfl, ha⟩ := r1.ref_inv
      dsimp only at h1
      split at h1
      · rename_i kvs em
        obtain ⟨ws, q1, r2⟩ := M1.ok _ _ _ em ha
        obtain ⟨ks, e, hl, q⟩ := h1
        exact ⟨a, ws, ks, rfl, .inl q1, by rw [r2.keys]; exact e, hl, fun ns' l hp hs hl => knl_new k L1 M1 (RVs.ints ns') (q ns' hp hs) l hl⟩
      · exact h1.elim
    | _ => exact h1.elim⟩
/-! ### sorted(set(t)), t a tuple of ints -/
theorem call_setT (hc : X.calm = true) : CallR X (.type "set") (fun vs H Q => ∃ (p : Addr) (ns : List Int), vs = [.ref p] ∧ SqT X.K H p (ns.map V.int) ∧ ns.length ≤ 1000 ∧ ∀ c q, c ≤ ns.length → H q = none → Q (.ref q) (upd H q (SetO X.w q (fun j => decide (j ∈ ns)) c))) := by
  intro pins s σ H vs us Q I r h
  obtain ⟨p, ns, rfl, hq, hl, q⟩ := h
  obtain ⟨u, rfl, rx⟩ := vals1 r
  cases rx
  obtain ⟨its, rv, pt, hz⟩ := I.tuple hq
  have hi : IntsAre its.toArray.toList ns := ints_of_vals rv
  refine call_set_tupI ns (I.ok.hd hc) (show s.heap.IsTuple p its.toArray from pt) hi (by unfold scanBound; omega) fun h' tk c R1 hcn k => ?_
  have hn : H s.heap.objs.size = none := I.hok.fresh (Nat.le_refl _)
  exact ⟨.ref s.heap.objs.size, _, I.laid (a := s.heap.objs.size) (t' := tk) k (Nat.le_refl _) (setO_new R1), rfl, q c _ hcn hn⟩
def aSortedSet (a : ATE) : ATA := fun ρ μ Q => a ρ μ fun d μ1 => match d with
  | .tup xs => ∃ ns : List Int, xs = ns.map A.int ∧ ns.length < 64 ∧ ∀ ns' : List Int, ns'.Pairwise (· < ·) → (∀ k : Int, k ∈ ns' ↔ k ∈ ns) → Q (ns'.map A.int) μ1
  | _ => False
theorem xl_sortedSet {e : Expr} {a : ATE} {p p2 pos pos2 : Pos} (hc : X.calm = true) (hg : Gl X "sorted") (hm : X.mg "sorted" = none) (hg2 : Gl X "set") (hm2 : X.mg "set" = none) (ha : PEA X e a) (he : Sole X e := by rfl) (hs : Sole X (.Call (.Name "set" p2) [e] [] pos2) := by rfl) :
    PLA X (.Call (.Name "sorted" p) [.Call (.Name "set" p2) [e] [] pos2] [] pos) (aSortedSet a) := by
  have h1 := pe_callTy (call_setT hc) hg2 hm2 (pos := pos2) (p := p2) (by decide +kernel) (pa_cons ha pa_nil he) (by decide) (by decide) he rfl
  refine pe_imp (pe_callB (cr_sortedSet hc) hg hm (by decide +kernel) (pa_cons h1 pa_nil hs) (by decide) (by decide) hs rfl) fun σ H P ⟨β, ρ, μ, Q, F, M, h, k⟩ => ?_
  refine ⟨β, ρ, μ, _, F, M, h, fun v H1 β1 d μ1 L1 M1 r1 h1 => ?_⟩
  cases d with
  | tup xs =>
    obtain ⟨ns, rfl, hl, q⟩ := h1
    obtain ⟨a, vs, rfl, hs, ra⟩ := r1.tup_inv
    cases ra.of_ints
    refine ⟨a, ns, rfl, hs, by omega, fun c p hc hp => ⟨p, _, c, rfl, upd_same, by omega, fun ns' l hp' hm hl hn => ?_⟩⟩
    have L2 : Le H1 β1 (upd H1 p (SetO X.w p (fun j => decide (j ∈ ns)) c)) β1 := Le.push M1 hp
    exact knl_new k (L1.trans L2) (M1.push hp) (RVs.ints ns') (q ns' hp' fun z => by rw [hm z, decide_eq_true_eq]) l hn
  | _ => exact h1.elim
/-! ### tuple(range(n)) -/
def aTupRg (a : ATE) : ATE := fun ρ μ Q => a ρ μ fun d μ1 => match d with
  | .int n => 0 ≤ n ∧ n ≤ 16777216 ∧ Q (.tup (intsFrom 0 n.toNat)) μ1
  | _ => False
theorem rgV_ints (n : Int) : rgV 0 n = (intsFrom 0 n.toNat).map fun d => match d with | .int i => V.int i | _ => V.non := by
  unfold rgV intsFrom
  rw [List.map_map, Int.sub_zero]
  rfl
theorem xe_tupRg {e : Expr} {a : ATE} {p p2 pos pos2 : Pos} (hc : X.calm = true) (hg : Gl X "tuple") (hm : X.mg "tuple" = none) (hg2 : Gl X "range") (hm2 : X.mg "range" = none) (ha : PEA X e a) (he : Sole X e := by rfl) (hs : Sole X (.Call (.Name "range" p2) [e] [] pos2) := by rfl) :
    PEA X (.Call (.Name "tuple" p) [.Call (.Name "range" p2) [e] [] pos2] [] pos) (aTupRg a) := by
  refine pe_imp (pe_tupRg hc hg hm (prg_1 hg2 hm2 ha he) hs) fun σ H P ⟨β, ρ, μ, Q, F, M, h, k⟩ => ⟨β, ρ, μ, _, F, M, h, fun v H1 β1 d μ1 L1 M1 r1 h1 => ?_⟩
  cases d with
  | int n =>
    obtain ⟨h0, h1, q⟩ := h1
    refine ⟨n, r1.int_inv, RgOk.of_le (Int.le_refl 0) h1 (by decide) h0, fun l hl => ?_⟩
    have e : rgV 0 n = ((List.range n.toNat).map fun i => ((0 : Int) + (i : Nat))).map V.int := by unfold rgV; rw [List.map_map, Int.sub_zero]; rfl
    have e2 : intsFrom 0 n.toNat = ((List.range n.toNat).map fun i => ((0 : Int) + (i : Nat))).map A.int := by unfold intsFrom; rw [List.map_map]; rfl
    rw [e]
    refine kn_tup (k.le L1) M1 (RVs.ints _) ?_ l hl
    rw [← e2]
    exact q
  | _ => exact h1.elim
/-! ### x, y = a, b -/
def aPar (i j : Nat) (a : ATA) : ATS := fun D ρ μ => a ρ μ fun ds μ1 => match ds with
  | [d, e] => D.nx ((ρ.set i (some d)).set j (some e)) μ1
  | _ => False
theorem xs_par {i j : Nat} {x y : Str} {a b : Expr} {ta : ATA} {px py pt pos : Pos} {kt k2 : Nat} {pt2 : Pos} (hc : X.calm = true) (hN : X.N.Nodup) (hi : X.N[i]? = some x) (hj : X.N[j]? = some y) (hij : i ≠ j)
    (hx : X.env.scope.names.lookup x = some .local) (hy : X.env.scope.names.lookup y = some .local) (ha : PAA X [a, b] ta)
    (hw : swappedStores [.Tuple [.Name x px, .Name y py] kt pt] (.Tuple [a, b] k2 pt2) X.env = pure (some [x, y]) := by rfl)
    (hs : swapsWithSole [.Tuple [.Name x px, .Name y py] kt pt] (.Tuple [a, b] k2 pt2) pos.line X.env = pure false := by rfl) : PSA X (.Assign [.Tuple [.Name x px, .Name y py] kt pt] (.Tuple [a, b] k2 pt2) pos) (aPar i j ta) :=
  ps_imp (ps_par hc hN hi hj hij hx hy ha hw hs) fun D' σ H ⟨β, ρ, μ, D, F, M, h, k⟩ => ⟨β, ρ, μ, _, F, M, h, fun vs H1 β1 ds μ1 L1 M1 r1 h1 => by
    cases r1 with
    | nil => exact h1.elim
    | cons ra rr =>
      cases rr with
      | nil => exact h1.elim
      | cons rb rr =>
        cases rr with
        | nil => exact ⟨_, _, rfl, k.nx _ H1 β1 _ μ1 L1 (((F.mono L1.r).set ra i).set rb j) M1 h1⟩
        | cons _ _ => exact h1.elim⟩
end
end XL
end

section
set_option maxHeartbeats 2000000
/-! XL14: *; {k: v, **d}. -/
namespace XL
open PySem PySem.Spec PyProof.Rows L2
theorem tuple_mul1 (l : Addr) (items : Array Value) (n : Nat) (dd : Option Addr) (sl : Array (Option Value)) (u : Tok) :
    Meets (Builtin.«tuple.__mul__» ⟨[.ref l, .int 1 u], []⟩) (fun _ R s => s.heap.get? l = some { cls := .type "tuple", dict := dd, data := .seq items n, slots := sl } ∧
      R (.ok (.ret (Value.ref l))) s) :=
  .of_wp fun prog w A R s h => by
    obtain ⟨hp, g, d, tk, os⟩ := s
    obtain ⟨hl, h⟩ := h
    have f1 := AutoSeq1.idx_int
    wp_walk using wpAny_loadPart' hl
    exact ⟨_, rfl, h⟩
def rMul1 (K : PySem.W.Frag) : R2 := fun x y H Q => ∃ l xs, x = .ref l ∧ y = .int 1 ∧ SqT K H l xs ∧ Q (.ref l) H
section
variable {X : Cx}
theorem op_mul1 : OpR X (binaryOp .Mult) (rMul1 X.K) := by
  intro pins s σ H x y v u Q I rx ry h
  obtain ⟨l, xs, rfl, rfl, hT, q⟩ := h
  cases rx
  obtain ⟨t, rfl⟩ := ry
  obtain ⟨its, r, ⟨⟨cls, dd, data, sl⟩, ho, hc, n, hd⟩, hs⟩ := I.tuple hT
  simp only at hc hd
  subst hc hd
  refine wpAny_binaryOp_repeat_ref (T := "tuple") (U := "int") (by decide) ⟨_, ho, rfl⟩ (fun s' => typeIs_int s' 1 t) noFill_tuple_mul F.fills_int_mul F.slot_int_rmul repeat_tuple F.slot_int_index.lookup
    (call_meets F.slot_int_rmul (typeIs_int s 1 t) F.entry_int_rmul (F.args_int_rmul_2 _ _) (int_rmul_tuple 1 t l its.toArray n dd sl)
      ⟨ho, rfl, ⟨_, ho, rfl⟩, call_meets F.slot_tuple_mul ⟨_, ho, rfl⟩ F.entry_tuple_mul (F.args_tuple_mul_2 _ _) (tuple_mul1 l its.toArray n dd sl t) ⟨ho, ?_⟩⟩)
  exact ⟨.ref l, H, I, rfl, q⟩
theorem RVs.app {K : PySem.W.Frag} {H : Hp} {β : List Addr} {xs : List V} {ds : List A} (r : RVs K H β xs ds) : ∀ n : Nat, RVs K H β (List.replicate n xs).flatten (List.replicate n ds).flatten
  | 0 => .nil
  | n + 1 => by
    rw [List.replicate_succ, List.replicate_succ, List.flatten_cons, List.flatten_cons]
    exact r.append (r.app n)
theorem xo_mul : OpR X (binaryOp .Mult) (rA2 X.K mulA) := by
  refine opr_imp (opr_or op_mul (opr_or op_rep (opr_or op_repT op_mul1))) ?_
  rintro x y H P ⟨β, μ, dx, dy, Q, M, rx, ry, h, k⟩
  cases dx with
  | int i =>
    cases dy with
    | int j =>
      cases rx.int_inv
      cases ry.int_inv
      exact .inl ⟨i, j, rfl, rfl, h.1, kn_here k M (.int _) h.2⟩
    | _ => exact h.elim
  | ref m =>
    cases dy with
    | int j =>
      cases ry.int_inv
      obtain ⟨a, rfl, ha⟩ := rx.ref_inv
      have h' : (match μ[m]? with
        | some (.lst xs) => -(2 ^ 63) ≤ j ∧ j < 2 ^ 63 ∧ xs.length * j.toNat ≤ sizeLine ∧ Q (.ref μ.length) (μ ++ [.lst (List.replicate j.toNat xs).flatten])
        | _ => False) := h
      split at h'
      · rename_i xs e1
        obtain ⟨vs, q1, r1⟩ := M.ok _ _ _ e1 ha
        exact .inr (.inl ⟨a, j, vs, rfl, rfl, q1, h'.1, h'.2.1, by rw [r1.length]; exact h'.2.2.1, kn_lst k M (r1.app _) h'.2.2.2⟩)
      · exact h'.elim
    | _ => exact h.elim
  | tup xs =>
    cases dy with
    | int j =>
      cases ry.int_inv
      obtain ⟨a, vs, rfl, ha, ra⟩ := rx.tup_inv
      obtain ⟨h0, h1, h2, h3, q⟩ := h
      by_cases hj : j = 1
      · subst hj
        refine .inr (.inr (.inr ⟨a, vs, rfl, rfl, ha, kn_here k M rx ?_⟩))
        have e : (List.replicate (1 : Int).toNat xs).flatten = xs := by show ([xs] : List (List A)).flatten = xs; simp
        rw [e] at q
        exact q
      · exact .inr (.inr (.inl ⟨a, j, vs, rfl, rfl, ha, fun e => h0 (by rw [e] at ra; cases ra; rfl), by omega, h2, by rw [ra.length]; exact h3, kn_tup k M (ra.app _) q⟩))
    | _ => exact h.elim
  | _ => exact h.elim
end
/-! ### {k: v, **d} -/
theorem wpAny_dictPut_pairs {prog : Program} {w : World} {K : Type} [DecidableEq K] {knd : KeyKind prog w K} {A : Around} {E : Value → Shared → Prop} {s : Shared} {d : Addr} {kvs : List (K × Value)} {k : K} {key v : Value} {Q : Unit → Shared → Prop} (hkey : knd.is k key = true) (hm : s.heap.DictOf knd d kvs)
    (hQ : ∀ h', h'.DictOf knd d (stored kvs k v) → Heap.SameBut d s.heap h' → Q () { s with heap := h' })
    (hsz : kvs.length ≤ sizeLine) :
    wpAny (model prog w) A (dictPut d (knd.hash k) key v) Q E s := by
  obtain ⟨o, es, ep, ho, hc, hd, hk, hp, hn⟩ := hm
  have hes : es.size ≤ sizeLine := by have e1 := hp.length; have e2 : es.toList.length = es.size := by simp
                                      omega
  unfold dictPut
  refine wpAny_bind (wpAny_dictFind_of hkey ho hd hk ?_)
  have hidx : (es.findIdx? fun e => knd.is k e.key) = kvs.findIdx? fun kv => decide (kv.1 = k) := by
    rw [← hp.findIdx k]; obtain ⟨l⟩ := es; simp
  cases hi : es.findIdx? fun e => knd.is k e.key with
  | some i =>
    refine wpAny_updateDict ho hd (hQ _ ⟨_, _, ep, Heap.get?_update_self _ ho (Obj.isFreed_of_dict (Obj.data_mapDict hd _)),
      hc.mapDict _, Obj.data_mapDict hd _, hk.modify _ _, ?_, ?_⟩ (Heap.SameBut.update ..))
    · rw [stored, if_pos (any_of_findIdx_some (hidx ▸ hi))]
      have hl : (es.toList.findIdx? fun e => knd.is k e.key) = some i := by rw [← hi]; obtain ⟨l⟩ := es; simp
      have := hp.modify hn hl v
      obtain ⟨l⟩ := es
      simpa using this
    · rw [stored, if_pos (any_of_findIdx_some (hidx ▸ hi)), keys_map_store]; exact hn
  | none =>
    have hnot : k ∉ kvs.map (·.1) := not_mem_of_findIdx_none (hidx ▸ hi)
    have hany : ¬ (kvs.any fun kv => decide (kv.1 = k)) = true := by
      rw [List.any_eq_true]; rintro ⟨kv, hkv, he⟩
      exact hnot (List.mem_map.mpr ⟨kv, hkv, of_decide_eq_true he⟩)
    refine wpAny_updateDictKeys (hz := hes) ho hd (hQ _ ⟨_, _, ep + 1, Heap.get?_update_self _ ho (Obj.isFreed_of_dict (Obj.data_mapDictKeys hd _)),
      hc.mapDictKeys _, Obj.data_mapDictKeys hd _, hk.push hkey _, ?_, ?_⟩ (Heap.SameBut.update ..))
    · rw [stored, if_neg hany]
      have := hp.append hkey (knd.hash k) v
      obtain ⟨l⟩ := es
      simpa using this
    · rw [stored, if_neg hany, List.map_append, List.nodup_append]
      refine ⟨hn, by simp, ?_⟩
      intro a ha b hb
      simp only [List.map_cons, List.map_nil, List.mem_singleton] at hb
      subst hb
      exact fun e => hnot (e ▸ ha)
theorem wpAny_mergePlain {prog : Program} {w : World} {K : Type} [DecidableEq K] {knd : KeyKind prog w K} {A : Around} {E : Value → Shared → Prop} {s : Shared} {d o : Addr} {kvs more : List (K × Value)} {Q : Unit → Shared → Prop} (hdo : d ≠ o) (hoS : (o == sysModules) = false)
    (hne : kvs ≠ []) (hd : s.heap.DictOf knd d kvs) (ho : s.heap.DictOf knd o more)
    (hQ : ∀ h', h'.DictOf knd d (merged kvs more) → Heap.SameBut d s.heap h' → Q () { s with heap := h' })
    (hsz : kvs.length + more.length ≤ sizeLine) :
    wpAny (model prog w) A (mergeMapping d (.ref o) false) Q E s := by
  obtain ⟨od, esd, epd, hod, hcd, hdd, hkd, hpd, hnd⟩ := id hd
  obtain ⟨oo, eso, epo, hoo, hco, hdo', hko, hpo, hno⟩ := id ho
  have hlen : more.length = eso.size := by rw [← hpo.length]; simp
  unfold mergeMapping
  refine wpAny_bind ?_
  refine wpAny_isInstance ho.typeIs isSubtype_dict_dict ?_
  dsimp only
  rw [if_pos rfl]
  refine wpAny_bind (wpAny_specialOf ho.typeIs F.slot_dict_iter.lookup ?_)
  refine wpAny_bind (wpAny_pure ?_)
  have e0 : (some (Value.builtin "dict.__iter__") == some (Value.builtin "dict.__iter__")) = true := by simp
  rw [e0]
  dsimp only
  rw [if_neg (by rw [hoS]; exact Bool.false_ne_true)]
  refine wpAny_bind (wpAny_dictEntries hod hdd ?_)
  have hnz : ¬ esd.isEmpty = true := fun q => hne (by
    have h0 : esd = #[] := Array.isEmpty_iff.mp q
    have := hpd.length; rw [h0] at this; exact List.length_eq_zero_iff.mp (by simpa using this.symm))
  rw [if_neg hnz]
  refine wpAny_bind (wpAny_dictEntries hoo hdo' ?_)
  refine wpAny_bind (wpAny_dictEpoch hoo hdo' ?_)
  refine wpAny_bind ?_
  rw [List.range_eq_range']
  refine wpAny_forIn_list _
      (fun rest _ s' => ∃ h' i, s' = { s with heap := h' } ∧ rest = List.range' i (eso.size - i) ∧ i ≤ eso.size ∧ h'.DictOf knd d (merged kvs (more.take i)) ∧ h'.get? o = some oo ∧ Heap.SameBut d s.heap h')
      _ ?_ ?_ _ _ ⟨s.heap, 0, rfl, by simp, Nat.zero_le _, by simpa [merged] using hd, hoo, Heap.SameBut.refl _ _⟩
  · rintro x rest b s' ⟨h', i, rfl, hr, hi, hd', hoo', hs'⟩
    have hlt : i < eso.size := by
      rcases Nat.lt_or_ge i eso.size with h | h
      · exact h
      · rw [Nat.sub_eq_zero_of_le h] at hr; simp at hr
    obtain ⟨rfl, hrest⟩ : x = i ∧ rest = List.range' (i + 1) (eso.size - (i + 1)) := by
      have e : eso.size - i = (eso.size - (i + 1)) + 1 := by omega
      rw [e, List.range'_succ] at hr
      injection hr with h1 h2
      exact ⟨h1, h2⟩
    refine wpAny_bind (wpAny_dictEntries hoo' hdo' ?_)
    rw [Array.getElem?_eq_getElem hlt]
    obtain ⟨kv, hkv⟩ : ∃ kv, more[x]? = some kv := ⟨more[x]'(by rw [hlen]; exact hlt), List.getElem?_eq_getElem _⟩
    obtain ⟨k, v⟩ := kv
    obtain ⟨hkey, hval⟩ := hpo.get? (e := eso[x]) (by simp [hlt]) hkv
    obtain ⟨k', hkey', hhash⟩ := hko eso[x] (Array.getElem_mem hlt)
    obtain rfl : k' = k := knd.inj _ _ _ hkey' hkey
    show wpAny _ _ (holding [eso[x].key, eso[x].val] (dictPut d eso[x].hash eso[x].key eso[x].val) >>= _) _ _ _
    rw [hhash, hval]
    have hmx : (merged kvs (more.take x)).length ≤ sizeLine := by
      have e1 := merged_length_le kvs (more.take x)
      have e2 : (more.take x).length ≤ more.length := by rw [List.length_take]; omega
      omega
    refine wpAny_bind (wpAny_holding (wpAny_dictPut_pairs (hsz := hmx) hkey hd' fun h'' hd'' hs'' => ?_))
    have hoo'' : h''.get? o = some oo := (hs''.2 o (Ne.symm hdo)).trans hoo'
    refine wpAny_bind (wpAny_dictEpoch hoo'' hdo' ?_)
    rw [if_neg (by simp)]
    exact wpAny_pure ⟨h'', x + 1, rfl, hrest, hlt, by rw [merged_take_succ kvs more x (k', v) hkv]; exact hd'', hoo'', hs'.trans hs''⟩
  · rintro b s' ⟨h', i, rfl, hr, hi, hd', hoo', hs'⟩
    have hin : i = eso.size := by
      rcases Nat.lt_or_ge i eso.size with h | h
      · have e : eso.size - i = (eso.size - (i + 1)) + 1 := by omega
        rw [e, List.range'_succ] at hr; exact nomatch hr
      · exact Nat.le_antisymm hi h
    refine wpAny_pure (hQ h' ?_ hs')
    rw [hin, ← hlen, List.take_length] at hd'; exact hd'
/-- {k: v, **e} -/
def tMerge (tk tv te : TE) : TE := fun σ H Q => ∀ p, H p = none → tk σ (upd H p (.dK [])) fun x H1 => tv σ H1 fun y H2 => ∃ key, x = kV key ∧ H2 p = some (.dK []) ∧ te σ (upd H2 p (.dK [(key, y)])) fun z H3 =>
  ∃ a more, z = .ref a ∧ a ≠ p ∧ H3 a = some (.dK more) ∧ H3 p = some (.dK [(key, y)]) ∧ more.length + 1 ≤ sizeLine ∧ Q (.ref p) (upd H3 p (.dK (mergeK [(key, y)] more)))
theorem dictDisplay_two (K V E : Sem Value) : dictDisplay [(some K, V), (none, E)] = (do
      let d ← subDict [(K, V)]
      let m ← holding [.ref d] E
      (((holding [.ref d, m] (mergeMapping d m false)).onRaise fun x => do let _ ← holding [.ref d, m, x] (runValue (.builtin "proto.let_go" {}))).tryCatch fun e => do
        if ← isInstance e (.type "AttributeError") then
          rule "dict.display.not-a-mapping"; raiseError "TypeError" s!"'{← typeNameOf m}' object is not a mapping"
        throw e).onRaise fun x => do let _ ← holding [.ref d, x] (runValue (.builtin "proto.let_go" {}))
      pure (.ref d)) := by
  unfold dictDisplay
  simp
theorem xs_dummy : True := trivial
section
variable {X : Cx}
theorem pe_merge (hu : True) {kx vx ex : Expr} {pos : Pos} {tk tv te : TE} (hk : PE X kx tk) (hv : PE X vx tv) (he : PE X ex te) : PE X (.Dict [some kx, none] [vx, ex] pos) (tMerge tk tv te) := by
  refine ⟨fun pins s σ H Q I q => ?_⟩
  rw [arm_eval_Dict]
  have hz : (evalEachOpt [some kx, none] X.env).zip ((evalEach [vx, ex] X.env).map fun v => do let x ← v; standAt pos; pure x) = [(some (eval kx X.env), do let x ← eval vx X.env; standAt pos; pure x), (none, do let x ← eval ex X.env; standAt pos; pure x)] := rfl
  rw [hz, dictDisplay_two]
  refine wpAny_bind (wpAny_standAt ?_)
  refine wpAny_bind ?_
  have hn := I.hok.fresh (Nat.le_refl s.heap.objs.size)
  have I1 := I.laid (a := s.heap.objs.size) (o := .dK []) (h' := s.heap.push { cls := .type "dict", data := .dict #[] }) (t' := s.toks) (fun _ _ q => Heap.get?_push_of_some _ q) (Nat.le_refl _) (dk_empty s.heap I.big)
  refine wpAny_subDict (knd := mixKind X.prog X.w) (Nat.le_of_ble_eq_true rfl) (evalPairs_cons (thn (hk.run pins _ σ _ _ I1 (q _ hn)) fun u s1 ⟨x, H1, I2, rx, q1⟩ => wpAny_bind (thn (hv.run pins s1 σ H1 _ I2 q1) fun w2 s2 ⟨y, H2, I3, ry, key, ex2, ep, q2⟩ => wpAny_bind (wpAny_standAt (wpAny_pure ?_)))))
  subst ex2
  refine evalPairs_nil ?_
  obtain ⟨z, hd, vs0, r0, dd⟩ := dk_of I3.hok ep
  cases r0
  refine ⟨[(key, w2)], ⟨kV_is rx, rfl, trivial⟩, dd, fun h' dd' hs => ?_⟩
  have he' : ∃ q, h'.get? s.heap.objs.size = some q := let ⟨q, _, _, hq, _⟩ := dd'; ⟨q, hq⟩
  have rk : KV [(key, y)] [(key, w2)] := .cons ⟨rfl, ry⟩ .nil
  have hm : merged [] [(key, w2)] = [(key, w2)] := rfl
  rw [hm] at dd'
  have I4 := d_write I3 (h' := h') (t' := s2.toks + [(u, w2)].length) (a := s.heap.objs.size) (ob := .dK [(key, y)]) (by rw [ep]; exact True.intro) hs he' (dk_new (by rw [List.length_singleton, sizeLine_eq]; omega) hd rk dd')
  refine wpAny_bind (wpAny_holding (wpAny_bind (thn (he.run pins _ σ _ _ I4 q2) fun v3 s3 ⟨z3, H3, I5, r3, a, more, ez, hne, ha, hp, hl, q3⟩ => wpAny_bind (wpAny_standAt (wpAny_pure ?_)))))
  subst ez
  obtain rfl : v3 = Value.ref a := r3
  obtain ⟨z5, hd5, vs5, r5, dd5⟩ := dk_of I5.hok hp
  obtain ⟨z6, hd6, vs6, r6, dd6⟩ := dk_of I5.hok ha
  have l6 : more.length = vs6.length := r6.length
  have l5 : [(key, y)].length = vs5.length := r5.length
  refine wpAny_bind ?_
  refine wpAny_onRaise (wpAny_tryCatch (wpAny_onRaise (wpAny_holding (wpAny_mergePlain (knd := mixKind X.prog X.w) (fun e => hne e.symm) hd6 (fun e => by rw [e] at l5; cases l5) dd5 dd6 (fun h'' dd'' hs'' => ?_) (by rw [← l5, ← l6, List.length_singleton]; omega)))))
  refine wpAny_pure ⟨.ref s.heap.objs.size, _, ?_, rfl, q3⟩
  have he'' : ∃ q, h''.get? s.heap.objs.size = some q := let ⟨q, _, _, hq, _⟩ := dd''; ⟨q, hq⟩
  refine d_write (t' := s3.toks) I5 (by rw [hp]; exact True.intro) hs'' he'' (dk_new ?_ hd5 (r6.merge r5) dd'')
  have := length_mergeK more [(key, y)]
  rw [List.length_singleton] at this
  omega
def mergeA (kvs more : List (Key × A)) : List (Key × A) := more.foldl (fun acc kv => putKA acc kv.1 kv.2) kvs
theorem RKs.mergeA {K : PySem.W.Frag} {H : Hp} {β : List Addr} {more : List (Key × V)} {rs : List (Key × A)} (r : RKs K H β more rs) : ∀ {kvs : List (Key × V)} {vs : List (Key × A)}, RKs K H β kvs vs → RKs K H β (mergeK kvs more) (mergeA vs rs) := by
  induction r with
  | nil => intro _ _ q; exact q
  | cons h t ih => intro kvs vs q; exact ih (q.put h)
def aDMerge (tk tv : ATE) (a : ADA) : ADA := fun ρ μ Q => tk ρ μ fun x μ1 => tv ρ μ1 fun y μ2 => ∃ key, keyOf x = some key ∧ a ρ μ2 fun kvs μ3 => kvs.length + 1 ≤ sizeLine ∧ Q (mergeA [(key, y)] kvs) μ3
theorem xd_merge {kx vx ex : Expr} {pos : Pos} {tk tv : ATE} {te : ADA} (hk : PEA X kx tk) (hv : PEA X vx tv) (he : PDA X ex te) : PDA X (.Dict [some kx, none] [vx, ex] pos) (aDMerge tk tv te) :=
  pe_imp (pe_merge trivial hk hv he) fun σ H P ⟨β, ρ, μ, Q, F, M, h, k⟩ => fun p hp => by
  have n0 : p ∉ β := M.fresh hp
  have L0 : Le H β (upd H p (.dK [])) β := Le.push M hp
  refine ⟨β, ρ, μ, _, F.mono L0.r, M.push hp, h, fun x H1 β1 dx μ1 L1 M1 r1 h1 => ?_⟩
  have n1 : p ∉ β1 := fun m => by
    have := L1.nw p m n0
    rw [upd_same] at this; cases this
  have e1 : H1 p = some (.dK []) := L1.fr _ _ upd_same n0
  refine ⟨β1, ρ, μ1, _, F.mono (L0.trans L1).r, M1, h1, fun y H2 β2 dy μ2 L2 M2 r2 ⟨key, hkey, h2⟩ => ?_⟩
  have n2 : p ∉ β2 := fun m => by
    have := L2.nw p m n1
    rw [e1] at this; cases this
  have e2 : H2 p = some (.dK []) := L2.fr _ _ e1 n1
  have ns : ∀ (u : List (Key × V)), ¬ Stb (.dK u) := fun _ z => z
  have L3 : Le H β (upd H2 p (.dK [(key, y)])) β2 := ((L0.trans L1).trans L2).mut hp
  have M3 : Mst X.K (upd H2 p (.dK [(key, y)])) β2 μ2 := M2.mut e2 (ns _) n2
  refine ⟨key, (r1.mono L2.r).key hkey, e2, β2, ρ, μ2, _, (F.mono ((L0.trans L1).trans L2).r).mono (Ler.mut e2 (ns _)), M3, h2, fun q H4 β4 ws kvs μ4 L4 M4 hq hn h0 r4 ⟨hl, h4⟩ => ?_⟩
  have n4 : p ∉ β4 := fun m => by
    have := L4.nw p m n2
    rw [upd_same] at this; cases this
  have e4 : H4 p = some (.dK [(key, y)]) := L4.fr _ _ upd_same n2
  have hqp : q ≠ p := fun e => by rw [e, upd_same] at h0; cases h0
  have ry : RV X.K H4 β4 y dy := (r2.mono (Ler.mut e2 (ns _))).mono L4.r
  refine ⟨q, ws, rfl, hqp, hq, e4, by rw [r4.length]; exact hl, ?_⟩
  exact k p _ β4 _ _ μ4 ((L3.trans L4).mut hp) (M4.mut e4 (ns _) n4) upd_same n4 hp ((r4.mergeA (.cons ry .nil)).mono (Ler.mut e4 (ns _))) h4
/-- the dict in slot i is locked while st runs -/
theorem xs_lock {st : Stmt} {a : ATS} (i : Nat) (h : PSA X st a) : True := trivial
end
/-- the rule of a def, the very def's -/
theorem fn_k {P : Program} {w : World} {K : PySem.W.Frag} {mg : Str → Option Value} {base : Heap} {x qual : Str} {params : Arguments} {body : List Stmt} {scope : Scope} {f : Addr} {fd : FuncData} {N ps : List Str} {k n : Nat} {as : ASp} {a : ATS}
    (F : FunD K x qual params body scope [] [] f fd) (S : FnScope N ps scope) (hn : ps.length = n)
    (hbody : ∀ (cdv : Value) (A : Around) (outer : List Env) (s : Shared) (H : Hp) (E : XK), Room k (A.deeper (envOfC qual scope s.heap.objs.size f cdv)) → PSsA (cxOf CX0 P w K mg base N qual scope f cdv A outer s H E).nox body a)
    (hread : ∀ ds μ Q, as ds μ Q → a { nx := fun _ μ' => Ret μ Q .non μ', rt := Ret μ Q } (astart N.length ds) μ) : FnOk P w K mg base CX0 (k + 1) f fd ps (toSp K n as) := by
  refine F.ok S (fun vs H Q E h => by rw [hn]; exact h.1) (fun cdv A outer s H vs Q E hr h => ⟨_, (hbody cdv A outer s H E hr).nox, ?_⟩)
  obtain ⟨_, ds, β, μ, Qa, r, M, q, kk⟩ := h
  refine ⟨β, _, μ, _, fr_start r, M, hread ds μ Qa q, ⟨fun σ' H' β' ρ' μ' L F' M' h => ret_ok M kk L M' .non h, fun v H' β' d μ' L M' rv h => ret_ok M kk L M' rv h, fun _ _ _ _ _ _ _ _ h => h.elim, fun _ _ _ _ _ _ _ _ h => h.elim⟩⟩
theorem fl_only {K : PySem.W.Frag} {H : Hp} {a : Addr} {xs : List V} (hO : Only H) (h : SqL K H a xs) : FL K H a xs := by
  rcases h with (h | ⟨o, h⟩) | h
  · rcases hO a with q | ⟨o, ys, q⟩
    · rw [q] at h; cases h
    · rw [q] at h; cases h
  · exact .inl ⟨o, h⟩
  · exact .inr h
theorem mst_nil {K : PySem.W.Frag} {H : Hp} : Mst K H [] [] := ⟨rfl, .nil, fun k c a e _ => by rw [List.getElem?_nil] at e; cases e⟩
theorem sp_law {K : PySem.W.Frag} {H : Hp} {a : Addr} {ns : List Int} {as : ASp} {E : XK} (hO : Only H) (hS : SqL K H a (ns.map V.int)) (h : ∀ Q : AK, (∀ μ', Q (.bl true) μ') → as [.frl (ns.map .int)] [] Q) :
    toSp K 1 as [.ref a] H (fun v _ => v = .bl true) E :=
  ⟨rfl, [.frl (ns.map .int)], [], [], fun d _ => d = .bl true, .cons (.frl (fl_only hO hS) (RVs.ints ns)) .nil, mst_nil, h _ fun _ => rfl, fun v H' β' d μ' _ _ r q => by subst q; exact r.bl_inv⟩
end XL
end

section
/-! XS: the defs that many laws share. -/
namespace XL
open PySem PySem.Spec PyProof.Rows L2
theorem get_last {μ : Mem} {c : Cell} : (μ ++ [c])[μ.length]? = some c := by rw [List.getElem?_append_right (Nat.le_refl _), Nat.sub_self]; rfl
theorem set_last {μ : Mem} {c c' : Cell} : (μ ++ [c]).set μ.length c' = μ ++ [c'] := by rw [List.set_append_right _ _ (Nat.le_refl _), Nat.sub_self]; rfl
end XL
local macro_rules | `(tactic| walk_at "ev") => `(tactic| simp only [XL.aRet, XL.aOp, XL.aVar, XL.aC, XL.astart, XL.shrA, XL.shlA, XL.intA, XL.andA, XL.orA, XL.xorA, XL.intA0, XL.subA, XL.addA, XL.fdivA, XL.modA, XL.powA, XL.eqA, XL.neA, XL.eqB, XL.ltA, XL.leA, XL.gtA, XL.geA, XL.cmpA, XL.aSeq, XL.aAsg, XL.gaName,
  XL.aCell, XL.aLst, XL.aNil, XL.aCons, XL.aTup, XL.aTest, XL.aTru, XL.truA, XL.aIfS, XL.aNext, XL.aExpr, XL.aAug, XL.aTupOf, XL.aSeqQ, XL.seqQ, XL.aLstQ, XL.lstQ, XL.aLstOf, XL.aSeqI, XL.seqI, XL.aCall, XL.aInt, XL.aAbs, XL.aLen, XL.lenV, XL.ixA, XL.gaSub, XL.setA, XL.aIsi, XL.tyN, XL.aAndV, XL.aOrV, XL.aNotV, XL.aAnd, XL.aOr, XL.aNot, XL.aIf, XL.aApp, XL.aFor, XL.aRange1, XL.aRange2, XL.mulA, XL.aLenN, XL.aSum, XL.aAny, XL.aAll, XL.aSetL, XL.get_last, XL.set_last, XL.aPar, XL.aTwo, XL.aUn, XL.inA, XL.aDCell, XL.aDNew, XL.aChain, XL.aC, XL.isA, XL.notIsA, XL.aSl, XL.aPart, XL.aNoPart, XL.slA, XL.aNewI, XL.aSlL, XL.slAL,
  List.map, List.length, List.replicate, List.cons_append, List.nil_append, List.append_nil, List.getElem?_cons_zero, List.getElem?_cons_succ, List.getElem?_nil, List.set_cons_zero, List.set_cons_succ, List.length_cons, List.length_nil, Option.some.injEq, exists_eq_left', Bool.not_true, Bool.not_false, if_true, if_false, Bool.false_eq_true])
namespace XL
open PySem PySem.Spec PyProof.Rows L2
/-! ### bits of a number -/
def mem (n : Nat) : List Nat := if n = 0 then [] else (if n % 2 = 1 then [0] else []) ++ (mem (n / 2)).map (· + 1)
termination_by n
decreasing_by omega
theorem mem_zero : mem 0 = [] := by unfold mem; rfl
theorem mem_pos {n : Nat} (h : n ≠ 0) : mem n = (if n % 2 = 1 then [0] else []) ++ (mem (n / 2)).map (· + 1) := by
  conv => lhs; unfold mem
  rw [if_neg h]
theorem mem_iff : ∀ (n i : Nat), i ∈ mem n ↔ n.testBit i = true := fun n => by
  induction n using Nat.strongRecOn with
  | ind n ih =>
    intro i
    by_cases h : n = 0
    · subst h; rw [mem_zero]; simp
    · rw [mem_pos h, List.mem_append, List.mem_map]
      have ih' := ih (n / 2) (by omega)
      cases i with
      | zero =>
        rw [Nat.testBit_zero]
        constructor
        · rintro (q | ⟨a, _, e⟩)
          · split at q
            · exact decide_eq_true (by assumption)
            · cases q
          · omega
        · intro q
          left
          rw [if_pos (of_decide_eq_true q)]
          exact List.mem_singleton.mpr rfl
      | succ j =>
        rw [Nat.testBit_succ, ← ih' j]
        constructor
        · rintro (q | ⟨a, ha, e⟩)
          · split at q
            · cases List.mem_singleton.mp q
            · cases q
          · have : a = j := by omega
            rw [← this]; exact ha
        · exact fun q => .inr ⟨j, q, rfl⟩
theorem mem_sorted : ∀ n : Nat, (mem n).Pairwise (· < ·) := fun n => by
  induction n using Nat.strongRecOn with
  | ind n ih =>
    by_cases h : n = 0
    · subst h; rw [mem_zero]; exact .nil
    · rw [mem_pos h, List.pairwise_append]
      refine ⟨by split <;> simp, ?_, fun a ha b hb => ?_⟩
      · rw [List.pairwise_map]
        exact (ih (n / 2) (by omega)).imp fun h => by omega
      · obtain ⟨c, _, rfl⟩ := List.mem_map.mp hb
        split at ha
        · rw [List.mem_singleton.mp ha]; omega
        · cases ha
theorem mem_len : ∀ (k n : Nat), n < 2 ^ k → (mem n).length ≤ k
  | 0, n, h => by
    have : n = 0 := by simpa using h
    subst this
    rw [mem_zero]; simp
  | k + 1, n, h => by
    by_cases h0 : n = 0
    · subst h0; rw [mem_zero]; simp
    · have := mem_len k (n / 2) (by rw [Nat.pow_succ] at h; omega)
      rw [mem_pos h0, List.length_append, List.length_map]
      split <;> simp <;> omega
/-- from place k on -/
theorem mem_step {n : Nat} (h : n ≠ 0) (k : Nat) : (mem n).map (· + k) = (if n % 2 = 1 then [k] else []) ++ (mem (n / 2)).map (· + (k + 1)) := by
  rw [mem_pos h, List.map_append, List.map_map]
  congr 1
  · split <;> simp
  · refine List.map_congr_left fun a _ => ?_
    show a + 1 + k = a + (k + 1)
    omega
def tN (l : List Nat) : A := .tup (l.map fun i => .int (i : Nat))
def iN (l : List Nat) : List A := l.map fun i => A.int (i : Nat)
theorem iN_lts (n : Nat) : ∀ l : List Nat, A.lts n (iN l) = true
  | [] => by simp [iN, A.lts]
  | a :: l => by
    have := iN_lts n l
    unfold iN at this ⊢
    simp only [List.map_cons, A.lts, A.lt, this, Bool.and_self]
theorem tN_lt (n : Nat) (l : List Nat) : (tN l).lt n = true := by
  unfold tN
  simp only [A.lt]
  exact iN_lts n l
/-- a while loop by an invariant and a measure -/
theorem while_i {c : ATT} {b : ATS} {D : AEnds} {ρ : AEnv} {μ : Mem} (W : Nat → AEnv → Mem → Prop) (m0 : Nat) (h0 : W m0 ρ μ)
    (hs : ∀ m ρ μ, W m ρ μ → c ρ μ fun t μ1 => if t = true then b { D with nx := fun ρ' μ' => ∃ m', m' < m ∧ W m' ρ' μ', ct := fun ρ' μ' => ∃ m', m' < m ∧ W m' ρ' μ', bk := D.nx } ρ μ1 else D.nx ρ μ1) : aWhile c b D ρ μ := ⟨W, ⟨m0, h0⟩, hs⟩

/-! ### is_integer -/
def isInt : A → Bool
  | .int _ => true
  | _ => false
theorem kit_int : ∀ t, t = "NoneType" ∨ t = "bool" ∨ t = "int" ∨ t = "str" ∨ t = "tuple" ∨ t = "list" ∨ t = "dict" → kitB t "int" = some (t == "bool" || t == "int") ∧ kitB t "bool" = some (t == "bool") ∧ kitB t "tuple" = some (t == "tuple") := by
  rintro t (rfl | rfl | rfl | rfl | rfl | rfl | rfl) <;> exact ⟨by decide +kernel, by decide +kernel, by decide +kernel⟩
theorem tyN_mem {d : A} {μ : Mem} {t : String} (h : tyN d μ = some t) : t = "NoneType" ∨ t = "bool" ∨ t = "int" ∨ t = "str" ∨ t = "tuple" ∨ t = "list" ∨ t = "dict" := by
  cases d with
  | ref k =>
    unfold tyN at h
    dsimp only at h
    split at h <;> cases h <;> simp
  | _ => cases h <;> simp
theorem tyN_isInt {d : A} {μ : Mem} {t : String} (h : tyN d μ = some t) : ((t == "bool" || t == "int") && !(t == "bool")) = isInt d := by
  cases d with
  | ref k =>
    unfold tyN at h
    dsimp only at h
    split at h <;> cases h <;> rfl
  | _ => cases h <;> rfl
def cn_is_integer : List Str := ["value"]
def ca_is_integer : ATS := (aRet (aAndV (aIsi (aVar 0) "int") (aNotV (aIsi (aVar 0) "bool"))))
def s_is_integer : ASp := fun ds μ Q => ∃ d t, ds = [d] ∧ tyN d μ = some t ∧ Q (.bl (isInt d)) μ
theorem l_is_integer : ∀ ds μ Q, s_is_integer ds μ Q → ds.length = 1 := fun _ _ _ ⟨_, _, e, _⟩ => by rw [e]; rfl
theorem r_is_integer (ds : List A) (μ : Mem) (Q : AK) (h : s_is_integer ds μ Q) : ca_is_integer { nx := fun _ μ' => Ret μ Q .non μ', rt := Ret μ Q } (astart cn_is_integer.length ds) μ := by
  obtain ⟨d, t, rfl, ht, q⟩ := h
  obtain ⟨k1, k2, _⟩ := kit_int t (tyN_mem ht)
  have e := tyN_isInt ht
  refine ⟨t, _, ht, k1, (t == "bool" || t == "int"), rfl, ?_⟩
  rw [← e] at q
  cases h1 : (t == "bool" || t == "int") with
  | true =>
    rw [h1, Bool.true_and] at q
    exact ⟨t, _, ht, k2, (t == "bool"), rfl, ret_here (by simp [A.lt]) q⟩
  | false =>
    rw [h1, Bool.false_and] at q
    exact ret_here (by simp [A.lt]) q
/-! ### has -/
def cn_has : List Str := ["bits", "number"]
def ca_has : ATS := (aRet (aOp eqA (aOp andA (aOp shrA (aVar 0) (aVar 1)) (aC (.int 1))) (aC (.int 1))))
def s_has : ASp := fun ds μ Q => ∃ n i : Nat, ds = [.int n, .int i] ∧ Q (.bl (n.testBit i)) μ
theorem l_has : ∀ ds μ Q, s_has ds μ Q → ds.length = 2 := fun _ _ _ ⟨_, _, e, _⟩ => by rw [e]; rfl
theorem band_nn (a b : Nat) : Builtin.bitAnd (a : Int) (b : Int) = ((a &&& b : Nat) : Int) := by rw [bitAnd_pp (by omega) (by omega)]; simp
theorem has_eq (n i : Nat) : (Builtin.bitAnd ((n : Int) / 2 ^ ((i : Int)).toNat) 1 == 1) = n.testBit i := by
  have e : (n : Int) / 2 ^ ((i : Int)).toNat = ((n / 2 ^ i : Nat) : Int) := by simp
  rw [e, show (1 : Int) = ((1 : Nat) : Int) from rfl, band_nn, Nat.and_one_is_mod]
  rw [Nat.testBit_eq_decide_div_mod_eq, Bool.eq_iff_iff]
  simp only [beq_iff_eq, decide_eq_true_eq]
  omega
theorem r_has (ds : List A) (μ : Mem) (Q : AK) (h : s_has ds μ Q) : ca_has { nx := fun _ μ' => Ret μ Q .non μ', rt := Ret μ Q } (astart cn_has.length ds) μ := by
  obtain ⟨n, i, rfl, q⟩ := h
  rw [← has_eq] at q
  exact ⟨Int.natCast_nonneg _, ret_here (by simp [A.lt]) q⟩
theorem iN_snoc (l : List Nat) (i : Nat) : iN l ++ [.int (i : Nat)] = iN (l ++ [i]) := by unfold iN; rw [List.map_append]; rfl
theorem iN_len (l : List Nat) : (iN l).length = l.length := by unfold iN; rw [List.length_map]
/-! ### members -/
def cn_members : List Str := ["bits", "found", "number"]
def ca_members : ATS := (aSeq (aAsg (aCell (aLst aNil)) (gaName 1))
  (aSeq (aAsg (aC (.int 0)) (gaName 2))
  (aSeq (aWhile (aTest (aOp gtA (aVar 0) (aC (.int 0)))) (aSeq (aIfS (aTest (aOp eqA (aOp andA (aVar 0) (aC (.int 1))) (aC (.int 1)))) (aExpr (aApp (aVar 1) (aVar 2))) aNext)
  (aSeq (aAsg (aOp shrA (aVar 0) (aC (.int 1))) (gaName 0))
  (aAug 2 (aC (.int 1)) (intA0 (· + ·))))))
  (aRet (aTupOf (aSeqQ (aVar 1)))))))
def s_members : ASp := fun ds μ Q => ∃ n : Nat, ds = [.int n] ∧ n < 2 ^ 1000 ∧ Q (tN (mem n)) μ
theorem l_members : ∀ ds μ Q, s_members ds μ Q → ds.length = 1 := fun _ _ _ ⟨_, e, _⟩ => by rw [e]; rfl
theorem half (m : Nat) : (m : Int) / 2 ^ Int.toNat 1 = ((m / 2 : Nat) : Int) := by
  show (m : Int) / 2 ^ 1 = _
  simp
theorem band1 (n : Nat) : (Builtin.bitAnd (n : Int) 1 == 1) = decide (n % 2 = 1) := by
  rw [show (1 : Int) = ((1 : Nat) : Int) from rfl, band_nn, Nat.and_one_is_mod, Bool.eq_iff_iff]
  simp only [beq_iff_eq, decide_eq_true_eq]
  omega
theorem r_members (ds : List A) (μ : Mem) (Q : AK) (h : s_members ds μ Q) : ca_members { nx := fun _ μ' => Ret μ Q .non μ', rt := Ret μ Q } (astart cn_members.length ds) μ := by
  obtain ⟨n, rfl, hn, q⟩ := h
  have hl := mem_len 1000 n hn
  refine ⟨by decide, ?_⟩
  refine while_i (fun m ρ μ' => ∃ (i : Nat) (acc : List Nat), ρ = [some (.int (m : Nat)), some (.ref μ.length), some (.int (i : Nat))] ∧ μ' = μ ++ [.lst (iN acc)] ∧ acc ++ (mem m).map (· + i) = mem n) n ⟨0, [], rfl, rfl, by simp⟩ ?_
  rintro m _ _ ⟨i, acc, rfl, rfl, e⟩
  show (if decide (0 < (m : Int)) = true then _ else _)
  have hb : acc.length ≤ 1000 := by
    have := congrArg List.length e
    rw [List.length_append] at this
    omega
  by_cases h0 : m = 0
  · subst h0
    rw [if_neg (by simp)]
    rw [mem_zero, List.map_nil, List.append_nil] at e
    subst e
    walk_at "ev"
    exact ret_same (tN_lt _ _) q
  · rw [if_pos (by simp; omega)]
    rw [mem_step h0] at e
    walk_at "ev"
    rw [band1, half]
    by_cases h1 : m % 2 = 1
    · rw [if_pos (by simpa using h1)]
      rw [if_pos h1, ← List.append_assoc] at e
      exact ⟨⟨_, rfl⟩, _, rfl, by rw [iN_len, sizeLine_eq]; omega, by decide, m / 2, by omega, i + 1, acc ++ [i], rfl, by rw [iN_snoc], e⟩
    · rw [if_neg (by simpa using h1)]
      rw [if_neg h1, List.nil_append] at e
      exact ⟨by decide, m / 2, by omega, i + 1, acc, rfl, rfl, e⟩
/-! ### count -/
def cn_count : List Str := ["bits", "found"]
def ca_count : ATS := (aSeq (aAsg (aC (.int 0)) (gaName 1))
  (aSeq (aWhile (aTest (aOp gtA (aVar 0) (aC (.int 0)))) (aSeq (aAug 1 (aOp andA (aVar 0) (aC (.int 1))) (intA0 (· + ·)))
  (aAsg (aOp shrA (aVar 0) (aC (.int 1))) (gaName 0))))
  (aRet (aVar 1))))
def s_count : ASp := fun ds μ Q => ∃ n : Nat, ds = [.int n] ∧ Q (.int ((mem n).length : Nat)) μ
theorem l_count : ∀ ds μ Q, s_count ds μ Q → ds.length = 1 := fun _ _ _ ⟨_, e, _⟩ => by rw [e]; rfl
theorem band1' (n : Nat) : Builtin.bitAnd (n : Int) 1 = ((n % 2 : Nat) : Int) := by
  rw [show (1 : Int) = ((1 : Nat) : Int) from rfl, band_nn, Nat.and_one_is_mod]
theorem r_count (ds : List A) (μ : Mem) (Q : AK) (h : s_count ds μ Q) : ca_count { nx := fun _ μ' => Ret μ Q .non μ', rt := Ret μ Q } (astart cn_count.length ds) μ := by
  obtain ⟨n, rfl, q⟩ := h
  refine while_i (fun m ρ μ' => ∃ c : Nat, ρ = [some (.int (m : Nat)), some (.int (c : Nat))] ∧ μ' = μ ∧ c + (mem m).length = (mem n).length) n ⟨0, rfl, rfl, by simp⟩ ?_
  rintro m _ _ ⟨c, rfl, rfl, e⟩
  show (if decide (0 < (m : Int)) = true then _ else _)
  by_cases h0 : m = 0
  · subst h0
    rw [if_neg (by simp)]
    rw [mem_zero, List.length_nil, Nat.add_zero] at e
    subst e
    walk_at "ev"
    exact ret_here (by simp [A.lt]) q
  · rw [if_pos (by simp; omega)]
    have e2 := congrArg List.length (mem_step h0 0)
    rw [List.length_append, List.length_map, List.length_map] at e2
    walk_at "ev"
    rw [band1', half]
    refine ⟨by decide, m / 2, by omega, c + m % 2, by simp, trivial, ?_⟩
    split at e2
    · rw [List.length_singleton] at e2; omega
    · rw [List.length_nil] at e2; omega
/-! ### the laws' own -/
def cn__law_bit : List Str := ["x", "found", "k"]
def ca__law_bit : ATS := (aSeq (aAsg (aC (.int 1)) (gaName 1))
  (aSeq (aFor (aRange1 (aVar 0)) (gaName 2) (aAsg (aOp mulA (aC (.int 2)) (aVar 1)) (gaName 1)))
  (aRet (aVar 1))))
def s__law_bit : ASp := fun ds μ Q => ∃ x : Nat, ds = [.int x] ∧ x ≤ 1000 ∧ Q (.int ((2 ^ x : Nat) : Int)) μ
theorem l__law_bit : ∀ ds μ Q, s__law_bit ds μ Q → ds.length = 1 := fun _ _ _ ⟨_, e, _⟩ => by rw [e]; rfl
theorem r__law_bit (ds : List A) (μ : Mem) (Q : AK) (h : s__law_bit ds μ Q) : ca__law_bit { nx := fun _ μ' => Ret μ Q .non μ', rt := Ret μ Q } (astart cn__law_bit.length ds) μ := by
  obtain ⟨n, rfl, hn, q⟩ := h
  refine ⟨by omega, by omega, fun i ρ μ' => (∃ x, ρ = [some (.int (n : Nat)), some (.int ((2 ^ i : Nat) : Int)), x]) ∧ μ' = μ, ⟨⟨none, rfl⟩, rfl⟩, fun _ _ _ _ _ => trivial, ?_, ?_⟩
  · rintro i d _ _ _ ⟨⟨x, rfl⟩, rfl⟩
    walk_at "ev"
    have e : (2 : Int) * ((2 ^ i : Nat) : Int) = ((2 ^ (i + 1) : Nat) : Int) := by rw [Nat.pow_succ]; simp; omega
    exact ⟨.inl (by omega), ⟨some d, by rw [e]⟩, trivial⟩
  · rintro _ _ ⟨⟨x, rfl⟩, rfl⟩
    walk_at "ev"
    rw [intsFrom_len, Int.toNat_natCast]
    exact ret_here (by simp [A.lt]) q
def cn__law_has : List Str := ["bits", "x"]
def ca__law_has : ATS := (aRet (aOp eqA (aOp modA (aInt (aOp fdivA (aVar 0) (aCall s__law_bit (aCons (aVar 1) aNil)))) (aC (.int 2))) (aC (.int 1))))
def s__law_has : ASp := fun ds μ Q => ∃ n i : Nat, ds = [.int n, .int i] ∧ i ≤ 29 ∧ Q (.bl (n.testBit i)) μ
theorem l__law_has : ∀ ds μ Q, s__law_has ds μ Q → ds.length = 2 := fun _ _ _ ⟨_, _, e, _⟩ => by rw [e]; rfl
theorem fd_nn (a b : Nat) : Int.fdiv (a : Int) (b : Int) = ((a / b : Nat) : Int) := by rw [Int.fdiv_eq_ediv_of_nonneg _ (by omega)]; simp
theorem fm_nn (a b : Nat) : Int.fmod (a : Int) (b : Int) = ((a % b : Nat) : Int) := by rw [Int.fmod_eq_emod_of_nonneg _ (by omega)]; simp
theorem r__law_has (ds : List A) (μ : Mem) (Q : AK) (h : s__law_has ds μ Q) : ca__law_has { nx := fun _ μ' => Ret μ Q .non μ', rt := Ret μ Q } (astart cn__law_has.length ds) μ := by
  obtain ⟨n, i, rfl, hi, q⟩ := h
  have hp : 2 ^ i ≤ 2 ^ 29 := Nat.pow_le_pow_right (by omega) hi
  have hp0 : 0 < 2 ^ i := Nat.pos_of_ne_zero (by simp)
  refine ⟨i, rfl, by omega, ?_⟩
  walk_at "ev"
  refine ⟨⟨by omega, by omega⟩, by decide, ?_⟩
  have e : (Int.fmod (Int.fdiv (n : Int) ((2 ^ i : Nat) : Int)) 2 == 1) = n.testBit i := by
    rw [fd_nn, show (2 : Int) = ((2 : Nat) : Int) from rfl, fm_nn, Nat.testBit_eq_decide_div_mod_eq, Bool.eq_iff_iff]
    simp only [beq_iff_eq, decide_eq_true_eq]
    omega
  rw [e]
  exact ret_here (by simp [A.lt]) q
def cn__law_members : List Str := ["bits", "found", "x"]
def ca__law_members : ATS := (aSeq (aAsg (aCell (aLst aNil)) (gaName 1))
  (aSeq (aAsg (aC (.int 0)) (gaName 2))
  (aSeq (aWhile (aTest (aOp gtA (aVar 0) (aC (.int 0)))) (aSeq (aIfS (aTest (aOp eqA (aOp modA (aInt (aVar 0)) (aC (.int 2))) (aC (.int 1)))) (aExpr (aApp (aVar 1) (aVar 2))) aNext)
  (aSeq (aAsg (aOp fdivA (aVar 0) (aC (.int 2))) (gaName 0))
  (aAsg (aOp addA (aVar 2) (aC (.int 1))) (gaName 2)))))
  (aRet (aTupOf (aSeqQ (aVar 1)))))))
def s__law_members : ASp := s_members
theorem l__law_members : ∀ ds μ Q, s__law_members ds μ Q → ds.length = 1 := l_members
theorem md1 (n : Nat) : (Int.fmod (n : Int) 2 == 1) = decide (n % 2 = 1) := by
  rw [show (2 : Int) = ((2 : Nat) : Int) from rfl, fm_nn, Bool.eq_iff_iff]
  simp only [beq_iff_eq, decide_eq_true_eq]
  omega
theorem r__law_members (ds : List A) (μ : Mem) (Q : AK) (h : s__law_members ds μ Q) : ca__law_members { nx := fun _ μ' => Ret μ Q .non μ', rt := Ret μ Q } (astart cn__law_members.length ds) μ := by
  obtain ⟨n, rfl, hn, q⟩ := h
  have hl := mem_len 1000 n hn
  refine ⟨by decide, ?_⟩
  refine while_i (fun m ρ μ' => ∃ (i : Nat) (acc : List Nat), ρ = [some (.int (m : Nat)), some (.ref μ.length), some (.int (i : Nat))] ∧ μ' = μ ++ [.lst (iN acc)] ∧ acc ++ (mem m).map (· + i) = mem n) n ⟨0, [], rfl, rfl, by simp⟩ ?_
  rintro m _ _ ⟨i, acc, rfl, rfl, e⟩
  show (if decide (0 < (m : Int)) = true then _ else _)
  have hb : acc.length ≤ 1000 := by
    have := congrArg List.length e
    rw [List.length_append] at this
    omega
  by_cases h0 : m = 0
  · subst h0
    rw [if_neg (by simp)]
    rw [mem_zero, List.map_nil, List.append_nil] at e
    subst e
    walk_at "ev"
    exact ret_same (tN_lt _ _) q
  · rw [if_pos (by simp; omega)]
    rw [mem_step h0] at e
    walk_at "ev"
    have e2 : Int.fdiv (m : Int) 2 = ((m / 2 : Nat) : Int) := fd_nn m 2
    rw [md1, e2]
    refine ⟨by decide, ?_⟩
    by_cases h1 : m % 2 = 1
    · rw [if_pos (by simpa using h1)]
      rw [if_pos h1, ← List.append_assoc] at e
      exact ⟨⟨_, rfl⟩, _, rfl, by rw [iN_len, sizeLine_eq]; omega, ⟨by decide, by decide⟩, m / 2, by omega, i + 1, acc ++ [i], rfl, by rw [iN_snoc], e⟩
    · rw [if_neg (by simpa using h1)]
      rw [if_neg h1, List.nil_append] at e
      exact ⟨⟨by decide, by decide⟩, m / 2, by omega, i + 1, acc, rfl, rfl, e⟩
def cn__law_count : List Str := ["bits"]
def ca__law_count : ATS := (aRet (aLen (aCall s__law_members (aCons (aVar 0) aNil))))
def s__law_count : ASp := fun ds μ Q => ∃ n : Nat, ds = [.int n] ∧ n < 2 ^ 1000 ∧ Q (.int ((mem n).length : Nat)) μ
theorem l__law_count : ∀ ds μ Q, s__law_count ds μ Q → ds.length = 1 := fun _ _ _ ⟨_, e, _⟩ => by rw [e]; rfl
theorem r__law_count (ds : List A) (μ : Mem) (Q : AK) (h : s__law_count ds μ Q) : ca__law_count { nx := fun _ μ' => Ret μ Q .non μ', rt := Ret μ Q } (astart cn__law_count.length ds) μ := by
  obtain ⟨n, rfl, hn, q⟩ := h
  refine ⟨n, rfl, hn, (mem n).length, ?_, ret_here (by simp [A.lt]) q⟩
  show some (List.length _) = _
  rw [List.length_map]
/-! ### the draws -/
/-- the two cells of a law's draws: the script's copy; [copy, place, rest, seed] -/
def Good (c0 c1 : Cell) : Prop := ∃ (ns : List Int) (p r z : Nat), c0 = .lst (ns.map .int) ∧ c1 = .lst [.ref 0, .int (p : Nat), .int (r : Nat), .int (z : Nat)]
def cn__law_begin : List Str := ["script", "seed", "cell"]
def ca__law_begin : ATS := (aSeq (aAsg (aC (.int 5)) (gaName 1))
  (aSeq (aFor (aSeqI (aVar 0)) (gaName 2) (aAsg (aOp modA (aOp addA (aOp addA (aOp mulA (aVar 1) (aC (.int 48271))) (aOp modA (aInt (aVar 2)) (aC (.int 2147483629)))) (aC (.int 11))) (aC (.int 2147483647))) (gaName 1)))
  (aRet (aCell (aLst (aCons (aCell (aLstOf (aSeqQ (aVar 0)))) (aCons (aC (.int 0)) (aCons (aC (.int 0)) (aCons (aVar 1) aNil)))))))))
def s__law_begin : ASp := fun ds μ Q => ∃ ns : List Int, ds = [.frl (ns.map .int)] ∧ μ = [] ∧ ∀ c0 c1, Good c0 c1 → Q (.ref 1) [c0, c1]
theorem l__law_begin : ∀ ds μ Q, s__law_begin ds μ Q → ds.length = 1 := fun _ _ _ ⟨_, e, _⟩ => by rw [e]; rfl
theorem ints_lts (n : Nat) : ∀ l : List Int, A.lts n (l.map A.int) = true
  | [] => by simp [A.lts]
  | a :: l => by simp only [List.map_cons, A.lts, A.lt, ints_lts n l, Bool.and_self]
theorem fm_pos (a : Int) {b : Int} (h : 0 < b) : ∃ n : Nat, Int.fmod a b = (n : Nat) ∧ (n : Int) < b := by
  refine ⟨(Int.fmod a b).toNat, ?_, ?_⟩
  · rw [Int.fmod_eq_emod_of_nonneg _ (by omega), Int.toNat_of_nonneg (Int.emod_nonneg _ (by omega))]
  · rw [Int.fmod_eq_emod_of_nonneg _ (by omega), Int.toNat_of_nonneg (Int.emod_nonneg _ (by omega))]
    exact Int.emod_lt_of_pos _ h
theorem r__law_begin (ds : List A) (μ : Mem) (Q : AK) (h : s__law_begin ds μ Q) : ca__law_begin { nx := fun _ μ' => Ret μ Q .non μ', rt := Ret μ Q } (astart cn__law_begin.length ds) μ := by
  obtain ⟨ns, rfl, rfl, q⟩ := h
  refine ⟨fun i ρ μ' => (∃ (z : Nat) (x : Option A), ρ = [some (.frl (ns.map .int)), some (.int (z : Nat)), x]) ∧ μ' = [], ⟨⟨5, none, rfl⟩, rfl⟩, fun _ _ _ _ _ => trivial, ?_, ?_⟩
  · rintro i d _ _ hd ⟨⟨z, x, rfl⟩, rfl⟩
    obtain ⟨c, rfl⟩ : ∃ c, d = A.int c := by
      rw [List.getElem?_map] at hd
      cases e : ns[i]? with
      | none => rw [e] at hd; cases hd
      | some c => rw [e] at hd; exact ⟨c, (Option.some.inj hd).symm⟩
    walk_at "ev"
    obtain ⟨n, en, _⟩ := fm_pos ((z : Int) * 48271 + Int.fmod c 2147483629 + 11) (b := 2147483647) (by decide)
    exact ⟨.inr ⟨by decide, by decide⟩, by decide, by decide, ⟨n, _, by rw [en]⟩, trivial⟩
  · rintro _ _ ⟨⟨z, x, rfl⟩, rfl⟩
    walk_at "ev"
    refine ⟨by decide, .inl ⟨_, [], by simp, by simp, by simp [A.lt], fun k c e => .inr ?_, q _ _ ⟨ns, 0, 0, z, rfl, rfl⟩⟩⟩
    have e' : c = .lst (ns.map A.int) ∨ c = .lst [.ref 0, .int 0, .int 0, .int (z : Nat)] := by
      match k, e with
      | 0, e => exact .inl (Option.some.inj e).symm
      | 1, e => exact .inr (Option.some.inj e).symm
    rcases e' with rfl | rfl
    · exact ints_lts _ _
    · simp [Cell.lt, A.lts, A.lt]
def cn__law_take : List Str := ["d", "many", "small", "digit"]
def ca__law_take : ATS := (aSeq (aIfS (aAnd (aTest (aOp eqA (aOp ixA (aVar 0) (aC (.int 2))) (aC (.int 0)))) (aTest (aOp ltA (aOp ixA (aVar 0) (aC (.int 1))) (aLen (aOp ixA (aVar 0) (aC (.int 0))))))) (aSeq (aAsg (aAbs (aInt (aOp ixA (aOp ixA (aVar 0) (aC (.int 0))) (aOp ixA (aVar 0) (aC (.int 1)))))) (gaSub (aVar 0) (aC (.int 2))))
  (aSeq (aAsg (aOp addA (aOp ixA (aVar 0) (aC (.int 1))) (aC (.int 1))) (gaSub (aVar 0) (aC (.int 1))))
  (aIfS (aTest (aOp ltA (aOp ixA (aVar 0) (aC (.int 2))) (aOp powA (aC (.int 10)) (aC (.int 18))))) (aSeq (aAsg (aInt (aOp ixA (aVar 0) (aC (.int 2)))) (gaName 2))
  (aSeq (aAsg (aC (.int 0)) (gaSub (aVar 0) (aC (.int 2))))
  (aRet (aOp modA (aVar 2) (aVar 1))))) aNext))) aNext)
  (aSeq (aIfS (aTest (aOp gtA (aOp ixA (aVar 0) (aC (.int 2))) (aC (.int 0)))) (aSeq (aAsg (aOp modA (aInt (aOp ixA (aVar 0) (aC (.int 2)))) (aVar 1)) (gaName 3))
  (aSeq (aAsg (aOp fdivA (aInt (aOp ixA (aVar 0) (aC (.int 2)))) (aVar 1)) (gaSub (aVar 0) (aC (.int 2))))
  (aRet (aVar 3)))) aNext)
  (aSeq (aAsg (aOp modA (aInt (aOp addA (aOp mulA (aOp ixA (aVar 0) (aC (.int 3))) (aC (.int 69621))) (aC (.int 7)))) (aC (.int 2147483647))) (gaSub (aVar 0) (aC (.int 3))))
  (aRet (aOp modA (aInt (aOp fdivA (aOp ixA (aVar 0) (aC (.int 3))) (aC (.int 5)))) (aVar 1))))))
def s__law_take : ASp := fun ds μ Q => ∃ (m : Nat) (c0 c1 : Cell) (r : Mem), ds = [.ref 1, .int (m : Nat)] ∧ μ = c0 :: c1 :: r ∧ Good c0 c1 ∧ 1 ≤ m ∧ m < 2 ^ 29 ∧ ∀ (x : Nat) (c2 : Cell), x < m → Good c0 c2 → Q (.int (x : Nat)) (c0 :: c2 :: r)
theorem l__law_take : ∀ ds μ Q, s__law_take ds μ Q → ds.length = 2 := fun _ _ _ ⟨_, _, _, _, e, _⟩ => by rw [e]; rfl
theorem atI0 {x : A} {xs : List A} : atI (x :: xs) 0 = some x := atI_nat (j := 0) rfl
theorem atI1 {x y : A} {xs : List A} : atI (x :: y :: xs) 1 = some y := atI_nat (j := 1) rfl
theorem atI2 {x y z : A} {xs : List A} : atI (x :: y :: z :: xs) 2 = some z := atI_nat (j := 2) rfl
theorem atI3 {x y z w : A} {xs : List A} : atI (x :: y :: z :: w :: xs) 3 = some w := atI_nat (j := 3) rfl
theorem ixN41 : ixN 4 1 = some 1 := rfl
theorem ixN42 : ixN 4 2 = some 2 := rfl
theorem ixN43 : ixN 4 3 = some 3 := rfl
theorem good_ret {c0 c1 c2 : Cell} {r : Mem} {Q : AK} {x : Nat} (h : Good c0 c2) (q : Q (.int (x : Nat)) (c0 :: c2 :: r)) : Ret (c0 :: c1 :: r) Q (.int (x : Nat)) (c0 :: c2 :: r) := by
  refine .inl ⟨_, [], by simp, by simp, by simp [A.lt], fun k c e => ?_, q⟩
  match k, e with
  | 0, e => exact .inl e
  | 1, e =>
    right
    obtain ⟨ns, p, s, z, _, rfl⟩ := h
    cases e
    simp [Cell.lt, A.lts, A.lt]
  | k + 2, e => exact .inl e
theorem if_pow {b c : ATS} {D : AEnds} {k : Nat} {ρ' : AEnv} {μ : Mem} {xs : List A} {t i j : Int} (hm : μ[k]? = some (.lst xs)) (hx : atI xs 2 = some (.int t)) (hc : CPow i j) (hb : b D (some (.ref k) :: ρ') μ) (hd : c D (some (.ref k) :: ρ') μ) :
    (aIfS (aTest (aOp ltA (aOp ixA (aVar 0) (aC (.int 2))) (aOp powA (aC (.int i)) (aC (.int j))))) b c) D (some (.ref k) :: ρ') μ := by
  have key : ∀ Q : AK, Q (.int t) μ → ixA (.ref k) (.int 2) μ Q := fun Q q => by
    unfold ixA
    dsimp only
    rw [hm]
    exact ⟨_, hx, q⟩
  simp only [aIfS, aTest, aOp, aVar, aC, List.getElem?_cons_zero]
  refine key _ ?_
  refine ⟨hc, ?_⟩
  show (if decide (t < i ^ j.toNat) = true then _ else _)
  split
  · exact hb
  · exact hd
def tk1 : ATS := (aIfS (aAnd (aTest (aOp eqA (aOp ixA (aVar 0) (aC (.int 2))) (aC (.int 0)))) (aTest (aOp ltA (aOp ixA (aVar 0) (aC (.int 1))) (aLen (aOp ixA (aVar 0) (aC (.int 0))))))) (aSeq (aAsg (aAbs (aInt (aOp ixA (aOp ixA (aVar 0) (aC (.int 0))) (aOp ixA (aVar 0) (aC (.int 1)))))) (gaSub (aVar 0) (aC (.int 2))))
  (aSeq (aAsg (aOp addA (aOp ixA (aVar 0) (aC (.int 1))) (aC (.int 1))) (gaSub (aVar 0) (aC (.int 1))))
  (aIfS (aTest (aOp ltA (aOp ixA (aVar 0) (aC (.int 2))) (aOp powA (aC (.int 10)) (aC (.int 18))))) (aSeq (aAsg (aInt (aOp ixA (aVar 0) (aC (.int 2)))) (gaName 2))
  (aSeq (aAsg (aC (.int 0)) (gaSub (aVar 0) (aC (.int 2))))
  (aRet (aOp modA (aVar 2) (aVar 1))))) aNext))) aNext)
def tk2 : ATS := (aSeq (aIfS (aTest (aOp gtA (aOp ixA (aVar 0) (aC (.int 2))) (aC (.int 0)))) (aSeq (aAsg (aOp modA (aInt (aOp ixA (aVar 0) (aC (.int 2)))) (aVar 1)) (gaName 3))
  (aSeq (aAsg (aOp fdivA (aInt (aOp ixA (aVar 0) (aC (.int 2)))) (aVar 1)) (gaSub (aVar 0) (aC (.int 2))))
  (aRet (aVar 3)))) aNext)
  (aSeq (aAsg (aOp modA (aInt (aOp addA (aOp mulA (aOp ixA (aVar 0) (aC (.int 3))) (aC (.int 69621))) (aC (.int 7)))) (aC (.int 2147483647))) (gaSub (aVar 0) (aC (.int 3))))
  (aRet (aOp modA (aInt (aOp fdivA (aOp ixA (aVar 0) (aC (.int 3))) (aC (.int 5)))) (aVar 1)))))
def tkm (ns : List Int) (p s z : Nat) (r : Mem) : Mem := .lst (ns.map A.int) :: .lst [.ref 0, .int (p : Nat), .int (s : Nat), .int (z : Nat)] :: r
theorem tk1_ok {D : AEnds} {m : Nat} {ns : List Int} {r : Mem} (hm : 1 ≤ m)
    (fin : ∀ (x p s z : Nat), x < m → D.rt (.int (x : Nat)) (tkm ns p s z r))
    (nx : ∀ (p s z : Nat), D.nx [some (.ref 1), some (.int (m : Nat)), none, none] (tkm ns p s z r)) (p s z : Nat) :
    tk1 D [some (.ref 1), some (.int (m : Nat)), none, none] (tkm ns p s z r) := by
  have hmi : (m : Int) ≠ 0 := by omega
  refine ⟨.int (s : Nat), rfl, ?_⟩
  show (if ((s : Int) == 0) = true then _ else (if false = true then _ else _))
  by_cases hs : ((s : Int) == 0) = true
  · rw [if_pos hs]
    refine ⟨.int (p : Nat), rfl, .ref 0, rfl, (ns.map A.int).length, rfl, ?_⟩
    show (if decide ((p : Int) < ((ns.map A.int).length : Int)) = true then _ else _)
    by_cases hp : (p : Int) < ((ns.map A.int).length : Int)
    · rw [if_pos (by simpa using hp)]
      have hp' : p < ns.length := by rw [List.length_map] at hp; omega
      have hat : atI (ns.map A.int) (p : Int) = some (.int ns[p]) := atI_nat (by rw [List.getElem?_map, List.getElem?_eq_getElem hp']; rfl)
      refine ⟨.ref 0, rfl, .int (p : Nat), rfl, .int ns[p], hat, 2, rfl, ?_⟩
      have ea : (if ns[p] < 0 then -ns[p] else ns[p]) = ((ns[p].natAbs : Nat) : Int) := by split <;> omega
      show aSeq _ _ _ _ (Cell.lst (ns.map A.int) :: Cell.lst [.ref 0, .int (p : Nat), .int (if ns[p] < 0 then -ns[p] else ns[p]), .int (z : Nat)] :: r)
      rw [ea]
      generalize ns[p].natAbs = t
      refine ⟨.int (p : Nat), rfl, 1, rfl, ?_⟩
      rw [show ((p : Int) + 1) = ((p + 1 : Nat) : Int) from rfl]
      dsimp only
      refine if_pow (k := 1) (i := 10) (j := 18) (t := (t : Nat)) (xs := [.ref 0, .int ((p + 1 : Nat) : Int), .int (t : Nat), .int (z : Nat)]) (by rfl) (by rfl) ⟨by decide, by decide, by decide⟩ ?_ ?_
      · refine ⟨.int (t : Nat), rfl, 2, rfl, hmi, ?_⟩
        show D.rt (.int (Int.fmod (t : Int) (m : Int))) _
        rw [fm_nn]
        exact fin _ (p + 1) 0 z (Nat.mod_lt _ (by omega))
      · exact nx (p + 1) t z
    · rw [if_neg (by simpa using hp)]
      exact nx p s z
  · rw [if_neg hs]
    exact nx p s z
theorem tk2_ok {D : AEnds} {m : Nat} {ns : List Int} {r : Mem} (hm : 1 ≤ m) (hm2 : m < 2 ^ 29)
    (fin : ∀ (x p s z : Nat), x < m → D.rt (.int (x : Nat)) (tkm ns p s z r)) (p s z : Nat) :
    tk2 D [some (.ref 1), some (.int (m : Nat)), none, none] (tkm ns p s z r) := by
  have hmi : (m : Int) ≠ 0 := by omega
  have hmi' : (0 : Int) < m := by omega
  refine ⟨.int (s : Nat), rfl, ?_⟩
  show (if decide (0 < (s : Int)) = true then _ else _)
  by_cases hs : 0 < (s : Int)
  · rw [if_pos (by simpa using hs)]
    refine ⟨.int (s : Nat), rfl, hmi, .int (s : Nat), rfl, ⟨by omega, by omega⟩, 2, rfl, ?_⟩
    show D.rt (.int (Int.fmod (s : Int) (m : Int))) (.lst (ns.map A.int) :: .lst [.ref 0, .int (p : Nat), .int (Int.fdiv (s : Int) (m : Int)), .int (z : Nat)] :: r)
    rw [fd_nn, fm_nn]
    exact fin _ _ _ _ (Nat.mod_lt _ (by omega))
  · rw [if_neg (by simpa using hs)]
    refine ⟨.int (z : Nat), rfl, .inr ⟨by decide, by decide⟩, by show (2147483647:Int) ≠ 0; decide, 3, rfl, ?_⟩
    obtain ⟨n, en, _⟩ := fm_pos ((z : Int) * 69621 + 7) (b := 2147483647) (by decide)
    refine ⟨.int (n : Nat), by rw [← en]; rfl, ⟨by decide, by decide⟩, hmi, ?_⟩
    show D.rt (.int (Int.fmod (Int.fdiv (n : Int) ((5 : Nat) : Int)) (m : Int))) (.lst (ns.map A.int) :: .lst [.ref 0, .int (p : Nat), .int (s : Nat), .int (Int.fmod ((z : Int) * 69621 + 7) 2147483647)] :: r)
    rw [fd_nn, fm_nn, en]
    exact fin _ _ _ _ (Nat.mod_lt _ (by omega))
theorem r__law_take (ds : List A) (μ : Mem) (Q : AK) (h : s__law_take ds μ Q) : ca__law_take { nx := fun _ μ' => Ret μ Q .non μ', rt := Ret μ Q } (astart cn__law_take.length ds) μ := by
  obtain ⟨m, c0, c1, r, rfl, rfl, ⟨ns, p, s, z, rfl, rfl⟩, h1, hm, q⟩ := h
  have fin : ∀ (x p' s' z' : Nat), x < m → Ret (tkm ns p s z r) Q (.int (x : Nat)) (tkm ns p' s' z' r) := fun x p' s' z' hx => by
    have g : Good (.lst (ns.map A.int)) (.lst [.ref 0, .int (p' : Nat), .int (s' : Nat), .int (z' : Nat)]) := ⟨ns, p', s', z', rfl, rfl⟩
    exact good_ret g (q x _ hx g)
  exact tk1_ok (D := { nx := fun ρ' μ' => tk2 { nx := fun _ μ' => Ret (tkm ns p s z r) Q .non μ', rt := Ret (tkm ns p s z r) Q } ρ' μ', rt := Ret (tkm ns p s z r) Q }) h1 fin (fun p' s' z' => tk2_ok h1 hm fin p' s' z') p s z
/-- an item of a menu -/
def cn__law_pick : List Str := ["d", "menu"]
def ca__law_pick : ATS := (aRet (aOp ixA (aVar 1) (aCall s__law_take (aCons (aVar 0) (aCons (aLen (aVar 1)) aNil)))))
def s__law_pick : ASp := fun ds μ Q => ∃ (k : Nat) (xs : List A) (c0 c1 : Cell) (r : Mem), ds = [.ref 1, .ref (k + 2)] ∧ μ = c0 :: c1 :: r ∧ r[k]? = some (.lst xs) ∧ Good c0 c1 ∧ 1 ≤ xs.length ∧ xs.length < 2 ^ 29 ∧ A.lts (r.length + 2) xs = true ∧ ∀ (x : A) (c2 : Cell), x ∈ xs → Good c0 c2 → Q x (c0 :: c2 :: r)
theorem l__law_pick : ∀ ds μ Q, s__law_pick ds μ Q → ds.length = 2 := fun _ _ _ ⟨_, _, _, _, _, e, _⟩ => by rw [e]; rfl
theorem lts_mem {n : Nat} : ∀ {xs : List A} {x : A}, A.lts n xs = true → x ∈ xs → x.lt n = true
  | y :: xs, x, h, m => by
    simp only [A.lts, Bool.and_eq_true] at h
    rcases List.mem_cons.mp m with rfl | m
    · exact h.1
    · exact lts_mem h.2 m
theorem good_keep {c0 c1 c2 : Cell} {r : Mem} (h : Good c0 c2) : KeepC (c0 :: c1 :: r) (c0 :: c2 :: r) := fun k c e => by
  match k, e with
  | 0, e => exact .inl e
  | 1, e =>
    right
    obtain ⟨ns, p, s, z, _, rfl⟩ := h
    cases e
    simp [Cell.lt, A.lts, A.lt]
  | k + 2, e => exact .inl e
theorem r__law_pick (ds : List A) (μ : Mem) (Q : AK) (h : s__law_pick ds μ Q) : ca__law_pick { nx := fun _ μ' => Ret μ Q .non μ', rt := Ret μ Q } (astart cn__law_pick.length ds) μ := by
  obtain ⟨k, xs, c0, c1, r, rfl, rfl, hk, g, h1, h2, hlt, q⟩ := h
  have e1 : (c0 :: c1 :: r)[k + 2]? = some (.lst xs) := hk
  refine ⟨xs.length, ?_, xs.length, c0, c1, r, rfl, rfl, g, h1, h2, fun x c2 hx g2 => ?_⟩
  · show (match (c0 :: c1 :: r)[k + 2]? with
      | some (.lst xs) => some xs.length
      | some (.dk kvs) => some kvs.length
      | _ => none) = _
    rw [e1]
  · have e2 : (c0 :: c2 :: r)[k + 2]? = some (.lst xs) := hk
    show ixA (.ref (k + 2)) (.int (x : Nat)) (c0 :: c2 :: r) _
    unfold ixA
    dsimp only
    rw [e2]
    refine ⟨xs[x], atI_nat (List.getElem?_eq_getElem hx), .inl ⟨_, [], by simp, by simp, lts_mem (by simpa using hlt) (List.getElem_mem hx), good_keep g2, q _ _ (List.getElem_mem hx) g2⟩⟩
end XL
end

/-! K26: what each def promises. -/
namespace K26
open PySem PySem.Spec PyProof.Rows L2 XL
/-! ### papers, plainly -/
def un (sets : List Nat) (W : List Nat) : Nat := W.foldl (fun u k => u ||| (sets[k]?).getD 0) 0
def SDR (sets xs : List Nat) : Prop := xs.length = sets.length ∧ xs.Nodup ∧ ∀ (k x s : Nat), xs[k]? = some x → sets[k]? = some s → s.testBit x = true
def Viol (sets W : List Nat) : Prop := W.Nodup ∧ (∀ w, w ∈ W → w < sets.length) ∧ (mem (un sets W)).length < W.length
def PaperOk (sets : List Nat) (t : A) : Prop := (∃ xs, t = .tup [.str "items", tN xs] ∧ SDR sets xs ∧ ∀ x, x ∈ xs → x < 6) ∨ ∃ W, t = .tup [.str "few", tN W] ∧ Viol sets W
/-- small sets -/
def Sm (sets : List Nat) : Prop := sets.length ≤ 6 ∧ ∀ s, s ∈ sets → s < 2 ^ 6
def nats : List A → Option (List Nat)
  | [] => some []
  | .int i :: r => if 0 ≤ i then (nats r).map (i.toNat :: ·) else none
  | _ :: _ => none
def isS (s : Str) : A → Bool
  | .str z => z == s
  | _ => false
def judgeR (n : Nat) (sets : List Nat) (h : A) (r : List Nat) : Bool :=
  if r.Nodup then
    if isS "items" h then decide (r.length = sets.length) && (r.zip sets).all fun p => decide (p.1 < n) && p.2.testBit p.1
    else if isS "few" h then (r.all fun k => decide (k < sets.length)) && decide ((mem (un sets r)).length < r.length)
    else false
  else false
def judge (n : Nat) (sets : List Nat) : A → Bool
  | .tup [h, .tup row] => match nats row with
    | some r => judgeR n sets h r
    | none => false
  | _ => false
/-! ### data that are told -/
def leaf : A → Prop
  | .non => True
  | .bl _ => True
  | .int i => -1000 ≤ i ∧ i ≤ 1000
  | .str s => PyData.strOk s = true
  | _ => False
def OutD : Nat → A → Prop
  | 0, t => leaf t
  | d + 1, t => leaf t ∨ ∃ xs, t = .tup xs ∧ xs.length ≤ 20 ∧ ∀ x, x ∈ xs → OutD d x
def InL : A → Prop
  | .int i => 0 ≤ i ∧ i ≤ 100
  | .str s => PyData.strOk s = true
  | _ => False
def InD : Nat → A → Prop
  | 0, t => InL t
  | d + 1, t => InL t ∨ ∃ xs, t = .tup xs ∧ xs.length ≤ 6 ∧ ∀ x, x ∈ xs → InD d x
/-! ### find_item -/
abbrev Mat := List (Nat × Nat)
def dN (M : Mat) : List (Key × A) := M.map fun (p : Nat × Nat) => (.inl (p.1 : Int), .int (p.2 : Nat))
def dS (S : List Nat) : List (Key × A) := S.map fun (i : Nat) => (.inl (i : Int), .bl true)
def Sn (S : List Nat) : Prop := S.Nodup ∧ ∀ i, i ∈ S → i < 6
structure MOk (sets : List Nat) (M : Mat) : Prop where
  sn : Sn (M.map (·.1))
  ok : ∀ i a, M.lookup i = some a → ∃ s, sets[a]? = some s ∧ s.testBit i = true
structure Pre (sets : List Nat) (M : Mat) (S : List Nat) (at_ : Nat) : Prop where
  m : MOk sets M
  sn : Sn S
  inj : ∀ i j a, M.lookup i = some a → M.lookup j = some a → i = j
  hold : ∀ i, M.lookup i = some at_ → i ∈ S
structure Succ (sets : List Nat) (M : Mat) (S : List Nat) (at_ : Nat) (M' : Mat) : Prop where
  m : MOk sets M'
  same : ∀ i, i ∈ S → M'.lookup i = M.lookup i
  up : ∃ i1, i1 ∉ S ∧ M'.lookup i1 = some at_ ∧ (∀ i j a, i ≠ i1 → j ≠ i1 → M'.lookup i = some a → M'.lookup j = some a → i = j) ∧ ∀ i a, i ≠ i1 → M'.lookup i = some a → ∃ j, M.lookup j = some a
  cov : ∀ j a, M.lookup j = some a → ∃ i, M'.lookup i = some a
structure Fail (sets : List Nat) (M : Mat) (S : List Nat) (at_ : Nat) (S' : List Nat) : Prop where
  sn : Sn S'
  sub : ∀ i, i ∈ S → i ∈ S'
  all : ∀ s i, sets[at_]? = some s → s.testBit i = true → i ∈ S'
  cl : ∀ x, x ∈ S' → x ∉ S → ∃ a s, M.lookup x = some a ∧ sets[a]? = some s ∧ ∀ i, s.testBit i = true → i ∈ S'
def s_find_item (m : Nat) : ASp := fun ds μ Q => ∃ (sets : List Nat) (at_ km ks : Nat) (M : Mat) (S : List Nat), ds = [tN sets, .int (at_ : Nat), .ref km, .ref ks] ∧ km ≠ ks ∧ μ[km]? = some (.dk (dN M)) ∧ μ[ks]? = some (.dk (dS S)) ∧
  Sm sets ∧ at_ < sets.length ∧ Pre sets M S at_ ∧ 7 ≤ m + S.length ∧ (∀ S', Fail sets M S at_ S' → Q (.bl false) (μ.set ks (.dk (dS S')))) ∧
  ∀ M' S', Succ sets M S at_ M' → Sn S' → Q (.bl true) ((μ.set km (.dk (dN M'))).set ks (.dk (dS S')))
theorem l_find_item (m : Nat) : ∀ ds μ Q, s_find_item m ds μ Q → ds.length = 4 := fun _ _ _ ⟨_, _, _, _, _, _, e, _⟩ => by rw [e]; rfl
theorem sub_len {α : Type} [DecidableEq α] : ∀ {l m : List α}, l.Nodup → (∀ i, i ∈ l → i ∈ m) → l.length ≤ m.length
  | [], _, _, _ => Nat.zero_le _
  | a :: l, m, h, hs => by
    rw [List.nodup_cons] at h
    have ha := hs a List.mem_cons_self
    have := sub_len (l := l) (m := m.erase a) h.2 fun i hi => by
      have hne : i ≠ a := fun e => h.1 (e ▸ hi)
      exact (List.mem_erase_of_ne hne).mpr (hs i (List.mem_cons_of_mem _ hi))
    rw [List.length_erase_of_mem ha] at this
    have : 0 < m.length := List.length_pos_of_mem ha
    rw [List.length_cons]; omega
theorem Sn.len {S : List Nat} (h : Sn S) : S.length ≤ 6 := by
  have := sub_len (m := List.range 6) h.1 fun i hi => List.mem_range.mpr (h.2 i hi)
  rw [List.length_range] at this
  exact this
theorem z_find_item : ∀ ds μ Q, ¬ s_find_item 0 ds μ Q := fun _ _ _ ⟨_, _, _, _, _, _, _, _, _, _, _, _, p, h, _⟩ => by
  have := p.sn.len
  omega
def s_find_itemT : ASp := s_find_item 7
theorem i_find_item : ∀ ds μ Q, s_find_itemT ds μ Q → s_find_item 8 ds μ Q := fun _ _ _ ⟨sets, at_, km, ks, M, S, h1, h2, h3, h4, h5, h6, h7, h8, h9⟩ => ⟨sets, at_, km, ks, M, S, h1, h2, h3, h4, h5, h6, h7, by omega, h9⟩
/-! ### the others -/
def s_hall_paper : ASp := fun ds μ Q => ∃ (n : Nat) (sets : List Nat), ds = [.int (n : Nat), tN sets] ∧ Sm sets ∧ ∀ t, PaperOk sets t → Q t μ
theorem l_hall_paper : ∀ ds μ Q, s_hall_paper ds μ Q → ds.length = 2 := fun _ _ _ ⟨_, _, e, _⟩ => by rw [e]; rfl
def s_takes_hall : ASp := fun ds μ Q => ∃ (n : Nat) (sets : List Nat) (t : A), ds = [.int (n : Nat), tN sets, t] ∧ n ≤ 6 ∧ Sm sets ∧ OutD 3 t ∧ Q (.bl (judge n sets t)) μ
theorem l_takes_hall : ∀ ds μ Q, s_takes_hall ds μ Q → ds.length = 3 := fun _ _ _ ⟨_, _, _, e, _⟩ => by rw [e]; rfl
def s__law_int : ASp := s_is_integer
theorem l__law_int : ∀ ds μ Q, s__law_int ds μ Q → ds.length = 1 := l_is_integer
def s__law_right : ASp := s_takes_hall
theorem l__law_right : ∀ ds μ Q, s__law_right ds μ Q → ds.length = 3 := l_takes_hall
def s__law_spoil (m : Nat) : ASp := fun ds μ Q => ∃ (d : Nat) (t : A) (c0 c1 : Cell) (r : Mem), ds = [.ref 1, t] ∧ μ = c0 :: c1 :: r ∧ Good c0 c1 ∧ d < m ∧ InD d t ∧ ∀ t' c2, OutD (d + 1) t' → Good c0 c2 → Q t' (c0 :: c2 :: r)
theorem l__law_spoil (m : Nat) : ∀ ds μ Q, s__law_spoil m ds μ Q → ds.length = 2 := fun _ _ _ ⟨_, _, _, _, _, e, _⟩ => by rw [e]; rfl
theorem z__law_spoil : ∀ ds μ Q, ¬ s__law_spoil 0 ds μ Q := fun _ _ _ ⟨_, _, _, _, _, _, _, _, h, _⟩ => by omega
def s__law_spoilT : ASp := s__law_spoil 3
theorem i__law_spoil : ∀ ds μ Q, s__law_spoilT ds μ Q → s__law_spoil 6 ds μ Q := fun _ _ _ ⟨d, t, c0, c1, r, h1, h2, h3, h4, h5⟩ => ⟨d, t, c0, c1, r, h1, h2, h3, by omega, h5⟩
def itemsB : List Nat → List Nat → Bool
  | [], _ => true
  | s :: r, u => (mem s).any fun x => !u.contains x && itemsB r (u ++ [x])
def s__law_items (m : Nat) : ASp := fun ds μ Q => ∃ (sets u : List Nat) (k : Nat), ds = [tN sets, .ref k] ∧ μ[k]? = some (.lst (iN u)) ∧ sets.length < m ∧ (∀ s, s ∈ sets → s < 2 ^ 6) ∧ u.length + sets.length ≤ 100 ∧ Q (.bl (itemsB sets u)) μ
theorem l__law_items (m : Nat) : ∀ ds μ Q, s__law_items m ds μ Q → ds.length = 2 := fun _ _ _ ⟨_, _, _, e, _⟩ => by rw [e]; rfl
theorem z__law_items : ∀ ds μ Q, ¬ s__law_items 0 ds μ Q := fun _ _ _ ⟨_, _, _, _, _, h, _⟩ => by omega
def s__law_itemsT : ASp := s__law_items 7
theorem i__law_items : ∀ ds μ Q, s__law_itemsT ds μ Q → s__law_items 8 ds μ Q := fun _ _ _ ⟨sets, u, k, h1, h2, h3, h4⟩ => ⟨sets, u, k, h1, h2, by omega, h4⟩
def s_law : ASp := fun ds μ Q => ∃ ns : List Int, ds = [.frl (ns.map .int)] ∧ μ = [] ∧ ∀ μ', Q (.bl true) μ'
theorem l_law : ∀ ds μ Q, s_law ds μ Q → ds.length = 1 := fun _ _ _ ⟨_, e, _⟩ => by rw [e]; rfl
theorem law_in {ns : List Int} (hl : ns.length ≤ 63) {Q : AK} (q : ∀ μ', Q (.bl true) μ') : s_law [.frl (ns.map .int)] [] Q := ⟨ns, rfl, rfl, q⟩
end K26

namespace K26
open PySem PySem.Spec PyProof.Rows L2 XL
def n_is_integer : List Str := ["value"]
def a_is_integer : ATS := (aRet (aAndV (aIsi (aVar 0) "int") (aNotV (aIsi (aVar 0) "bool"))))
def n_has : List Str := ["bits", "number"]
def a_has : ATS := (aRet (aOp eqA (aOp andA (aOp shrA (aVar 0) (aVar 1)) (aC (.int 1))) (aC (.int 1))))
def n_members : List Str := ["bits", "found", "number"]
def a_members : ATS := (aSeq (aAsg (aCell (aLst aNil)) (gaName 1))
  (aSeq (aAsg (aC (.int 0)) (gaName 2))
  (aSeq (aWhile (aTest (aOp gtA (aVar 0) (aC (.int 0)))) (aSeq (aIfS (aTest (aOp eqA (aOp andA (aVar 0) (aC (.int 1))) (aC (.int 1)))) (aExpr (aApp (aVar 1) (aVar 2))) aNext)
  (aSeq (aAsg (aOp shrA (aVar 0) (aC (.int 1))) (gaName 0))
  (aAug 2 (aC (.int 1)) (intA0 (· + ·))))))
  (aRet (aTupOf (aSeqQ (aVar 1)))))))
def n_count : List Str := ["bits", "found"]
def a_count : ATS := (aSeq (aAsg (aC (.int 0)) (gaName 1))
  (aSeq (aWhile (aTest (aOp gtA (aVar 0) (aC (.int 0)))) (aSeq (aAug 1 (aOp andA (aVar 0) (aC (.int 1))) (intA0 (· + ·)))
  (aAsg (aOp shrA (aVar 0) (aC (.int 1))) (gaName 0))))
  (aRet (aVar 1))))
def n_hall_paper : List Str := ["many", "sets", "matched", "at", "seen", "back", "item"]
def a_hall_paper : ATS := (aSeq (aAsg (aDCell aDNew) (gaName 2))
  (aSeq (aFor (aRange1 (aLen (aVar 1))) (gaName 3) (aSeq (aAsg (aDCell aDNew) (gaName 4))
  (aIfS (aNot (aTru (aCall s_find_itemT (aCons (aVar 1) (aCons (aVar 3) (aCons (aVar 2) (aCons (aVar 4) aNil))))))) (aRet (aTup (aCons (aC (.str "few")) (aCons (aTupOf (aSortedD (aDMerge (aVar 3) (aC (.bl true)) (aLockE 4 (aDc (aKeysI (aVar 4)) (gcName 6) aYes (aOp ixA (aVar 2) (aVar 6)) (aC (.bl true)) [6]))))) aNil)))) aNext)))
  (aSeq (aAsg (aDCell (aLockE 2 (aDc (aKeysI (aVar 2)) (gcName 6) aYes (aOp ixA (aVar 2) (aVar 6)) (aVar 6) [6]))) (gaName 5))
  (aRet (aTup (aCons (aC (.str "items")) (aCons (aTupOf (aLc (aRange1 (aLen (aVar 1))) (gcName 3) aYes (aOp ixA (aVar 5) (aVar 3)) [3])) aNil)))))))
def n_find_item : List Str := ["sets", "at", "matched", "seen", "item"]
def a_find_item (r_find_item : ASp) : ATS := (aSeq (aFor (aSeqI (aCall s_members (aCons (aOp ixA (aVar 0) (aVar 1)) aNil))) (gaName 4) (aIfS (aTest (aOp (inA true) (aVar 4) (aVar 3))) (aSeq (aAsg (aC (.bl true)) (gaSub (aVar 3) (aVar 4)))
  (aIfS (aOr (aTest (aOp (inA true) (aVar 4) (aVar 2))) (aTru (aCall r_find_item (aCons (aVar 0) (aCons (aOp ixA (aVar 2) (aVar 4)) (aCons (aVar 2) (aCons (aVar 3) aNil))))))) (aSeq (aAsg (aVar 1) (gaSub (aVar 2) (aVar 4)))
  (aRet (aC (.bl true)))) aNext)) aNext))
  (aRet (aC (.bl false))))
def n_takes_hall : List Str := ["many", "sets", "paper", "union", "at", "each", "item"]
def a_takes_hall : ATS := (aSeq (aIfS (aOr (aNot (aTru (aIsi (aVar 2) "tuple"))) (aOr (aTest (aOp neA (aLen (aVar 2)) (aC (.int 2)))) (aNot (aTru (aIsi (aOp ixA (aVar 2) (aC (.int 1))) "tuple"))))) (aRet (aC (.bl false))) aNext)
  (aSeq (aIfS (aTru (aAny (aLc (aSeqI (aOp ixA (aVar 2) (aC (.int 1)))) (gcName 5) aYes (aOrV (aNotV (aCall s_is_integer (aCons (aVar 5) aNil))) (aOp ltA (aVar 5) (aC (.int 0)))) [5]))) (aRet (aC (.bl false))) aNext)
  (aSeq (aIfS (aTest (aOp neA (aLenD (aDc (aSeqI (aOp ixA (aVar 2) (aC (.int 1)))) (gcName 5) aYes (aVar 5) (aC (.bl true)) [5])) (aLen (aOp ixA (aVar 2) (aC (.int 1)))))) (aRet (aC (.bl false))) aNext)
  (aSeq (aIfS (aTest (aOp eqA (aOp ixA (aVar 2) (aC (.int 0))) (aC (.str "items")))) (aSeq (aIfS (aTest (aOp neA (aLen (aOp ixA (aVar 2) (aC (.int 1)))) (aLen (aVar 1)))) (aRet (aC (.bl false))) aNext)
  (aRet (aAll (aLc (aZip (aOp ixA (aVar 2) (aC (.int 1))) (aVar 1)) (gcTup2 6 5) aYes (aAndV (aOp ltA (aVar 6) (aVar 0)) (aCall s_has (aCons (aVar 5) (aCons (aVar 6) aNil)))) [6, 5])))) aNext)
  (aSeq (aIfS (aOr (aTest (aOp neA (aOp ixA (aVar 2) (aC (.int 0))) (aC (.str "few")))) (aTru (aAny (aLc (aSeqI (aOp ixA (aVar 2) (aC (.int 1)))) (gcName 4) aYes (aOp geA (aVar 4) (aLen (aVar 1))) [4])))) (aRet (aC (.bl false))) aNext)
  (aSeq (aAsg (aC (.int 0)) (gaName 3))
  (aSeq (aFor (aSeqI (aOp ixA (aVar 2) (aC (.int 1)))) (gaName 4) (aAsg (aOp orA (aVar 3) (aOp ixA (aVar 1) (aVar 4))) (gaName 3)))
  (aRet (aOp ltA (aCall s_count (aCons (aVar 3) aNil)) (aLen (aOp ixA (aVar 2) (aC (.int 1)))))))))))))
def n__law_int : List Str := ["x"]
def a__law_int : ATS := (aRet (aAndV (aIsi (aVar 0) "int") (aNotV (aIsi (aVar 0) "bool"))))
def n__law_bit : List Str := ["x", "found", "k"]
def a__law_bit : ATS := (aSeq (aAsg (aC (.int 1)) (gaName 1))
  (aSeq (aFor (aRange1 (aVar 0)) (gaName 2) (aAsg (aOp mulA (aC (.int 2)) (aVar 1)) (gaName 1)))
  (aRet (aVar 1))))
def n__law_has : List Str := ["bits", "x"]
def a__law_has : ATS := (aRet (aOp eqA (aOp modA (aInt (aOp fdivA (aVar 0) (aCall s__law_bit (aCons (aVar 1) aNil)))) (aC (.int 2))) (aC (.int 1))))
def n__law_members : List Str := ["bits", "found", "x"]
def a__law_members : ATS := (aSeq (aAsg (aCell (aLst aNil)) (gaName 1))
  (aSeq (aAsg (aC (.int 0)) (gaName 2))
  (aSeq (aWhile (aTest (aOp gtA (aVar 0) (aC (.int 0)))) (aSeq (aIfS (aTest (aOp eqA (aOp modA (aInt (aVar 0)) (aC (.int 2))) (aC (.int 1)))) (aExpr (aApp (aVar 1) (aVar 2))) aNext)
  (aSeq (aAsg (aOp fdivA (aVar 0) (aC (.int 2))) (gaName 0))
  (aAsg (aOp addA (aVar 2) (aC (.int 1))) (gaName 2)))))
  (aRet (aTupOf (aSeqQ (aVar 1)))))))
def n__law_count : List Str := ["bits"]
def a__law_count : ATS := (aRet (aLen (aCall s__law_members (aCons (aVar 0) aNil))))
def n__law_begin : List Str := ["script", "seed", "cell"]
def a__law_begin : ATS := (aSeq (aAsg (aC (.int 5)) (gaName 1))
  (aSeq (aFor (aSeqI (aVar 0)) (gaName 2) (aAsg (aOp modA (aOp addA (aOp addA (aOp mulA (aVar 1) (aC (.int 48271))) (aOp modA (aInt (aVar 2)) (aC (.int 2147483629)))) (aC (.int 11))) (aC (.int 2147483647))) (gaName 1)))
  (aRet (aCell (aLst (aCons (aCell (aLstOf (aSeqQ (aVar 0)))) (aCons (aC (.int 0)) (aCons (aC (.int 0)) (aCons (aVar 1) aNil)))))))))
def n__law_take : List Str := ["d", "many", "small", "digit"]
def a__law_take : ATS := (aSeq (aIfS (aAnd (aTest (aOp eqA (aOp ixA (aVar 0) (aC (.int 2))) (aC (.int 0)))) (aTest (aOp ltA (aOp ixA (aVar 0) (aC (.int 1))) (aLen (aOp ixA (aVar 0) (aC (.int 0))))))) (aSeq (aAsg (aAbs (aInt (aOp ixA (aOp ixA (aVar 0) (aC (.int 0))) (aOp ixA (aVar 0) (aC (.int 1)))))) (gaSub (aVar 0) (aC (.int 2))))
  (aSeq (aAsg (aOp addA (aOp ixA (aVar 0) (aC (.int 1))) (aC (.int 1))) (gaSub (aVar 0) (aC (.int 1))))
  (aIfS (aTest (aOp ltA (aOp ixA (aVar 0) (aC (.int 2))) (aOp powA (aC (.int 10)) (aC (.int 18))))) (aSeq (aAsg (aInt (aOp ixA (aVar 0) (aC (.int 2)))) (gaName 2))
  (aSeq (aAsg (aC (.int 0)) (gaSub (aVar 0) (aC (.int 2))))
  (aRet (aOp modA (aVar 2) (aVar 1))))) aNext))) aNext)
  (aSeq (aIfS (aTest (aOp gtA (aOp ixA (aVar 0) (aC (.int 2))) (aC (.int 0)))) (aSeq (aAsg (aOp modA (aInt (aOp ixA (aVar 0) (aC (.int 2)))) (aVar 1)) (gaName 3))
  (aSeq (aAsg (aOp fdivA (aInt (aOp ixA (aVar 0) (aC (.int 2)))) (aVar 1)) (gaSub (aVar 0) (aC (.int 2))))
  (aRet (aVar 3)))) aNext)
  (aSeq (aAsg (aOp modA (aInt (aOp addA (aOp mulA (aOp ixA (aVar 0) (aC (.int 3))) (aC (.int 69621))) (aC (.int 7)))) (aC (.int 2147483647))) (gaSub (aVar 0) (aC (.int 3))))
  (aRet (aOp modA (aInt (aOp fdivA (aOp ixA (aVar 0) (aC (.int 3))) (aC (.int 5)))) (aVar 1))))))
def n__law_pick : List Str := ["d", "menu"]
def a__law_pick : ATS := (aRet (aOp ixA (aVar 1) (aCall s__law_take (aCons (aVar 0) (aCons (aLen (aVar 1)) aNil)))))
def n__law_spoil : List Str := ["d", "thing", "k", "menu", "j", "row"]
def a__law_spoil (r__law_spoil : ASp) : ATS := (aSeq (aIfS (aAnd (aTru (aIsi (aVar 1) "tuple")) (aAnd (aTest (aOp gtA (aLen (aVar 1)) (aC (.int 0)))) (aTest (aOp gtA (aCall s__law_take (aCons (aVar 0) (aCons (aC (.int 9)) aNil))) (aC (.int 0)))))) (aSeq (aAsg (aIf (aTest (aOp gtA (aCall s__law_take (aCons (aVar 0) (aCons (aC (.int 3)) aNil))) (aC (.int 0)))) (aCall s__law_take (aCons (aVar 0) (aCons (aLen (aVar 1)) aNil))) (aOp subA (aLen (aVar 1)) (aC (.int 1)))) (gaName 2))
  (aSeq (aAsg (aCall s__law_take (aCons (aVar 0) (aCons (aC (.int 12)) aNil))) (gaName 3))
  (aSeq (aIfS (aTest (aOp eqA (aVar 3) (aC (.int 0)))) (aRet (aOp addA (aSl (aVar 1) aNoPart (aPart (aVar 2))) (aSl (aVar 1) (aPart (aOp addA (aVar 2) (aC (.int 1)))) aNoPart))) aNext)
  (aSeq (aIfS (aTest (aOp eqA (aVar 3) (aC (.int 1)))) (aRet (aOp addA (aOp addA (aSl (aVar 1) aNoPart (aPart (aVar 2))) (aTup (aCons (aOp ixA (aVar 1) (aVar 2)) aNil))) (aSl (aVar 1) (aPart (aVar 2)) aNoPart))) aNext)
  (aSeq (aIfS (aTest (aOp eqA (aVar 3) (aC (.int 3)))) (aRet (aOp addA (aVar 1) (aOp mulA (aTup (aCons (aC (.int 0)) aNil)) (aOp addA (aC (.int 1)) (aCall s__law_take (aCons (aVar 0) (aCons (aC (.int 3)) aNil))))))) aNext)
  (aSeq (aIfS (aTest (aOp eqA (aVar 3) (aC (.int 2)))) (aSeq (aAsg (aCall s__law_take (aCons (aVar 0) (aCons (aLen (aVar 1)) aNil))) (gaName 4))
  (aSeq (aAsg (aCell (aLstOf (aSeqQ (aVar 1)))) (gaName 5))
  (aSeq (aAsg (aTup (aCons (aOp ixA (aVar 5) (aVar 2)) (aCons (aOp ixA (aVar 5) (aVar 4)) aNil))) (gaTup 2 (gaCons (gaSub (aVar 5) (aVar 4)) (gaCons (gaSub (aVar 5) (aVar 2)) gaNil))))
  (aRet (aTupOf (aSeqQ (aVar 5))))))) aNext)
  (aRet (aOp addA (aOp addA (aSl (aVar 1) aNoPart (aPart (aVar 2))) (aTup (aCons (aCall r__law_spoil (aCons (aVar 0) (aCons (aOp ixA (aVar 1) (aVar 2)) aNil))) aNil))) (aSl (aVar 1) (aPart (aOp addA (aVar 2) (aC (.int 1)))) aNoPart))))))))) aNext)
  (aSeq (aIfS (aOr (aTru (aIsi (aVar 1) "bool")) (aNot (aTru (aIsi (aVar 1) "int")))) (aRet (aCall s__law_pick (aCons (aVar 0) (aCons (aCell (aLst (aCons (aC .non) (aCons (aC (.int 0)) (aCons (aTup aNil) (aCons (aC (.str "gen")) (aCons (aC (.str "")) (aCons (aC (.bl true)) (aCons (aC (.str "in")) (aCons (aTup (aCons (aC (.str "one")) aNil)) aNil)))))))))) aNil)))) aNext)
  (aRet (aCall s__law_pick (aCons (aVar 0) (aCons (aCell (aLst (aCons (aOp addA (aVar 1) (aC (.int 1))) (aCons (aOp subA (aVar 1) (aC (.int 1))) (aCons (aC (.int 0)) (aCons (aOp subA (aC (.int 0)) (aC (.int 1))) (aCons (aC (.int 1)) (aCons (aOp addA (aVar 1) (aC (.int 2))) (aCons (aOp subA (aVar 1) (aC (.int 2))) (aCons (aC .non) (aCons (aTup aNil) (aCons (aOp mulA (aVar 1) (aC (.int 7))) (aCons (aC (.bl true)) (aCons (aC (.str "one")) aNil)))))))))))))) aNil))))))
def n__law_right : List Str := ["n", "sets", "paper", "row", "union", "k", "x"]
def a__law_right : ATS := (aSeq (aIfS (aOr (aNot (aTru (aIsi (aVar 2) "tuple"))) (aOr (aTest (aOp neA (aLen (aVar 2)) (aC (.int 2)))) (aNot (aTru (aIsi (aOp ixA (aVar 2) (aC (.int 1))) "tuple"))))) (aRet (aC (.bl false))) aNext)
  (aSeq (aAsg (aOp ixA (aVar 2) (aC (.int 1))) (gaName 3))
  (aSeq (aIfS (aOr (aNot (aTru (aAll (aLc (aSeqI (aVar 3)) (gcName 6) aYes (aAndV (aCall s__law_int (aCons (aVar 6) aNil)) (aOp geA (aVar 6) (aC (.int 0)))) [6])))) (aTest (aOp neA (aLenN (aSortedSet (aVar 3))) (aLen (aVar 3))))) (aRet (aC (.bl false))) aNext)
  (aSeq (aIfS (aTest (aOp eqA (aOp ixA (aVar 2) (aC (.int 0))) (aC (.str "items")))) (aRet (aAndV (aOp eqA (aLen (aVar 3)) (aLen (aVar 1))) (aAll (aLc (aRange1 (aLen (aVar 3))) (gcName 5) aYes (aAndV (aOp ltA (aOp ixA (aVar 3) (aVar 5)) (aVar 0)) (aCall s__law_has (aCons (aOp ixA (aVar 1) (aVar 5)) (aCons (aOp ixA (aVar 3) (aVar 5)) aNil)))) [5])))) aNext)
  (aSeq (aIfS (aOr (aTest (aOp neA (aOp ixA (aVar 2) (aC (.int 0))) (aC (.str "few")))) (aTru (aAny (aLc (aSeqI (aVar 3)) (gcName 5) aYes (aOp geA (aVar 5) (aLen (aVar 1))) [5])))) (aRet (aC (.bl false))) aNext)
  (aSeq (aAsg (aC (.int 0)) (gaName 4))
  (aSeq (aFor (aSeqI (aVar 3)) (gaName 5) (aAsg (aOp orA (aVar 4) (aOp ixA (aVar 1) (aVar 5))) (gaName 4)))
  (aRet (aOp ltA (aCall s__law_count (aCons (aVar 4) aNil)) (aLen (aVar 3)))))))))))
def n__law_items : List Str := ["sets", "used", "x"]
def a__law_items (r__law_items : ASp) : ATS := (aSeq (aIfS (aTest (aOp eqA (aLen (aVar 0)) (aC (.int 0)))) (aRet (aC (.bl true))) aNext)
  (aRet (aAny (aLc (aSeqI (aCall s__law_members (aCons (aOp ixA (aVar 0) (aC (.int 0))) aNil))) (gcName 2) aYes (aAndV (aOp (inA true) (aVar 2) (aVar 1)) (aCall r__law_items (aCons (aSl (aVar 0) (aPart (aC (.int 1))) aNoPart) (aCons (aOp addA (aVar 1) (aCell (aLst (aCons (aVar 2) aNil)))) aNil)))) [2]))))
def n_law : List Str := ["script", "d", "n", "sets", "paper", "good", "few", "b", "union", "k", "everything", "told"]
def a_law : ATS := (aSeq (aAsg (aCall s__law_begin (aCons (aVar 0) aNil)) (gaName 1))
  (aSeq (aAsg (aCall s__law_take (aCons (aVar 1) (aCons (aC (.int 7)) aNil))) (gaName 2))
  (aSeq (aAsg (aTupOf (aLc (aRange1 (aCall s__law_take (aCons (aVar 1) (aCons (aC (.int 7)) aNil)))) (gcName 9) aYes (aOp andA (aOp andA (aCall s__law_take (aCons (aVar 1) (aCons (aCall s__law_bit (aCons (aVar 2) aNil)) aNil))) (aOp orA (aCall s__law_take (aCons (aVar 1) (aCons (aCall s__law_bit (aCons (aVar 2) aNil)) aNil))) (aC (.int 1)))) (aOp subA (aCall s__law_bit (aCons (aVar 2) aNil)) (aC (.int 1)))) [9])) (gaName 3))
  (aSeq (aAsg (aCall s_hall_paper (aCons (aVar 2) (aCons (aVar 3) aNil))) (gaName 4))
  (aSeq (aAsg (aCall s__law_itemsT (aCons (aVar 3) (aCons (aCell (aLst aNil)) aNil))) (gaName 5))
  (aSeq (aIfS (aOr (aTest (aOp neA (aOp ixA (aVar 4) (aC (.int 0))) (aIf (aTru (aVar 5)) (aC (.str "items")) (aC (.str "few"))))) (aOr (aNot (aTru (aCall s__law_right (aCons (aVar 2) (aCons (aVar 3) (aCons (aVar 4) aNil)))))) (aTest (aOp notIsA (aCall s_takes_hall (aCons (aVar 2) (aCons (aVar 3) (aCons (aVar 4) aNil)))) (aC (.bl true)))))) (aRet (aC (.bl false))) aNext)
  (aSeq (aAsg (aC (.bl false)) (gaName 6))
  (aSeq (aFor (aRange1 (aCall s__law_bit (aCons (aLen (aVar 3)) aNil))) (gaName 7) (aSeq (aAsg (aC (.int 0)) (gaName 8))
  (aSeq (aFor (aSeqI (aCall s__law_members (aCons (aVar 7) aNil))) (gaName 9) (aAsg (aOp orA (aVar 8) (aOp ixA (aVar 3) (aVar 9))) (gaName 8)))
  (aAsg (aOrV (aVar 6) (aOp ltA (aCall s__law_count (aCons (aVar 8) aNil)) (aCall s__law_count (aCons (aVar 7) aNil)))) (gaName 6)))))
  (aSeq (aIfS (aTest (aOp eqA (aVar 6) (aVar 5))) (aRet (aC (.bl false))) aNext)
  (aSeq (aAsg (aTupRg (aLen (aVar 3))) (gaName 10))
  (aSeq (aFor (aSeqI (aOp addA (aCell (aLc (aRange1 (aC (.int 5))) (gcName 9) aYes (aCall s__law_spoilT (aCons (aVar 1) (aCons (aVar 4) aNil))) [9])) (aCell (aLst (aCons (aTup (aCons (aC (.str "few")) (aCons (aVar 10) aNil))) (aCons (aTup (aCons (aC (.str "items")) (aCons (aVar 10) aNil))) (aCons (aTup (aCons (aC (.str "few")) (aCons (aTup aNil) aNil))) (aCons (aTup (aCons (aC (.str "few")) (aCons (aRevT (aVar 10)) aNil))) (aCons (aTup (aCons (aC (.str "items")) (aCons (aTup aNil) aNil))) aNil))))))))) (gaName 11) (aIfS (aTest (aOp neA (aCall s_takes_hall (aCons (aVar 2) (aCons (aVar 3) (aCons (aVar 11) aNil)))) (aCall s__law_right (aCons (aVar 2) (aCons (aVar 3) (aCons (aVar 11) aNil)))))) (aRet (aC (.bl false))) aNext))
  (aRet (aC (.bl true))))))))))))))
end K26

section
/-! K26: plain facts. -/
local macro_rules | `(tactic| walk_at "st") => `(tactic| simp only [XL.aRet, XL.aOp, XL.aVar, XL.aC, XL.astart, XL.aSeq, XL.aAsg, XL.gaName, XL.gaSub,
  XL.aCell, XL.aLst, XL.aNil, XL.aCons, XL.aTup, XL.aTest, XL.aTru, XL.aIfS, XL.aNext, XL.aExpr, XL.aAug, XL.aCall, XL.aAnd, XL.aOr, XL.aNot, XL.aIf, XL.aAndV, XL.aOrV, XL.aNotV, XL.aAny, XL.aAll, XL.aYes, XL.gcName,
  List.map, List.length, List.replicate, List.cons_append, List.nil_append, List.append_nil, List.getElem?_cons_zero, List.getElem?_cons_succ, List.getElem?_nil, List.set_cons_zero, List.set_cons_succ, List.length_cons, List.length_nil, Bool.not_true, Bool.not_false, if_true, if_false, Bool.false_eq_true])
namespace XL
open PySem PySem.Spec PyProof.Rows L2
theorem set_same {μ : Mem} {k : Nat} {c : Cell} (h : μ[k]? = some c) : μ.set k c = μ := by
  obtain ⟨hk, e⟩ := List.getElem?_eq_some_iff.mp h
  rw [← e]; simp
theorem get_set {μ : Mem} {k : Nat} {c c' : Cell} (h : μ[k]? = some c') : (μ.set k c)[k]? = some c := by
  obtain ⟨hk, e⟩ := List.getElem?_eq_some_iff.mp h
  rw [List.getElem?_set_self hk]
theorem get_other {μ : Mem} {k j : Nat} {c : Cell} (h : k ≠ j) : (μ.set k c)[j]? = μ[j]? := List.getElem?_set_ne h
theorem inA_dk {neg : Bool} {x : A} {k : Nat} {μ : Mem} {Q : AK} {kvs : List (Key × A)} {key : Key} (e : μ[k]? = some (.dk kvs)) (hk : keyOf x = some key) (q : Q (.bl (neg != (lookK kvs key).isSome)) μ) : inA neg x (.ref k) μ Q := by
  unfold inA
  dsimp only
  rw [e]
  exact ⟨key, hk, q⟩
theorem ixA_dk {x d : A} {k : Nat} {μ : Mem} {Q : AK} {kvs : List (Key × A)} {key : Key} (e : μ[k]? = some (.dk kvs)) (hk : keyOf x = some key) (hl : lookK kvs key = some d) (q : Q d μ) : ixA (.ref k) x μ Q := by
  unfold ixA
  dsimp only
  rw [e]
  exact ⟨key, d, hk, hl, q⟩
theorem ixA_lk {x d : A} {k : Nat} {μ : Mem} {Q : AK} {o : Obj} {ws : List (Key × V)} {kvs : List (Key × A)} {key : Key} (e : μ[k]? = some (.lk o ws kvs)) (hk : keyOf x = some key) (hl : lookK kvs key = some d) (q : Q d μ) : ixA (.ref k) x μ Q := by
  unfold ixA
  dsimp only
  rw [e]
  exact ⟨key, d, hk, hl, q⟩
theorem ixA_tup {xs : List A} {i : Nat} {d : A} {μ : Mem} {Q : AK} (h : xs[i]? = some d) (q : Q d μ) : ixA (.tup xs) (.int (i : Nat)) μ Q := ⟨d, atI_nat h, q⟩
theorem ixA_lst {xs : List A} {i k : Nat} {d : A} {μ : Mem} {Q : AK} (e : μ[k]? = some (.lst xs)) (h : xs[i]? = some d) (q : Q d μ) : ixA (.ref k) (.int (i : Nat)) μ Q := by
  unfold ixA
  dsimp only
  rw [e]
  exact ⟨d, atI_nat h, q⟩
theorem setA_dk {x v : A} {k : Nat} {μ : Mem} {Q : Mem → Prop} {kvs : List (Key × A)} {key : Key} (e : μ[k]? = some (.dk kvs)) (hk : keyOf x = some key) (hl : kvs.length < sizeLine) (q : Q (μ.set k (.dk (putKA kvs key v)))) : setA (.ref k) x v μ Q := by
  unfold setA
  dsimp only
  rw [e]
  exact ⟨key, hk, hl, q⟩
theorem tN_get {l : List Nat} {i a : Nat} (h : l[i]? = some a) : (l.map fun i => A.int (i : Nat))[i]? = some (.int (a : Nat)) := by rw [List.getElem?_map, h]; rfl
theorem tN_inv {l : List Nat} {i : Nat} {d : A} (h : (l.map fun i => A.int (i : Nat))[i]? = some d) : ∃ a : Nat, l[i]? = some a ∧ d = .int (a : Nat) := by
  rw [List.getElem?_map] at h
  cases e : l[i]? with
  | none => rw [e] at h; cases h
  | some a => rw [e] at h; cases h; exact ⟨a, rfl, rfl⟩
theorem cut_pre (xs : List A) (k : Nat) : cutA xs none (some (k : Int)) = xs.take k := by
  unfold cutA
  rw [HT.sIx_nat, HT.sIx_none]
  simp
theorem cut_suf (xs : List A) (k : Nat) : cutA xs (some (k : Int)) none = xs.drop k := by
  unfold cutA
  rw [HT.sIx_nat, HT.sIx_none]
  by_cases h : k ≤ xs.length
  · rw [Nat.min_eq_left h, List.take_of_length_le (by rw [List.length_drop]; omega)]
  · rw [Nat.min_eq_right (by omega)]
    simp [List.drop_of_length_le (show xs.length ≤ k by omega)]
end XL
namespace K26
open PySem PySem.Spec PyProof.Rows L2 XL
theorem look_dN (M : Mat) (y : Nat) : lookK (dN M) (.inl (y : Int)) = (M.lookup y).map fun a => A.int (a : Nat) := by
  induction M with
  | nil => rfl
  | cons p M ih =>
    obtain ⟨i, a⟩ := p
    unfold dN lookK at ih ⊢
    rw [List.map_cons, List.find?_cons, List.lookup_cons]
    by_cases h : i = y
    · subst h; simp
    · have h1 : decide ((Sum.inl (i : Int) : Key) = Sum.inl (y : Int)) = false := decide_eq_false fun e => h (by cases e; rfl)
      have h2 : (y == i) = false := beq_eq_false_iff_ne.mpr (Ne.symm h)
      dsimp only
      rw [h1, h2]
      exact ih
theorem look_dS (S : List Nat) (y : Nat) : (lookK (dS S) (.inl (y : Int))).isSome = decide (y ∈ S) := by
  induction S with
  | nil => rfl
  | cons i S ih =>
    unfold dS lookK at ih ⊢
    rw [List.map_cons, List.find?_cons]
    by_cases h : i = y
    · subst h; simp
    · have h1 : decide ((Sum.inl (i : Int) : Key) = Sum.inl (y : Int)) = false := decide_eq_false fun e => h (by cases e; rfl)
      dsimp only
      rw [h1]
      dsimp only
      rw [ih, Bool.eq_iff_iff, decide_eq_true_eq, decide_eq_true_eq, List.mem_cons]
      exact ⟨.inr, fun q => q.elim (fun e => absurd e.symm h) id⟩
theorem put_dS {S : List Nat} {y : Nat} (h : y ∉ S) : putKA (dS S) (.inl (y : Int)) (.bl true) = dS (S ++ [y]) := by
  unfold putKA
  rw [if_neg]
  · unfold dS; rw [List.map_append]; rfl
  · rw [List.any_eq_true]
    rintro ⟨p, hp, e⟩
    unfold dS at hp
    obtain ⟨i, hi, rfl⟩ := List.mem_map.mp hp
    have e' := of_decide_eq_true e
    dsimp only at e'
    have : i = y := by cases e'; rfl
    exact h (this ▸ hi)
def putN (M : Mat) (y a : Nat) : Mat := if M.any (fun p => decide (p.1 = y)) = true then M.map (fun p => if p.1 = y then (p.1, a) else p) else M ++ [(y, a)]
theorem key_eq {i y : Nat} : ((Sum.inl (i : Int) : Key) = Sum.inl (y : Int)) ↔ i = y := ⟨fun e => by cases e; rfl, fun e => by rw [e]⟩
theorem put_dN (M : Mat) (y a : Nat) : putKA (dN M) (.inl (y : Int)) (.int (a : Nat)) = dN (putN M y a) := by
  unfold putKA putN
  have e : ((dN M).any fun kv => decide (kv.1 = Sum.inl (y : Int))) = M.any fun p => decide (p.1 = y) := by
    unfold dN
    rw [List.any_map]
    congr 1
    funext p
    show decide ((Sum.inl (p.1 : Int) : Key) = Sum.inl (y : Int)) = _
    rw [Bool.eq_iff_iff, decide_eq_true_eq, decide_eq_true_eq, key_eq]
  rw [e]
  split
  · unfold dN
    rw [List.map_map, List.map_map]
    refine List.map_congr_left fun p _ => ?_
    show (if (Sum.inl (p.1 : Int) : Key) = Sum.inl (y : Int) then _ else _) = _
    by_cases h : p.1 = y
    · rw [if_pos (key_eq.mpr h)]
      show _ = ((Sum.inl ((if p.1 = y then (p.1, a) else p).1 : Int) : Key), A.int ((if p.1 = y then (p.1, a) else p).2 : Nat))
      rw [if_pos h]
    · rw [if_neg (fun q => h (key_eq.mp q))]
      show _ = ((Sum.inl ((if p.1 = y then (p.1, a) else p).1 : Int) : Key), A.int ((if p.1 = y then (p.1, a) else p).2 : Nat))
      rw [if_neg h]
  · unfold dN; rw [List.map_append]; rfl
theorem look_putN (M : Mat) (y a j : Nat) : (putN M y a).lookup j = if j = y then some a else M.lookup j := by
  unfold putN
  split
  · rename_i h
    rw [List.any_eq_true] at h
    induction M with
    | nil => obtain ⟨_, hp, _⟩ := h; cases hp
    | cons p M ih =>
      obtain ⟨i, b⟩ := p
      rw [List.map_cons]
      by_cases hi : i = y
      · subst hi
        rw [if_pos rfl, List.lookup_cons, List.lookup_cons]
        by_cases hj : j = i
        · subst hj; simp
        · have hb : (j == i) = false := beq_eq_false_iff_ne.mpr hj
          rw [hb, if_neg hj]
          dsimp only
          clear ih h
          induction M with
          | nil => rfl
          | cons q M ih =>
            obtain ⟨k, c⟩ := q
            rw [List.map_cons, List.lookup_cons]
            by_cases hk : k = i
            · subst hk; rw [if_pos rfl, List.lookup_cons, hb]; exact ih
            · rw [if_neg hk, List.lookup_cons, ih]
      · rw [if_neg hi, List.lookup_cons, List.lookup_cons]
        by_cases hj : j = i
        · subst hj; simp [hi]
        · have hb : (j == i) = false := beq_eq_false_iff_ne.mpr hj
          rw [hb]
          refine ih ?_
          obtain ⟨q, hq, e⟩ := h
          rcases List.mem_cons.mp hq with rfl | hq
          · exact absurd (of_decide_eq_true e) hi
          · exact ⟨q, hq, e⟩
  · rename_i h
    by_cases hj : j = y
    · subst hj
      rw [if_pos rfl]
      have : M.lookup j = none := by
        rw [List.lookup_eq_none_iff]
        intro p hp
        refine bne_iff_ne.mpr fun e => h ?_
        rw [List.any_eq_true]
        exact ⟨p, hp, decide_eq_true e.symm⟩
      rw [List.lookup_append, this]
      simp
    · rw [if_neg hj, List.lookup_append, List.lookup_cons, beq_eq_false_iff_ne.mpr hj]
      simp
theorem keys_putN {M : Mat} {y a : Nat} (h : Sn (M.map (·.1))) (hy : y < 6) : Sn ((putN M y a).map (·.1)) := by
  unfold putN
  split
  · rw [List.map_map]
    have e : M.map ((fun x => x.1) ∘ fun p => if p.1 = y then (p.1, a) else p) = M.map (·.1) := List.map_congr_left fun p _ => by
      show (if p.1 = y then (p.1, a) else p).1 = p.1
      split <;> rfl
    rw [e]; exact h
  · rename_i hn
    rw [List.map_append]
    refine ⟨List.nodup_append.mpr ⟨h.1, by simp, fun b hb c hc => ?_⟩, fun i hi => ?_⟩
    · rw [List.mem_singleton.mp hc]
      rintro rfl
      obtain ⟨p, hp, e⟩ := List.mem_map.mp hb
      exact hn (List.any_eq_true.mpr ⟨p, hp, decide_eq_true e⟩)
    · rcases List.mem_append.mp hi with hi | hi
      · exact h.2 i hi
      · rw [List.mem_singleton.mp hi]; exact hy
theorem Sn.snoc {S : List Nat} (h : Sn S) {y : Nat} (hy : y < 6) (hn : y ∉ S) : Sn (S ++ [y]) :=
  ⟨List.nodup_append.mpr ⟨h.1, by simp, fun b hb c hc => by rw [List.mem_singleton.mp hc]; rintro rfl; exact hn hb⟩, fun i hi => by
    rcases List.mem_append.mp hi with hi | hi
    · exact h.2 i hi
    · rw [List.mem_singleton.mp hi]; exact hy⟩
theorem bit_lt {s i : Nat} (h : s < 2 ^ 6) (hb : s.testBit i = true) : i < 6 := by
  by_cases hi : i < 6
  · exact hi
  · have : 2 ^ 6 ≤ 2 ^ i := Nat.pow_le_pow_right (by omega) (by omega)
    rw [Nat.testBit_lt_two_pow (by omega)] at hb
    cases hb
/-- a step that succeeds: the item is free -/
theorem succ_free {sets : List Nat} {M : Mat} {S : List Nat} {at_ y s : Nat} (p : Pre sets M S at_) (hs : sets[at_]? = some s) (h6 : s < 2 ^ 6) (hy : s.testBit y = true) (hn : y ∉ S) (hf : M.lookup y = none) : Succ sets M S at_ (putN M y at_) where
  m := ⟨keys_putN p.m.sn (bit_lt h6 hy), fun i a h => by
    rw [look_putN] at h
    split at h
    · rename_i e; subst e; cases h; exact ⟨s, hs, hy⟩
    · exact p.m.ok i a h⟩
  same := fun i hi => by rw [look_putN, if_neg fun (e : i = y) => hn (e ▸ hi)]
  up := ⟨y, hn, by rw [look_putN, if_pos rfl], fun i j a hi hj h1 h2 => by
    rw [look_putN, if_neg hi] at h1
    rw [look_putN, if_neg hj] at h2
    exact p.inj i j a h1 h2, fun i a hi h => by
    rw [look_putN, if_neg hi] at h
    exact ⟨i, h⟩⟩
  cov := fun j a h => ⟨j, by
    rw [look_putN, if_neg fun e => by rw [e, hf] at h; cases h]
    exact h⟩
/-- .. the item's holder finds another -/
theorem succ_move {sets : List Nat} {M M1 : Mat} {S S0 : List Nat} {at_ b y s : Nat} (p : Pre sets M S at_) (hs : sets[at_]? = some s) (h6 : s < 2 ^ 6) (hy : s.testBit y = true) (hsub : ∀ i, i ∈ S → i ∈ S0) (hn : y ∉ S0) (hb : M.lookup y = some b)
    (q : Succ sets M (S0 ++ [y]) b M1) : Succ sets M S at_ (putN M1 y at_) := by
  obtain ⟨i1, n1, e1, inj1, rng1⟩ := q.up
  have hy1 : M1.lookup y = some b := by rw [q.same y (List.mem_append_right _ (List.mem_singleton.mpr rfl)), hb]
  have hne : y ≠ i1 := fun e => n1 (e ▸ List.mem_append_right _ (List.mem_singleton.mpr rfl))
  refine ⟨⟨keys_putN q.m.sn (bit_lt h6 hy), fun i a h => ?_⟩, fun i hi => ?_, ⟨y, fun z => hn (hsub y z), by rw [look_putN, if_pos rfl], fun i j a hi hj h1 h2 => ?_, fun i a hi h => ?_⟩, fun j a h => ?_⟩
  · rw [look_putN] at h
    split at h
    · rename_i e; subst e; cases h; exact ⟨s, hs, hy⟩
    · exact q.m.ok i a h
  · rw [look_putN, if_neg fun (e : i = y) => hn (hsub y (e ▸ hi))]
    exact q.same i (List.mem_append_left _ (hsub i hi))
  · rw [look_putN, if_neg hi] at h1
    rw [look_putN, if_neg hj] at h2
    by_cases c1 : i = i1
    · by_cases c2 : j = i1
      · rw [c1, c2]
      · rw [c1, e1] at h1
        cases h1
        exact absurd (inj1 j y b c2 hne h2 hy1) hj
    · by_cases c2 : j = i1
      · rw [c2, e1] at h2
        cases h2
        exact absurd (inj1 i y b c1 hne h1 hy1) hi
      · exact inj1 i j a c1 c2 h1 h2
  · rw [look_putN, if_neg hi] at h
    by_cases c : i = i1
    · rw [c, e1] at h
      cases h
      exact ⟨y, hb⟩
    · exact rng1 i a c h
  · obtain ⟨i, hi⟩ := q.cov j a h
    by_cases c : i = y
    · subst c
      rw [hy1] at hi
      cases hi
      exact ⟨i1, by rw [look_putN, if_neg (Ne.symm hne)]; exact e1⟩
    · exact ⟨i, by rw [look_putN, if_neg c]; exact hi⟩
theorem dS_len (S : List Nat) : (dS S).length = S.length := by unfold dS; rw [List.length_map]
theorem dN_len (M : Mat) : (dN M).length = (M.map (·.1)).length := by unfold dN; rw [List.length_map, List.length_map]
end K26
end

section
local macro_rules | `(tactic| walk_at "st") => `(tactic| simp only [XL.aRet, XL.aOp, XL.aVar, XL.aC, XL.astart, XL.aSeq, XL.aAsg, XL.gaName, XL.gaSub,
  XL.aCell, XL.aLst, XL.aNil, XL.aCons, XL.aTup, XL.aTest, XL.aTru, XL.aIfS, XL.aNext, XL.aExpr, XL.aAug, XL.aCall, XL.aAnd, XL.aOr, XL.aNot, XL.aIf, XL.aAndV, XL.aOrV, XL.aNotV, XL.aAny, XL.aAll, XL.aYes, XL.gcName,
  List.map, List.length, List.replicate, List.cons_append, List.nil_append, List.append_nil, List.getElem?_cons_zero, List.getElem?_cons_succ, List.getElem?_nil, List.set_cons_zero, List.set_cons_succ, List.length_cons, List.length_nil, Bool.not_true, Bool.not_false, if_true, if_false, Bool.false_eq_true])
namespace K26
open PySem PySem.Spec PyProof.Rows L2 XL
theorem truA_bl (b : Bool) (μ : Mem) : truA (.bl b) μ = some b := rfl
theorem keep_set {μ0 μ : Mem} (h : KeepC μ0 μ) {k : Nat} {S : List Nat} : KeepC μ0 (μ.set k (.dk (dS S))) := h.set k _ (by
  show ltKs _ _ = true
  unfold ltKs dS
  rw [List.all_eq_true]
  intro x hx
  obtain ⟨i, _, rfl⟩ := List.mem_map.mp hx
  simp [A.lt])
theorem keep_setN {μ0 μ : Mem} (h : KeepC μ0 μ) {k : Nat} {M : Mat} : KeepC μ0 (μ.set k (.dk (dN M))) := h.set k _ (by
  show ltKs _ _ = true
  unfold ltKs dN
  rw [List.all_eq_true]
  intro x hx
  obtain ⟨i, _, rfl⟩ := List.mem_map.mp hx
  simp [A.lt])
def FiW (sets : List Nat) (at_ km ks : Nat) (M : Mat) (S : List Nat) (s : Nat) (μ : Mem) (i : Nat) (ρ : AEnv) (μ' : Mem) : Prop := ∃ S' x, ρ = [some (tN sets), some (.int (at_ : Nat)), some (.ref km), some (.ref ks), x] ∧ μ' = μ.set ks (.dk (dS S')) ∧ Sn S' ∧ (∀ i, i ∈ S → i ∈ S') ∧ (∀ y, y ∈ (mem s).take i → y ∈ S') ∧
  ∀ x, x ∈ S' → x ∉ S → ∃ a s, M.lookup x = some a ∧ sets[a]? = some s ∧ ∀ i, s.testBit i = true → i ∈ S'
theorem r_find_item (m : Nat) (ds : List A) (μ : Mem) (Q : AK) (h : s_find_item (m + 1) ds μ Q) : a_find_item (s_find_item m) { nx := fun _ μ' => Ret μ Q .non μ', rt := Ret μ Q } (astart n_find_item.length ds) μ := by
  obtain ⟨sets, at_, km, ks, M, S, rfl, hne, em, es, sm, hat, pre, hf, qf, qt⟩ := h
  have hs : sets[at_]? = some sets[at_] := List.getElem?_eq_getElem hat
  generalize sets[at_] = s at hs
  have h6 : s < 2 ^ 6 := sm.2 s (List.mem_of_getElem? hs)
  refine ⟨.int (s : Nat), atI_nat (tN_get hs), s, rfl, Nat.lt_trans h6 (by decide), ?_⟩
  show ∃ W, _
  have w0 : FiW sets at_ km ks M S s μ 0 [some (tN sets), some (.int (at_ : Nat)), some (.ref km), some (.ref ks), none] μ := by
    refine ⟨S, none, rfl, (set_same es).symm, pre.sn, fun _ h => h, ?_, fun x h n => absurd h n⟩
    intro y hy
    rw [List.take_zero] at hy
    cases hy
  refine ⟨FiW sets at_ km ks M S s μ, w0, fun _ _ _ _ _ => trivial, ?_, ?_⟩
  · rintro i d _ _ hd ⟨S', x, rfl, rfl, sn, sub, tk, cl⟩
    obtain ⟨y, hy, rfl⟩ := tN_inv hd
    have hyb : s.testBit y = true := (mem_iff s y).mp (List.mem_of_getElem? hy)
    have hy6 := bit_lt h6 hyb
    have htk : ∀ z, z ∈ (mem s).take (i + 1) → z ∈ (mem s).take i ∨ z = y := fun z hz => by
      have e : (mem s).take (i + 1) = (mem s).take i ++ [y] := by
        obtain ⟨hl, e⟩ := List.getElem?_eq_some_iff.mp hy
        rw [← e, List.take_succ_eq_append_getElem hl]
      rw [e] at hz
      rcases List.mem_append.mp hz with hz | hz
      · exact .inl hz
      · exact .inr (List.mem_singleton.mp hz)
    walk_at "st"
    have e1 : (μ.set ks (.dk (dS S')))[ks]? = some (.dk (dS S')) := get_set es
    refine inA_dk e1 rfl ?_
    rw [look_dS]
    dsimp only
    by_cases hin : y ∈ S'
    · rw [decide_eq_true hin]
      dsimp only [bne]
      exact ⟨S', _, rfl, rfl, sn, sub, fun z hz => (htk z hz).elim (tk z) (fun e => e ▸ hin), cl⟩
    · rw [decide_eq_false hin]
      rw [if_pos (by rfl)]
      refine setA_dk e1 rfl (by rw [dS_len, sizeLine_eq]; have := sn.len; omega) ?_
      rw [List.set_set, put_dS hin]
      have sn1 := sn.snoc hy6 hin
      have em1 : ∀ S2, (μ.set ks (.dk (dS S2)))[km]? = some (.dk (dN M)) := fun S2 => by rw [get_other (Ne.symm hne)]; exact em
      have hol : ∀ b, M.lookup y = some b → ∀ i, M.lookup i = some b → i ∈ S' ++ [y] := fun b hb i hi => by
        rw [pre.inj i y b hi hb]
        exact List.mem_append_right _ (List.mem_singleton.mpr rfl)
      -- what is done when the item is had
      have fin : ∀ (M1 : Mat) (S2 : List Nat), Succ sets M S at_ (putN M1 y at_) → Sn (M1.map (·.1)) → Sn S2 →
          setA (.ref km) (.int (y : Nat)) (.int (at_ : Nat)) ((μ.set km (.dk (dN M1))).set ks (.dk (dS S2))) fun μ3 => Ret μ Q (.bl true) μ3 := fun M1 S2 su sm1 sn2 => by
        refine setA_dk (kvs := dN M1) ?_ rfl (by rw [dN_len, sizeLine_eq]; have := sm1.len; omega) ?_
        · rw [get_other (Ne.symm hne)]; exact get_set em
        · rw [put_dN, List.set_comm _ _ hne, List.set_set]
          refine .inl ⟨_, [], (List.append_nil _).symm, by simp, by simp [A.lt], keep_setN (keep_set (KeepC.refl _)), ?_⟩
          rw [List.set_comm _ _ (Ne.symm hne)]
          exact qt _ _ su sn2
      refine inA_dk (em1 _) rfl ?_
      rw [look_dN]
      dsimp only
      cases hb : M.lookup y with
      | none =>
        dsimp only [Option.map, Option.isSome, bne]
        rw [if_pos (by rfl)]
        have := fin M (S' ++ [y]) (succ_free pre hs h6 hyb (fun z => hin (sub y z)) hb) pre.m.sn sn1
        rw [set_same em] at this
        exact this
      | some b =>
        dsimp only [Option.map, Option.isSome, bne]
        rw [if_neg (by decide)]
        obtain ⟨sb, hsb, _⟩ := pre.m.ok y b hb
        refine ixA_dk (em1 _) rfl (by rw [look_dN, hb]; rfl) ?_
        refine ⟨sets, b, km, ks, M, S' ++ [y], rfl, hne, em1 _, get_set es, sm, (List.getElem?_eq_some_iff.mp hsb).1, ⟨pre.m, sn1, pre.inj, hol b hb⟩, ?_, fun S2 fl => ?_, fun M1 S2 su sn2 => ?_⟩
        · rw [List.length_append, List.length_singleton]
          have : S.length ≤ S'.length := sub_len pre.sn.1 sub
          omega
        · refine ⟨false, rfl, ?_⟩
          rw [if_neg (by decide), List.set_set]
          refine ⟨S2, _, rfl, rfl, fl.sn, fun i hi => fl.sub i (List.mem_append_left _ (sub i hi)), fun z hz => ?_, fun x hx hnx => ?_⟩
          · rcases htk z hz with hz | rfl
            · exact fl.sub z (List.mem_append_left _ (tk z hz))
            · exact fl.sub _ (List.mem_append_right _ (List.mem_singleton.mpr rfl))
          · by_cases c1 : x ∈ S' ++ [y]
            · rcases List.mem_append.mp c1 with c1 | c1
              · obtain ⟨a, s', h1, h2, h3⟩ := cl x c1 hnx
                exact ⟨a, s', h1, h2, fun i hi => fl.sub i (List.mem_append_left _ (h3 i hi))⟩
              · rw [List.mem_singleton.mp c1]
                exact ⟨b, sb, hb, hsb, fun i hi => fl.all sb i hsb hi⟩
            · exact fl.cl x hx c1
        · refine ⟨true, rfl, ?_⟩
          rw [if_pos rfl]
          have := fin M1 S2 (succ_move pre hs h6 hyb sub hin hb su) su.m.sn sn2
          rw [List.set_comm _ _ hne, List.set_set, List.set_comm _ _ (Ne.symm hne)]
          exact this
  · rintro _ _ ⟨S', x, rfl, rfl, sn, sub, tk, cl⟩
    rw [List.length_map, List.take_length] at tk
    refine .inl ⟨_, [], (List.append_nil _).symm, by simp, by simp [A.lt], keep_set (KeepC.refl _), qf S' ⟨sn, sub, fun s2 i e hb => ?_, cl⟩⟩
    rw [hs] at e
    cases e
    exact tk i ((mem_iff s i).mpr hb)
end K26
end

section
local macro_rules | `(tactic| walk_at "st") => `(tactic| simp only [XL.aRet, XL.aOp, XL.aVar, XL.aC, XL.astart, XL.aSeq, XL.aAsg, XL.gaName, XL.gaSub,
  XL.aCell, XL.aLst, XL.aNil, XL.aCons, XL.aTup, XL.aTest, XL.aTru, XL.aIfS, XL.aNext, XL.aExpr, XL.aAug, XL.aCall, XL.aAnd, XL.aOr, XL.aNot, XL.aIf, XL.aAndV, XL.aOrV, XL.aNotV, XL.aAny, XL.aAll, XL.aYes, XL.gcName,
  List.map, List.length, List.replicate, List.cons_append, List.nil_append, List.append_nil, List.getElem?_cons_zero, List.getElem?_cons_succ, List.getElem?_nil, List.set_cons_zero, List.set_cons_succ, List.length_cons, List.length_nil, Bool.not_true, Bool.not_false, if_true, if_false, Bool.false_eq_true])
namespace K26
open PySem PySem.Spec PyProof.Rows L2 XL
theorem inF_iN (y : Nat) : ∀ u : List Nat, inF (.int (y : Nat)) (iN u) = u.contains y
  | [] => rfl
  | a :: u => by
    have ih := inF_iN y u
    unfold inF iN at ih ⊢
    rw [List.map_cons, List.any_cons, ih, List.contains_cons]
    congr 1
    show ((a : Int) == (y : Int)) = (y == a)
    rw [Bool.eq_iff_iff, beq_iff_eq, beq_iff_eq]
    omega
theorem flat_iN (u : List Nat) : (iN u).all flatA = true := by
  unfold iN
  rw [List.all_eq_true]
  intro x hx
  obtain ⟨i, _, rfl⟩ := List.mem_map.mp hx
  rfl
theorem r__law_items (m : Nat) (ds : List A) (μ : Mem) (Q : AK) (h : s__law_items (m + 1) ds μ Q) : a__law_items (s__law_items m) { nx := fun _ μ' => Ret μ Q .non μ', rt := Ret μ Q } (astart n__law_items.length ds) μ := by
  obtain ⟨sets, u, k, rfl, hk, hm, h6, hl, q⟩ := h
  cases sets with
  | nil =>
    refine ⟨0, rfl, ?_⟩
    exact ret_here (by simp [A.lt]) q
  | cons s r =>
    rw [List.length_cons] at hm hl
    refine ⟨r.length + 1, by show some (List.length _) = _; simp, ?_⟩
    have hs6 : s < 2 ^ 6 := h6 s List.mem_cons_self
    refine ⟨.int (s : Nat), atI0, s, rfl, Nat.lt_trans hs6 (by decide), ?_⟩
    refine aLc_f (xs := iN (mem s)) (St := fun _ => True) (fun d => match d with | .int y => some (.bl (!u.contains y.toNat && itemsB r (u ++ [y.toNat]))) | _ => none) (by rw [iN_len, sizeLine_eq]; have := mem_len 6 s hs6; omega) trivial ?_ ?_
    · intro d hd Y N hY hN
      obtain ⟨y, hy, rfl⟩ := List.mem_map.mp hd
      have hY1 : ∀ b g, (!u.contains y && itemsB r (u ++ [y])) = b → Y (.bl b) (μ ++ g) := fun b g e => hY _ g (by show some (A.bl (!u.contains ((y : Nat) : Int).toNat && itemsB r (u ++ [((y : Nat) : Int).toNat]))) = _; rw [Int.toNat_natCast, e]) (by simp [A.lt])
      show gcName 2 _ [some (tN (s :: r)), some (.ref k), none] _
      walk_at "st"
      unfold inA
      dsimp only
      rw [hk]
      refine .inl ⟨rfl, flat_iN u, ?_⟩
      rw [inF_iN]
      cases hc : u.contains y with
      | true =>
        rw [hc] at hY1
        refine ⟨false, rfl, ?_⟩
        rw [if_neg (by decide)]
        have := hY1 false [] rfl
        rw [List.append_nil] at this
        exact this
      | false =>
        rw [hc] at hY1
        refine ⟨true, rfl, ?_⟩
        rw [if_pos rfl]
        refine ⟨by rw [sizeLine_eq]; omega, ?_⟩
        show addA (.ref k) (.ref μ.length) (μ ++ [.lst [.int (y : Nat)]]) _
        have e1 : (μ ++ [Cell.lst [.int (y : Nat)]])[k]? = some (.lst (iN u)) := by
          rw [List.getElem?_append_left (List.getElem?_eq_some_iff.mp hk).1]; exact hk
        unfold addA
        dsimp only
        rw [e1, get_last]
        dsimp only
        rw [iN_snoc]
        refine ⟨by rw [iN_len, sizeLine_eq, List.length_singleton]; omega, r, u ++ [y], _, by rw [show cutA (List.map (fun i => A.int (i : Nat)) (s :: r)) (some 1) none = (List.map (fun i => A.int (i : Nat)) (s :: r)).drop 1 from cut_suf _ 1]; rfl, get_last, by omega, fun s' hs' => h6 s' (List.mem_cons_of_mem _ hs'), by rw [List.length_append, List.length_singleton]; omega, ?_⟩
        rw [List.append_assoc]
        exact hY1 _ _ rfl
    · refine ⟨(mem s).map fun y => !u.contains y && itemsB r (u ++ [y]), ?_, ?_⟩
      · unfold iN
        rw [List.filterMap_map, List.map_map]
        rw [show ((fun d => match d with
            | .int y => some (.bl (!u.contains y.toNat && itemsB r (u ++ [y.toNat])))
            | _ => none) ∘ fun (i : Nat) => A.int (i : Nat)) = some ∘ fun y : Nat => A.bl (!u.contains y && itemsB r (u ++ [y])) from rfl, List.filterMap_eq_map]
        rfl
      · refine ret_here (by simp [A.lt]) ?_
        have e : itemsB (s :: r) u = ((mem s).map fun y => !u.contains y && itemsB r (u ++ [y])).any id := by
          show ((mem s).any fun x => !u.contains x && itemsB r (u ++ [x])) = _
          rw [List.any_map]
          rfl
        rw [← e]
        exact q
end K26
end

section
local macro_rules | `(tactic| walk_at "st") => `(tactic| simp only [XL.aRet, XL.aOp, XL.aVar, XL.aC, XL.astart, XL.aSeq, XL.aAsg, XL.gaName, XL.gaSub,
  XL.aCell, XL.aLst, XL.aNil, XL.aCons, XL.aTup, XL.aTest, XL.aTru, XL.aIfS, XL.aNext, XL.aExpr, XL.aAug, XL.aCall, XL.aAnd, XL.aOr, XL.aNot, XL.aIf, XL.aAndV, XL.aOrV, XL.aNotV, XL.aAny, XL.aAll, XL.aYes, XL.gcName,
  List.map, List.length, List.replicate, List.cons_append, List.nil_append, List.append_nil, List.getElem?_cons_zero, List.getElem?_cons_succ, List.getElem?_nil, List.set_cons_zero, List.set_cons_succ, List.length_cons, List.length_nil, Bool.not_true, Bool.not_false, if_true, if_false, Bool.false_eq_true])
/-! K26: data as they are compared; the judges' parts. -/
namespace K26
open PySem PySem.Spec PyProof.Rows L2 XL
theorem leaf_py {t : A} (h : leaf t) (μ : Mem) : ∃ p, PyD μ t p ∧ p.canLay0 = true ∧ p.depth = 0 := by
  cases t with
  | non => exact ⟨_, .non, rfl, rfl⟩
  | bl b => exact ⟨_, .bl b, rfl, rfl⟩
  | int i => exact ⟨_, .int i, rfl, rfl⟩
  | str s =>
    have h' : PyData.strOk s = true := h
    exact ⟨_, .str s, by simp only [PyData.canLay0, h'], rfl⟩
  | _ => exact h.elim
theorem outs_py {d : Nat} (ih : ∀ t, OutD d t → ∀ μ, ∃ p, PyD μ t p ∧ p.canLay0 = true ∧ p.depth ≤ d) (μ : Mem) : ∀ xs : List A, (∀ x, x ∈ xs → OutD d x) → ∃ ps, PyDs μ xs ps ∧ PyData.canLayAll0 ps = true ∧ PyData.depthAll ps ≤ d
  | [], _ => ⟨[], .nil, rfl, Nat.zero_le _⟩
  | x :: xs, h => by
    obtain ⟨p, h1, h2, h3⟩ := ih x (h x List.mem_cons_self) μ
    obtain ⟨ps, g1, g2, g3⟩ := outs_py ih μ xs fun y hy => h y (List.mem_cons_of_mem _ hy)
    refine ⟨p :: ps, .cons h1 g1, by simp only [PyData.canLayAll0, h2, g2, Bool.and_self], by simp only [PyData.depthAll]; omega⟩
theorem out_py : ∀ (d : Nat) (t : A), OutD d t → ∀ μ, ∃ p, PyD μ t p ∧ p.canLay0 = true ∧ p.depth ≤ d
  | 0, t, h, μ => by
    obtain ⟨p, h1, h2, h3⟩ := leaf_py h μ
    exact ⟨p, h1, h2, by omega⟩
  | d + 1, t, h, μ => by
    rcases h with h | ⟨xs, rfl, _, h⟩
    · obtain ⟨p, h1, h2, h3⟩ := leaf_py h μ
      exact ⟨p, h1, h2, by omega⟩
    · obtain ⟨ps, g1, g2, g3⟩ := outs_py (fun t ht μ => out_py d t ht μ) μ xs h
      exact ⟨.tuple ps, .tup g1, by simp only [PyData.canLay0, g2], by simp only [PyData.depth]; omega⟩
theorem eqB_s {d : Nat} (hd : d ≤ 60) {t : A} (h : OutD d t) {s : Str} (hs : SeqAt.shaped (.str s) = true) {μ : Mem} {Q : Bool → Prop} (q : Q (isS s t)) : eqB t (.str s) μ Q := by
  obtain ⟨p, h1, h2, h3⟩ := out_py d t h μ
  refine eqB_of h1 (.str s) ?_ hs ?_
  · unfold SeqAt.shaped
    rw [h2, decide_eq_true (by omega)]
    rfl
  · cases h1 <;> first | (simpa only [PyData.eqv, isS] using q)
/-! ### the shape -/
def headA : ATS := aIfS (aOr (aNot (aTru (aIsi (aVar 2) "tuple"))) (aOr (aTest (aOp neA (aLen (aVar 2)) (aC (.int 2)))) (aNot (aTru (aIsi (aOp ixA (aVar 2) (aC (.int 1))) "tuple"))))) (aRet (aC (.bl false))) aNext
def tyO : A → String
  | .non => "NoneType" | .bl _ => "bool" | .int _ => "int" | .str _ => "str" | .tup _ => "tuple" | .ref _ => "list" | .frl _ => "list" | .ty _ => "type"
theorem out_ty {d : Nat} {t : A} (h : OutD d t) (μ : Mem) : tyN t μ = some (tyO t) ∧ kitB (tyO t) "tuple" = some (tyO t == "tuple") := by
  have k : tyN t μ = some (tyO t) := by
    cases d with
    | zero => cases t <;> first | rfl | exact h.elim
    | succ d =>
      rcases h with h | ⟨xs, rfl, _⟩
      · cases t <;> first | rfl | exact h.elim
      · rfl
  exact ⟨k, (kit_int _ (tyN_mem k)).2.2⟩
theorem isi_tup {d : Nat} {t : A} (h : OutD d t) {a : ATE} {ρ : AEnv} {μ : Mem} (ha : ∀ Q : AK, Q t μ → a ρ μ Q) {Q : AK} (q : Q (.bl (tyO t == "tuple")) μ) : aIsi a "tuple" ρ μ Q := by
  obtain ⟨k1, k2⟩ := out_ty h μ
  exact ha _ ⟨_, _, k1, k2, q⟩
theorem head_ok {D : AEnds} {a b t : A} {r : List (Option A)} {μ : Mem} (ho : OutD 3 t) (bad : (∀ h row, t ≠ .tup [h, .tup row]) → D.rt (.bl false) μ)
    (good : ∀ h row, t = .tup [h, .tup row] → OutD 2 h → row.length ≤ 20 → (∀ x, x ∈ row → OutD 1 x) → D.nx (some a :: some b :: some t :: r) μ) : headA D (some a :: some b :: some t :: r) μ := by
  unfold headA
  walk_at "st"
  refine isi_tup ho (fun Q q => q) ?_
  refine ⟨_, rfl, ?_⟩
  rcases ho with ho | ⟨xs, rfl, hl, ho⟩
  · have e : (tyO t == "tuple") = false := by cases t <;> first | rfl | exact ho.elim
    rw [e]
    exact bad fun h row e => by subst e; exact ho.elim
  · refine ⟨xs.length, rfl, ?_⟩
    show (if (!(((xs.length : Nat) : Int) == 2)) = true then _ else _)
    match xs, hl, ho with
    | [], _, _ => exact bad fun _ _ e => by cases e
    | [_], _, _ => exact bad fun _ _ e => by cases e
    | x :: y :: z :: xs, _, _ =>
      rw [if_pos]
      · exact bad fun _ _ e => by cases e
      · simp; omega
    | [h, w], _, ho =>
      have hh := ho h (by simp)
      have hw := ho w (by simp)
      rw [if_neg (by simp)]
      refine isi_tup hw (fun Q q => ⟨w, atI1, q⟩) ?_
      refine ⟨_, rfl, ?_⟩
      rcases hw with hw | ⟨row, rfl, hl, hw⟩
      · have e : (tyO w == "tuple") = false := by cases w <;> first | rfl | exact hw.elim
        rw [e]
        exact bad fun h row e => by cases e; exact hw.elim
      · exact good h row rfl hh hl hw
/-! ### rows -/
def notNat : A → Bool
  | .int i => decide (i < 0)
  | _ => true
theorem nats_some : ∀ {row : List A} {r : List Nat}, nats row = some r → row = iN r
  | [], _, h => by cases h; rfl
  | x :: row, r, h => by
    cases x with
    | int i =>
      unfold nats at h
      split at h
      · rename_i hi
        cases e : nats row with
        | none => rw [e] at h; cases h
        | some r' =>
          rw [e] at h
          cases h
          rw [nats_some e]
          show _ = A.int ((i.toNat : Nat) : Int) :: iN r'
          rw [Int.toNat_of_nonneg hi]
      · cases h
    | _ => cases h
theorem nats_none : ∀ row : List A, row.any notNat = (nats row).isNone
  | [] => rfl
  | x :: row => by
    have ih := nats_none row
    rw [List.any_cons, ih]
    cases x with
    | int i =>
      show (decide (i < 0) || _) = (if 0 ≤ i then (nats row).map (i.toNat :: ·) else none).isNone
      by_cases hi : 0 ≤ i
      · rw [if_pos hi, decide_eq_false (by omega)]
        generalize nats row = z
        cases z <;> rfl
      · rw [if_neg hi, decide_eq_true (by omega)]
        rfl
    | _ => rfl
def insN (S : List Nat) (y : Nat) : List Nat := if y ∈ S then S else S ++ [y]
theorem put_insN (S : List Nat) (y : Nat) : putKA (dS S) (.inl (y : Int)) (.bl true) = dS (insN S y) := by
  unfold insN
  by_cases h : y ∈ S
  · rw [if_pos h]
    unfold putKA
    rw [if_pos]
    · conv => rhs; rw [← List.map_id (dS S)]
      refine List.map_congr_left fun p hp => ?_
      unfold dS at hp
      obtain ⟨i, hi, rfl⟩ := List.mem_map.mp hp
      show (if _ then _ else _) = _
      split <;> rfl
    · rw [List.any_eq_true]
      exact ⟨_, List.mem_map.mpr ⟨y, h, rfl⟩, decide_eq_true rfl⟩
  · rw [if_neg h]; exact put_dS h
theorem fold_insN : ∀ (r S : List Nat), (r.map fun (y : Nat) => ((Sum.inl (y : Int) : Key), A.bl true)).foldl (fun acc kv => putKA acc kv.1 kv.2) (dS S) = dS (r.foldl insN S)
  | [], _ => rfl
  | y :: r, S => by
    rw [List.map_cons, List.foldl_cons, List.foldl_cons]
    dsimp only
    rw [put_insN]
    exact fold_insN r _
theorem ins_len : ∀ (r S : List Nat), S.Nodup → (r.foldl insN S).length ≤ S.length + r.length ∧ ((r.foldl insN S).length = S.length + r.length ↔ (S ++ r).Nodup)
  | [], S, h => by simp [h]
  | y :: r, S, h => by
    rw [List.foldl_cons, List.length_cons]
    by_cases hy : y ∈ S
    · rw [show insN S y = S from if_pos hy]
      obtain ⟨h1, h2⟩ := ins_len r S h
      refine ⟨by omega, fun e => by omega, fun e => ?_⟩
      rw [List.nodup_append] at e
      exact absurd rfl (e.2.2 y hy y List.mem_cons_self)
    · rw [show insN S y = S ++ [y] from if_neg hy]
      have hn : (S ++ [y]).Nodup := List.nodup_append.mpr ⟨h, by simp, fun b hb c hc => by rw [List.mem_singleton.mp hc]; rintro rfl; exact hy hb⟩
      obtain ⟨h1, h2⟩ := ins_len r (S ++ [y]) hn
      rw [List.length_append, List.length_singleton] at h1 h2
      rw [List.append_assoc] at h2
      refine ⟨by omega, ?_⟩
      rw [← show (S ++ ([y] ++ r)) = S ++ y :: r from rfl, ← h2]
      omega
theorem mem_iN {r : List Nat} {d : A} (h : d ∈ iN r) : ∃ y : Nat, y ∈ r ∧ d = .int (y : Nat) := by
  obtain ⟨y, hy, rfl⟩ := List.mem_map.mp h
  exact ⟨y, hy, rfl⟩
/-! ### the union -/
theorem bor_nn (a b : Nat) : Builtin.bitOr (a : Int) (b : Int) = ((a ||| b : Nat) : Int) := by rw [Bits.bitOr_pp (by omega) (by omega)]; simp
theorem un_lt {sets : List Nat} (h : ∀ s, s ∈ sets → s < 2 ^ 6) (W : List Nat) : un sets W < 2 ^ 6 := by
  unfold un
  have : ∀ (W : List Nat) (u : Nat), u < 2 ^ 6 → W.foldl (fun u k => u ||| (sets[k]?).getD 0) u < 2 ^ 6 := fun W => by
    induction W with
    | nil => exact fun _ h => h
    | cons k W ih =>
      intro u hu
      rw [List.foldl_cons]
      refine ih _ (Nat.or_lt_two_pow hu ?_)
      cases e : sets[k]? with
      | none => decide
      | some s => exact h s (List.mem_of_getElem? e)
  exact this W 0 (by decide)
theorem un_snoc (sets W : List Nat) (k : Nat) : un sets (W ++ [k]) = un sets W ||| (sets[k]?).getD 0 := by unfold un; rw [List.foldl_append]; rfl
theorem judge_tup {n : Nat} {sets : List Nat} {h : A} {row : List A} {r : List Nat} (e : nats row = some r) : judge n sets (.tup [h, .tup row]) = judgeR n sets h r := by
  show (match nats row with
    | some r => judgeR n sets h r
    | none => false) = _
  rw [e]
theorem judge_none {n : Nat} {sets : List Nat} {h : A} {row : List A} (e : nats row = none) : judge n sets (.tup [h, .tup row]) = false := by
  show (match nats row with
    | some r => judgeR n sets h r
    | none => false) = _
  rw [e]
theorem judge_bad {n : Nat} {sets : List Nat} {t : A} (h : ∀ h row, t ≠ .tup [h, .tup row]) : judge n sets t = false := by
  unfold judge
  split
  · exact absurd rfl (h _ _)
  · rfl
end K26
end

section
local macro_rules | `(tactic| walk_at "st") => `(tactic| simp only [XL.aRet, XL.aOp, XL.aVar, XL.aC, XL.astart, XL.aSeq, XL.aAsg, XL.gaName, XL.gaSub,
  XL.aCell, XL.aLst, XL.aNil, XL.aCons, XL.aTup, XL.aTest, XL.aTru, XL.aIfS, XL.aNext, XL.aExpr, XL.aAug, XL.aCall, XL.aAnd, XL.aOr, XL.aNot, XL.aIf, XL.aAndV, XL.aOrV, XL.aNotV, XL.aAny, XL.aAll, XL.aYes, XL.gcName,
  List.map, List.length, List.replicate, List.cons_append, List.nil_append, List.append_nil, List.getElem?_cons_zero, List.getElem?_cons_succ, List.getElem?_nil, List.set_cons_zero, List.set_cons_succ, List.length_cons, List.length_nil, Bool.not_true, Bool.not_false, if_true, if_false, Bool.false_eq_true])
namespace K26
open PySem PySem.Spec PyProof.Rows L2 XL
theorem ret_bl {μ : Mem} {Q : AK} {b : Bool} (q : Q (.bl b) μ) : Ret μ Q (.bl b) μ := ret_here (by simp [A.lt]) q
theorem ret_false {μ : Mem} {Q : AK} {b : Bool} (q : Q (.bl b) μ) (e : b = false) : Ret μ Q (.bl false) μ := by rw [e] at q; exact ret_bl q
theorem tru_if {b : Bool} {μ : Mem} {p q : Prop} (hp : b = true → p) (hq : b = false → q) : ∃ k, truA (.bl b) μ = some k ∧ if k = true then p else q := ⟨b, rfl, by
  cases b with
  | true => exact hp rfl
  | false => exact hq rfl⟩
theorem isI_out {d : Nat} {t : A} (h : OutD d t) {μ : Mem} {Q : AK} (q : Q (.bl (isInt t)) μ) : s_is_integer [t] μ Q := ⟨t, tyO t, rfl, (out_ty h μ).1, q⟩
theorem nodup_judge {n : Nat} {sets : List Nat} {h : A} {r : List Nat} (hn : ¬ r.Nodup) : judgeR n sets h r = false := if_neg hn
theorem zip_eq : ∀ r sets : List Nat, zipA (iN r) (iN sets) = (r.zip sets).map fun p => A.tup [.int (p.1 : Nat), .int (p.2 : Nat)]
  | [], _ => rfl
  | _ :: _, [] => rfl
  | x :: r, s :: t => by
    show A.tup [.int (x : Nat), .int (s : Nat)] :: zipA (iN r) (iN t) = _ :: (r.zip t).map _
    rw [zip_eq r t]
theorem lc_bl {ga : AGC} {tt : ATT} {te : ATE} {vs : List Nat} {ρ : AEnv} {μ1 : Mem} {Q : List A → Mem → Prop} (xs : List A) {St : Mem → Prop} (g : A → Bool) (hz : xs.length ≤ sizeLine) (hst : St μ1)
    (h : ∀ d, d ∈ xs → ∀ (Y : A → Mem → Prop) (N : Mem → Prop), (∀ b, g d = b → Y (.bl b) μ1) → ga d (wipeA ρ vs) fun ρ2 => tt ρ2 μ1 fun b μ2 => if b = true then te ρ2 μ2 Y else N μ2)
    (hQ : Q ((xs.map g).map A.bl) μ1) : xs.length ≤ sizeLine ∧ ∃ W : Nat → List A → Mem → Prop, W 0 [] μ1 ∧ (∀ i acc μ, i ≤ xs.length → W i acc μ → St μ) ∧
  (∀ i d acc μ, xs[i]? = some d → W i acc μ → ga d (wipeA ρ vs) fun ρ2 => tt ρ2 μ fun b μ2 => if b = true then te ρ2 μ2 fun e μ3 => Shr μ μ3 (fun n => e.lt n) (W (i + 1) (acc ++ [e])) else Shr μ μ2 (fun _ => true) (W (i + 1) acc)) ∧
  ∀ acc μ, W xs.length acc μ → Q acc μ := by
  refine aLc_f (xs := xs) (St := St) (fun x => some (.bl (g x))) hz hst (fun d hd Y N hY _ => h d hd Y N fun b e => ?_) ?_
  · have := hY (.bl b) [] (by rw [e]) (by simp [A.lt])
    rw [List.append_nil] at this
    exact this
  · have e : xs.filterMap (fun x => some (A.bl (g x))) = (xs.map g).map A.bl := by
      rw [List.map_map]
      exact List.filterMap_eq_map (f := A.bl ∘ g) ▸ rfl
    rw [e]
    exact hQ
theorem r_takes_hall (ds : List A) (μ : Mem) (Q : AK) (h : s_takes_hall ds μ Q) : a_takes_hall { nx := fun _ μ' => Ret μ Q .non μ', rt := Ret μ Q } (astart n_takes_hall.length ds) μ := by
  obtain ⟨n, sets, t, rfl, hn, sm, ho, q⟩ := h
  refine head_ok ho (fun hb => ret_false q (judge_bad hb)) ?_
  rintro h row rfl hh hl hw
  show aSeq _ _ _ [some (.int (n : Nat)), some (tN sets), some (.tup [h, .tup row]), none, none, none, none] μ
  have hz : row.length ≤ sizeLine := by rw [sizeLine_eq]; omega
  refine ⟨_, atI1, lc_bl row notNat hz trivial ?_ ?_⟩
  · intro x hx Y N hY
    have hox := hw x hx
    show gcName 5 _ [some (.int (n : Nat)), some (tN sets), some (.tup [h, .tup row]), none, none, none, none] _
    walk_at "st"
    refine isI_out hox ?_
    cases x with
    | int i => exact ⟨true, rfl, false, rfl, hY _ rfl⟩
    | _ => exact ⟨false, rfl, true, rfl, hY true rfl⟩
  refine ⟨_, rfl, _, rfl, ?_⟩
  have ea : (row.map notNat).any id = (nats row).isNone := by rw [← nats_none, List.any_map]; rfl
  rw [ea]
  cases en : nats row with
  | none => exact ret_false q (judge_none en)
  | some r =>
    rw [judge_tup en] at q
    have er := nats_some en
    subst er
    rw [iN_len] at hz hl
    have hsz : r.length ≤ sizeLine := hz
    -- all different
    refine ⟨_, atI1, aDc_f (xs := iN r) (St := fun _ => True) (fun x => match x with | .int i => some (.inl i, .bl true) | _ => none) (by rw [iN_len]; exact hz) trivial ?_ ?_⟩
    · intro x hx Y N hY hN
      obtain ⟨y, hy, rfl⟩ := mem_iN hx
      have := hY (.int (y : Nat)) (.bl true) (.inl (y : Int)) [] rfl rfl (by simp [A.lt])
      rw [List.append_nil] at this
      exact this
    have ef : (iN r).filterMap (fun x => match x with | .int i => some ((.inl i : Key), A.bl true) | _ => none) = r.map fun (y : Nat) => ((Sum.inl (y : Int) : Key), A.bl true) := by
      unfold iN
      rw [List.filterMap_map]
      exact List.filterMap_eq_map (f := fun (y : Nat) => ((Sum.inl (y : Int) : Key), A.bl true)) ▸ rfl
    rw [ef, show ([] : List (Key × A)) = dS [] from rfl, fold_insN]
    have il := ins_len r [] .nil
    rw [List.nil_append, List.length_nil, Nat.zero_add] at il
    refine ⟨_, atI1, _, rfl, ?_⟩
    rw [dS_len, iN_len]
    show (if (!((((r.foldl insN []).length : Nat) : Int) == ((r.length : Nat) : Int))) = true then _ else _)
    by_cases hnd : r.Nodup
    case neg =>
      have hne : (r.foldl insN []).length ≠ r.length := fun e => hnd (il.2.mp e)
      rw [if_pos (by simp; omega)]
      exact ret_false q (nodup_judge hnd)
    rw [il.2.mpr hnd, if_neg (by simp)]
    have hj : judgeR n sets h r = if isS "items" h then decide (r.length = sets.length) && (r.zip sets).all fun p => decide (p.1 < n) && p.2.testBit p.1
        else if isS "few" h then (r.all fun k => decide (k < sets.length)) && decide ((mem (un sets r)).length < r.length) else false := if_pos hnd
    have hz6 : sets.length ≤ 6 := sm.1
    refine ⟨h, atI0, ?_⟩
    dsimp only [aC, eqA]
    refine eqB_s (by decide) hh (by decide +kernel) ?_
    by_cases hi : isS "items" h = true
    · rw [hi] at hj ⊢
      rw [if_pos rfl] at hj
      rw [if_pos rfl]
      refine ⟨_, atI1, _, rfl, (iN sets).length, rfl, ?_⟩
      rw [iN_len, iN_len]
      show (if (!(((r.length : Nat) : Int) == ((sets.length : Nat) : Int))) = true then _ else _)
      by_cases hle : r.length = sets.length
      case neg =>
        rw [if_pos (by simp; omega)]
        exact ret_false q (by rw [hj, decide_eq_false hle]; rfl)
      rw [if_neg (by simp; omega)]
      rw [decide_eq_true hle, Bool.true_and] at hj
      refine ⟨_, atI1, ?_⟩
      refine lc_bl (zipA (iN r) (iN sets)) (St := fun _ => True) (fun x => match x with | .tup [.int a, .int b] => decide (a.toNat < n) && b.toNat.testBit a.toNat | _ => false) (by rw [zip_eq, List.length_map, List.length_zip, sizeLine_eq]; omega) trivial ?_ ?_
      · intro x hx Y N hY
        rw [zip_eq] at hx
        obtain ⟨p, hp, rfl⟩ := List.mem_map.mp hx
        have hY' : ∀ b, (decide (p.1 < n) && p.2.testBit p.1) = b → Y (.bl b) μ := hY
        show gcTup2 6 5 (.tup [.int (p.1 : Nat), .int (p.2 : Nat)]) [some (.int (n : Nat)), some (tN sets), some (.tup [h, .tup (iN r)]), none, none, none, none] _
        show (∃ k, some (decide ((p.1 : Int) < (n : Int))) = some k ∧ if k = true then _ else _)
        refine ⟨_, rfl, ?_⟩
        by_cases hlt : p.1 < n
        · rw [if_pos (by simpa using hlt)]
          rw [decide_eq_true hlt, Bool.true_and] at hY'
          exact ⟨p.2, p.1, rfl, hY' _ rfl⟩
        · rw [if_neg (by simpa using hlt)]
          rw [decide_eq_false hlt, Bool.false_and] at hY'
          have e : decide ((p.1 : Int) < (n : Int)) = false := decide_eq_false (by omega)
          show Y (.bl (decide ((p.1 : Int) < (n : Int)))) μ
          rw [e]
          exact hY' _ rfl
      · refine ⟨_, rfl, ret_bl ?_⟩
        rw [hj] at q
        rw [zip_eq, List.all_map, List.all_map]
        exact q
    rw [Bool.not_eq_true] at hi
    rw [hi] at hj ⊢
    rw [if_neg Bool.false_ne_true] at hj
    rw [if_neg Bool.false_ne_true]
    refine ⟨h, atI0, ?_⟩
    dsimp only [aC, neA]
    refine eqB_s (by decide) hh (by decide +kernel) ?_
    by_cases hf : isS "few" h = true
    case neg =>
      rw [Bool.not_eq_true] at hf
      rw [hf] at hj ⊢
      exact ret_false q hj
    rw [hf] at hj ⊢
    rw [if_pos rfl] at hj
    refine ⟨_, atI1, lc_bl (iN r) (fun x => match x with | .int a => decide ((sets.length : Int) ≤ a) | _ => false) (by rw [iN_len]; exact hz) trivial ?_ ?_⟩
    · intro x hx Y N hY
      obtain ⟨y, hy, rfl⟩ := mem_iN hx
      show gcName 4 _ [some (.int (n : Nat)), some (tN sets), some (.tup [h, .tup (iN r)]), none, none, none, none] _
      refine ⟨(iN sets).length, rfl, ?_⟩
      rw [iN_len]
      exact hY _ rfl
    refine ⟨_, rfl, _, rfl, ?_⟩
    have eb : (((iN r).map fun x => match x with | .int a => decide ((sets.length : Int) ≤ a) | _ => false).any id) = !(r.all fun k => decide (k < sets.length)) := by
      unfold iN
      rw [List.any_map, List.any_map, List.all_eq_not_any_not, Bool.not_not]
      congr 1
      funext k
      show decide ((sets.length : Int) ≤ (k : Int)) = !decide (k < sets.length)
      by_cases hk : k < sets.length
      · rw [decide_eq_false (by omega), decide_eq_true hk]; rfl
      · rw [decide_eq_true (by omega), decide_eq_false hk]; rfl
    rw [eb]
    cases hall : r.all fun k => decide (k < sets.length) with
    | false =>
      rw [hall, Bool.false_and] at hj
      exact ret_false q hj
    | true =>
      rw [hall, Bool.true_and] at hj
      rw [List.all_eq_true] at hall
      have hkl : ∀ k, k ∈ r → k < sets.length := fun k hk => of_decide_eq_true (hall k hk)
      refine ⟨_, atI1, ?_⟩
      refine ⟨fun i ρ μ' => (∃ x, ρ = [some (.int (n : Nat)), some (tN sets), some (.tup [h, .tup (iN r)]), some (.int ((un sets (r.take i) : Nat) : Int)), x, none, none]) ∧ μ' = μ, ⟨⟨none, by rw [List.take_zero]; rfl⟩, rfl⟩, fun _ _ _ _ _ => trivial, ?_, ?_⟩
      · rintro i d _ _ hd ⟨⟨x, rfl⟩, rfl⟩
        obtain ⟨y, hy, rfl⟩ := tN_inv hd
        have hyl := hkl y (List.mem_of_getElem? hy)
        have hs : sets[y]? = some sets[y] := List.getElem?_eq_getElem hyl
        refine ⟨_, atI_nat (tN_get hs), ⟨some (.int (y : Nat)), ?_⟩, rfl⟩
        have ht : r.take (i + 1) = r.take i ++ [y] := by
          obtain ⟨hl, e⟩ := List.getElem?_eq_some_iff.mp hy
          rw [← e, List.take_succ_eq_append_getElem hl]
        rw [ht, un_snoc, hs]
        show [_, _, _, some (A.int (Builtin.bitOr ((un sets (r.take i) : Nat) : Int) ((sets[y] : Nat) : Int))), _, _, _] = _
        rw [bor_nn]
        rfl
      · rintro _ _ ⟨⟨x, rfl⟩, rfl⟩
        rw [iN_len, List.take_length]
        refine ⟨un sets r, rfl, _, atI1, _, rfl, ?_⟩
        show Ret _ Q (.bl (decide (((mem (un sets r)).length : Int) < (((iN r).length : Nat) : Int)))) _
        rw [iN_len]
        refine ret_bl ?_
        have e : decide (((mem (un sets r)).length : Int) < ((r.length : Nat) : Int)) = decide ((mem (un sets r)).length < r.length) := by
          rw [Bool.eq_iff_iff, decide_eq_true_eq, decide_eq_true_eq]; omega
        rw [e, ← hj]
        exact q
end K26
end

section
local macro_rules | `(tactic| walk_at "st") => `(tactic| simp only [XL.aRet, XL.aOp, XL.aVar, XL.aC, XL.astart, XL.aSeq, XL.aAsg, XL.gaName, XL.gaSub,
  XL.aCell, XL.aLst, XL.aNil, XL.aCons, XL.aTup, XL.aTest, XL.aTru, XL.aIfS, XL.aNext, XL.aExpr, XL.aAug, XL.aCall, XL.aAnd, XL.aOr, XL.aNot, XL.aIf, XL.aAndV, XL.aOrV, XL.aNotV, XL.aAny, XL.aAll, XL.aYes, XL.gcName,
  List.map, List.length, List.replicate, List.cons_append, List.nil_append, List.append_nil, List.getElem?_cons_zero, List.getElem?_cons_succ, List.getElem?_nil, List.set_cons_zero, List.set_cons_succ, List.length_cons, List.length_nil, Bool.not_true, Bool.not_false, if_true, if_false, Bool.false_eq_true])
namespace K26
open PySem PySem.Spec PyProof.Rows L2 XL
theorem mem_ins : ∀ (r S : List Nat) (y : Nat), y ∈ r.foldl insN S ↔ y ∈ S ∨ y ∈ r
  | [], S, y => by simp
  | a :: r, S, y => by
    rw [List.foldl_cons, mem_ins r, List.mem_cons]
    unfold insN
    split
    · rename_i h
      exact ⟨fun q => q.elim .inl fun z => .inr (.inr z), fun q => q.elim .inl fun z => z.elim (fun e => .inl (e ▸ h)) .inr⟩
    · rw [List.mem_append, List.mem_singleton]
      exact ⟨fun q => q.elim (fun z => z.elim .inl fun e => .inr (.inl e)) fun z => .inr (.inr z), fun q => q.elim (fun z => .inl (.inl z)) fun z => z.elim (fun e => .inl (.inr e)) .inr⟩
theorem ints_nodup {r : List Nat} (h : r.Nodup) : (r.map fun (y : Nat) => (y : Int)).Nodup := List.Pairwise.map _ (fun a b (hab : a ≠ b) => fun e => hab (by omega)) h
theorem sorted_len {r : List Nat} {ns' : List Int} (hp : ns'.Pairwise (· < ·)) (hm : ∀ k : Int, k ∈ ns' ↔ k ∈ r.map fun (y : Nat) => (y : Int)) : ns'.length = r.length ↔ r.Nodup := by
  have hn : ns'.Nodup := hp.imp fun h => by omega
  constructor
  · intro e
    have il := ins_len r [] .nil
    rw [List.nil_append, List.length_nil, Nat.zero_add] at il
    rw [← il.2]
    have h1 : ns'.length ≤ ((r.foldl insN []).map fun (y : Nat) => (y : Int)).length := sub_len hn fun i hi => by
      obtain ⟨y, hy, rfl⟩ := List.mem_map.mp ((hm i).mp hi)
      exact List.mem_map.mpr ⟨y, (mem_ins r [] y).mpr (.inr hy), rfl⟩
    rw [List.length_map] at h1
    omega
  · intro h
    have h1 := sub_len hn fun i hi => (hm i).mp hi
    have h2 := sub_len (ints_nodup h) fun i hi => (hm i).mpr hi
    rw [List.length_map] at h1 h2
    omega
theorem range_zip (n : Nat) : ∀ r sets : List Nat, r.length = sets.length → ((List.range r.length).map fun k => decide ((r[k]?).getD 0 < n) && ((sets[k]?).getD 0).testBit ((r[k]?).getD 0)) = (r.zip sets).map fun p => decide (p.1 < n) && p.2.testBit p.1
  | [], [], _ => rfl
  | [], _ :: _, h => by cases h
  | _ :: _, [], h => by cases h
  | x :: r, s :: t, h => by
    rw [List.length_cons, List.range_succ_eq_map, List.map_cons, List.map_map]
    show _ = _ :: (r.zip t).map _
    rw [← range_zip n r t (by simpa using h)]
    rfl
theorem dec_ge (i : Int) : (!decide (i < 0)) = decide (0 ≤ i) := by
  by_cases hi : 0 ≤ i
  · rw [decide_eq_true hi, decide_eq_false (by omega)]; rfl
  · rw [decide_eq_false hi, decide_eq_true (by omega)]; rfl
theorem r__law_right (ds : List A) (μ : Mem) (Q : AK) (h : s__law_right ds μ Q) : a__law_right { nx := fun _ μ' => Ret μ Q .non μ', rt := Ret μ Q } (astart n__law_right.length ds) μ := by
  obtain ⟨n, sets, t, rfl, hn, sm, ho, q⟩ := h
  refine head_ok ho (fun hb => ret_false q (judge_bad hb)) ?_
  rintro h row rfl hh hl hw
  show aSeq _ _ _ [some (.int (n : Nat)), some (tN sets), some (.tup [h, .tup row]), none, none, none, none] μ
  have hz : row.length ≤ sizeLine := by rw [sizeLine_eq]; omega
  refine ⟨_, atI1, ?_⟩
  refine lc_bl row (fun x => !notNat x) hz trivial ?_ ?_
  · intro x hx Y N hY
    have hox := hw x hx
    show gcName 6 _ [some (.int (n : Nat)), some (tN sets), some (.tup [h, .tup row]), some (.tup row), none, none, none] _
    walk_at "st"
    refine isI_out hox ?_
    cases x with
    | int i => exact ⟨true, rfl, hY _ (dec_ge i)⟩
    | _ => exact ⟨false, rfl, hY false rfl⟩
  refine ⟨_, rfl, _, rfl, ?_⟩
  have ea : (row.map fun x => !notNat x).all id = !(nats row).isNone := by
    rw [← nats_none, List.all_map, List.any_eq_not_all_not, Bool.not_not]
    rfl
  rw [ea]
  cases en : nats row with
  | none => exact ret_false q (judge_none en)
  | some r =>
    rw [judge_tup en] at q
    have er := nats_some en
    subst er
    rw [iN_len] at hz hl
    have hsz : r.length ≤ sizeLine := hz
    refine ⟨r.map fun (y : Nat) => (y : Int), by unfold iN; rw [List.map_map]; rfl, by rw [List.length_map]; omega, fun ns' hp hm => ?_⟩
    have hsl := sorted_len hp hm
    refine ⟨_, rfl, ?_⟩
    rw [iN_len, List.length_map]
    show (if (!(((ns'.length : Nat) : Int) == ((r.length : Nat) : Int))) = true then _ else _)
    by_cases hnd : r.Nodup
    case neg =>
      have hne : ns'.length ≠ r.length := fun e => hnd (hsl.mp e)
      rw [if_pos (by simp; omega)]
      exact ret_false q (nodup_judge hnd)
    rw [hsl.mpr hnd, if_neg (by simp)]
    have hj : judgeR n sets h r = if isS "items" h then decide (r.length = sets.length) && (r.zip sets).all fun p => decide (p.1 < n) && p.2.testBit p.1
        else if isS "few" h then (r.all fun k => decide (k < sets.length)) && decide ((mem (un sets r)).length < r.length) else false := if_pos hnd
    have hz6 : sets.length ≤ 6 := sm.1
    refine ⟨h, atI0, ?_⟩
    dsimp only [aC, eqA]
    refine eqB_s (by decide) hh (by decide +kernel) ?_
    by_cases hi : isS "items" h = true
    · rw [hi] at hj ⊢
      rw [if_pos rfl] at hj
      rw [if_pos rfl]
      refine ⟨_, rfl, _, rfl, ?_⟩
      rw [iN_len, show (List.map (fun (i : Nat) => A.int (i : Nat)) sets).length = sets.length from List.length_map _]
      refine ⟨_, rfl, ?_⟩
      show (if (((r.length : Nat) : Int) == ((sets.length : Nat) : Int)) = true then _ else _)
      by_cases hle : r.length = sets.length
      case neg =>
        rw [if_neg (by simp; omega)]
        rw [show (((r.length : Nat) : Int) == ((sets.length : Nat) : Int)) = false from beq_eq_false_iff_ne.mpr (by omega)]
        exact ret_false q (by rw [hj, decide_eq_false hle]; rfl)
      rw [if_pos (by simp; omega)]
      rw [decide_eq_true hle, Bool.true_and] at hj
      refine ⟨_, rfl, by omega, by rw [iN_len]; omega, ?_⟩
      rw [iN_len, Int.toNat_natCast]
      refine lc_bl (intsFrom 0 r.length) (St := fun _ => True) (fun x => match x with | .int k => decide ((r[k.toNat]?).getD 0 < n) && ((sets[k.toNat]?).getD 0).testBit ((r[k.toNat]?).getD 0) | _ => false) (by rw [intsFrom_len]; exact hz) trivial ?_ ?_
      · intro x hx Y N hY
        obtain ⟨k, hk, rfl⟩ := List.mem_map.mp hx
        rw [List.mem_range] at hk
        rw [Int.zero_add] at hY ⊢
        have hr : r[k]? = some r[k] := List.getElem?_eq_getElem hk
        have hs : sets[k]? = some sets[k] := List.getElem?_eq_getElem (by omega)
        have hY' : ∀ b, (decide (r[k] < n) && sets[k].testBit r[k]) = b → Y (.bl b) μ := fun b e => hY b (by
          show (decide ((r[((k : Nat) : Int).toNat]?).getD 0 < n) && ((sets[((k : Nat) : Int).toNat]?).getD 0).testBit ((r[((k : Nat) : Int).toNat]?).getD 0)) = b
          rw [Int.toNat_natCast, hr, hs]
          exact e)
        show gcName 5 (.int (k : Nat)) [some (.int (n : Nat)), some (tN sets), some (.tup [h, .tup (iN r)]), some (.tup (iN r)), none, none, none] _
        generalize r[k] = y at hr hY'
        generalize sets[k] = s at hs hY'
        refine ⟨_, atI_nat (tN_get hr), ?_⟩
        show (∃ k, some (decide ((y : Int) < (n : Int))) = some k ∧ if k = true then _ else _)
        refine ⟨_, rfl, ?_⟩
        by_cases hlt : y < n
        · rw [if_pos (by simpa using hlt)]
          rw [decide_eq_true hlt, Bool.true_and] at hY'
          refine ⟨_, atI_nat (tN_get hs), _, atI_nat (tN_get hr), ?_⟩
          exact ⟨s, y, rfl, by omega, hY' _ rfl⟩
        · rw [if_neg (by simpa using hlt)]
          rw [decide_eq_false hlt, Bool.false_and] at hY'
          have e : decide ((y : Int) < (n : Int)) = false := decide_eq_false (by omega)
          show Y (.bl (decide ((y : Int) < (n : Int)))) μ
          rw [e]
          exact hY' _ rfl
      · refine ⟨_, rfl, ret_bl ?_⟩
        rw [hj] at q
        have e2 := range_zip n r sets hle
        have e3 : ((intsFrom 0 r.length).map fun x => match x with | .int k => decide ((r[k.toNat]?).getD 0 < n) && ((sets[k.toNat]?).getD 0).testBit ((r[k.toNat]?).getD 0) | _ => false) = (List.range r.length).map fun k => decide ((r[k]?).getD 0 < n) && ((sets[k]?).getD 0).testBit ((r[k]?).getD 0) := by
          unfold XL.intsFrom
          rw [List.map_map]
          refine List.map_congr_left fun k _ => ?_
          show (decide ((r[((0 : Int) + (k : Nat)).toNat]?).getD 0 < n) && ((sets[((0 : Int) + (k : Nat)).toNat]?).getD 0).testBit ((r[((0 : Int) + (k : Nat)).toNat]?).getD 0)) = _
          rw [Int.zero_add, Int.toNat_natCast]
        rw [e3, e2, List.all_map]
        exact q
    rw [Bool.not_eq_true] at hi
    rw [hi] at hj ⊢
    rw [if_neg Bool.false_ne_true] at hj
    rw [if_neg Bool.false_ne_true]
    refine ⟨h, atI0, ?_⟩
    dsimp only [aC, neA]
    refine eqB_s (by decide) hh (by decide +kernel) ?_
    by_cases hf : isS "few" h = true
    case neg =>
      rw [Bool.not_eq_true] at hf
      rw [hf] at hj ⊢
      exact ret_false q hj
    rw [hf] at hj ⊢
    rw [if_pos rfl] at hj
    refine lc_bl (iN r) (fun x => match x with | .int a => decide ((sets.length : Int) ≤ a) | _ => false) (by rw [iN_len]; exact hz) trivial ?_ ?_
    · intro x hx Y N hY
      obtain ⟨y, hy, rfl⟩ := mem_iN hx
      show gcName 5 _ [some (.int (n : Nat)), some (tN sets), some (.tup [h, .tup (iN r)]), some (.tup (iN r)), none, none, none] _
      refine ⟨(iN sets).length, rfl, ?_⟩
      rw [iN_len]
      exact hY _ rfl
    refine ⟨_, rfl, _, rfl, ?_⟩
    have eb : (((iN r).map fun x => match x with | .int a => decide ((sets.length : Int) ≤ a) | _ => false).any id) = !(r.all fun k => decide (k < sets.length)) := by
      unfold iN
      rw [List.any_map, List.any_map, List.all_eq_not_any_not, Bool.not_not]
      congr 1
      funext k
      show decide ((sets.length : Int) ≤ (k : Int)) = !decide (k < sets.length)
      by_cases hk : k < sets.length
      · rw [decide_eq_false (by omega), decide_eq_true hk]; rfl
      · rw [decide_eq_true (by omega), decide_eq_false hk]; rfl
    rw [eb]
    cases hall : r.all fun k => decide (k < sets.length) with
    | false =>
      rw [hall, Bool.false_and] at hj
      exact ret_false q hj
    | true =>
      rw [hall, Bool.true_and] at hj
      rw [List.all_eq_true] at hall
      have hkl : ∀ k, k ∈ r → k < sets.length := fun k hk => of_decide_eq_true (hall k hk)
      refine ⟨fun i ρ μ' => (∃ x, ρ = [some (.int (n : Nat)), some (tN sets), some (.tup [h, .tup (iN r)]), some (.tup (iN r)), some (.int ((un sets (r.take i) : Nat) : Int)), x, none]) ∧ μ' = μ, ⟨⟨none, by rw [List.take_zero]; rfl⟩, rfl⟩, fun _ _ _ _ _ => trivial, ?_, ?_⟩
      · rintro i d _ _ hd ⟨⟨x, rfl⟩, rfl⟩
        obtain ⟨y, hy, rfl⟩ := tN_inv hd
        have hyl := hkl y (List.mem_of_getElem? hy)
        have hs : sets[y]? = some sets[y] := List.getElem?_eq_getElem hyl
        refine ⟨_, atI_nat (tN_get hs), ⟨some (.int (y : Nat)), ?_⟩, rfl⟩
        have ht : r.take (i + 1) = r.take i ++ [y] := by
          obtain ⟨hl, e⟩ := List.getElem?_eq_some_iff.mp hy
          rw [← e, List.take_succ_eq_append_getElem hl]
        rw [ht, un_snoc, hs]
        show [_, _, _, _, some (A.int (Builtin.bitOr ((un sets (r.take i) : Nat) : Int) ((sets[y] : Nat) : Int))), _, _] = _
        rw [bor_nn]
        rfl
      · rintro _ _ ⟨⟨x, rfl⟩, rfl⟩
        rw [iN_len, List.take_length]
        refine ⟨un sets r, rfl, Nat.lt_trans (un_lt sm.2 r) (by decide), _, rfl, ?_⟩
        show Ret _ Q (.bl (decide (((mem (un sets r)).length : Int) < (((iN r).length : Nat) : Int)))) _
        rw [iN_len]
        refine ret_bl ?_
        have e : decide (((mem (un sets r)).length : Int) < ((r.length : Nat) : Int)) = decide ((mem (un sets r)).length < r.length) := by
          rw [Bool.eq_iff_iff, decide_eq_true_eq, decide_eq_true_eq]; omega
        rw [e, ← hj]
        exact q
end K26
end

section
local macro_rules | `(tactic| walk_at "st") => `(tactic| simp only [XL.aRet, XL.aOp, XL.aVar, XL.aC, XL.astart, XL.aSeq, XL.aAsg, XL.gaName, XL.gaSub,
  XL.aCell, XL.aLst, XL.aNil, XL.aCons, XL.aTup, XL.aTest, XL.aTru, XL.aIfS, XL.aNext, XL.aExpr, XL.aAug, XL.aCall, XL.aAnd, XL.aOr, XL.aNot, XL.aIf, XL.aAndV, XL.aOrV, XL.aNotV, XL.aAny, XL.aAll, XL.aYes, XL.gcName, XL.aSl, XL.aNoPart, XL.aPart, XL.slA,
  List.map, List.length, List.replicate, List.cons_append, List.nil_append, List.append_nil, List.getElem?_cons_zero, List.getElem?_cons_succ, List.getElem?_nil, List.set_cons_zero, List.set_cons_succ, List.length_cons, List.length_nil, Bool.not_true, Bool.not_false, if_true, if_false, Bool.false_eq_true])
namespace K26
open PySem PySem.Spec PyProof.Rows L2 XL
theorem leaf_out {t : A} (h : leaf t) : ∀ d, OutD d t
  | 0 => h
  | _ + 1 => .inl h
theorem inl_leaf {t : A} (h : InL t) : leaf t := by
  cases t with
  | int i => have h' : 0 ≤ i ∧ i ≤ 100 := h; show -1000 ≤ i ∧ i ≤ 1000; omega
  | str s => exact h
  | _ => exact h.elim
theorem in_out : ∀ (d : Nat) (t : A), InD d t → OutD d t
  | 0, t, h => inl_leaf h
  | d + 1, t, h => by
    rcases h with h | ⟨xs, rfl, hl, h⟩
    · exact .inl (inl_leaf h)
    · exact .inr ⟨xs, rfl, by omega, fun x hx => in_out d x (h x hx)⟩
theorem out_mono : ∀ (d : Nat) (t : A), OutD d t → OutD (d + 1) t
  | 0, t, h => .inl h
  | d + 1, t, h => by
    rcases h with h | ⟨xs, rfl, hl, h⟩
    · exact .inl h
    · exact .inr ⟨xs, rfl, hl, fun x hx => out_mono d x (h x hx)⟩
theorem lts_of {n : Nat} : ∀ {xs : List A}, (∀ x, x ∈ xs → x.lt n = true) → A.lts n xs = true
  | [], _ => by simp [A.lts]
  | x :: xs, h => by
    simp only [A.lts, Bool.and_eq_true]
    exact ⟨h x List.mem_cons_self, lts_of fun y hy => h y (List.mem_cons_of_mem _ hy)⟩
theorem leaf_lt {n : Nat} {t : A} (h : leaf t) : t.lt n = true := by
  cases t <;> first | (simp [A.lt]; done) | exact h.elim
theorem out_lt {n : Nat} : ∀ (d : Nat) (t : A), OutD d t → t.lt n = true
  | 0, t, h => leaf_lt h
  | d + 1, t, h => by
    rcases h with h | ⟨xs, rfl, hl, h⟩
    · exact leaf_lt h
    · simp only [A.lt]
      exact lts_of fun x hx => out_lt d x (h x hx)
theorem one_out (d : Nat) : OutD (d + 1) (.tup [.str "one"]) := .inr ⟨_, rfl, by decide, fun x hx => by
  rw [List.mem_singleton.mp hx]
  exact leaf_out (by show PyData.strOk "one" = true; decide +kernel) d⟩
theorem nil_out (d : Nat) : OutD (d + 1) (.tup []) := .inr ⟨_, rfl, by decide, fun x hx => by cases hx⟩
def menu1 : List A := [.non, .int 0, .tup [], .str "gen", .str "", .bl true, .str "in", .tup [.str "one"]]
def menu2 (i : Int) : List A := [.int (i + 1), .int (i - 1), .int 0, .int (0 - 1), .int 1, .int (i + 2), .int (i - 2), .non, .tup [], .int (i * 7), .bl true, .str "one"]
theorem menu1_out (d : Nat) : ∀ x, x ∈ menu1 → OutD (d + 1) x := fun x hx => by
  have s1 : ∀ s : Str, PyData.strOk s = true → OutD (d + 1) (.str s) := fun s h => leaf_out (show leaf (.str s) from h) _
  simp only [menu1, List.mem_cons, List.not_mem_nil, or_false] at hx
  rcases hx with rfl | rfl | rfl | rfl | rfl | rfl | rfl | rfl
  · exact leaf_out (show leaf .non from trivial) _
  · exact leaf_out (show leaf (.int 0) from ⟨by decide, by decide⟩) _
  · exact nil_out d
  · exact s1 _ (by decide +kernel)
  · exact s1 _ (by decide +kernel)
  · exact leaf_out (show leaf (.bl true) from trivial) _
  · exact s1 _ (by decide +kernel)
  · exact one_out d
theorem menu2_out (d : Nat) {i : Int} (h0 : 0 ≤ i) (h1 : i ≤ 100) : ∀ x, x ∈ menu2 i → OutD (d + 1) x := fun x hx => by
  have s1 : ∀ s : Str, PyData.strOk s = true → OutD (d + 1) (.str s) := fun s h => leaf_out (show leaf (.str s) from h) _
  have n1 : ∀ j : Int, -1000 ≤ j → j ≤ 1000 → OutD (d + 1) (.int j) := fun j a b => leaf_out (show leaf (.int j) from ⟨a, b⟩) _
  simp only [menu2, List.mem_cons, List.not_mem_nil, or_false] at hx
  rcases hx with rfl | rfl | rfl | rfl | rfl | rfl | rfl | rfl | rfl | rfl | rfl | rfl
  · exact n1 _ (by omega) (by omega)
  · exact n1 _ (by omega) (by omega)
  · exact n1 _ (by omega) (by omega)
  · exact n1 _ (by omega) (by omega)
  · exact n1 _ (by omega) (by omega)
  · exact n1 _ (by omega) (by omega)
  · exact n1 _ (by omega) (by omega)
  · exact leaf_out (show leaf .non from trivial) _
  · exact nil_out d
  · exact n1 _ (by omega) (by omega)
  · exact leaf_out (show leaf (.bl true) from trivial) _
  · exact s1 _ (by decide +kernel)
def spTail : ATS := (aSeq (aIfS (aOr (aTru (aIsi (aVar 1) "bool")) (aNot (aTru (aIsi (aVar 1) "int")))) (aRet (aCall s__law_pick (aCons (aVar 0) (aCons (aCell (aLst (aCons (aC .non) (aCons (aC (.int 0)) (aCons (aTup aNil) (aCons (aC (.str "gen")) (aCons (aC (.str "")) (aCons (aC (.bl true)) (aCons (aC (.str "in")) (aCons (aTup (aCons (aC (.str "one")) aNil)) aNil)))))))))) aNil)))) aNext)
  (aRet (aCall s__law_pick (aCons (aVar 0) (aCons (aCell (aLst (aCons (aOp addA (aVar 1) (aC (.int 1))) (aCons (aOp subA (aVar 1) (aC (.int 1))) (aCons (aC (.int 0)) (aCons (aOp subA (aC (.int 0)) (aC (.int 1))) (aCons (aC (.int 1)) (aCons (aOp addA (aVar 1) (aC (.int 2))) (aCons (aOp subA (aVar 1) (aC (.int 2))) (aCons (aC .non) (aCons (aTup aNil) (aCons (aOp mulA (aVar 1) (aC (.int 7))) (aCons (aC (.bl true)) (aCons (aC (.str "one")) aNil)))))))))))))) aNil)))))
theorem pick_new {xs : List A} {d : Nat} {c0 c1 : Cell} {r : Mem} {Q : AK} (g : Good c0 c1) (h1 : 1 ≤ xs.length) (h2 : xs.length ≤ 20) (ho : ∀ x, x ∈ xs → OutD (d + 1) x)
    (q : ∀ t' c2 g', OutD (d + 1) t' → Good c0 c2 → Q t' (c0 :: c2 :: (r ++ g'))) : s__law_pick [.ref 1, .ref (c0 :: c1 :: r).length] ((c0 :: c1 :: r) ++ [.lst xs]) Q :=
  ⟨r.length, xs, c0, c1, r ++ [.lst xs], rfl, rfl, by rw [List.getElem?_append_right (Nat.le_refl _), Nat.sub_self]; rfl, g, h1, by omega, lts_of fun x hx => out_lt _ x (ho x hx), fun x c2 hx g2 => q x c2 _ (ho x hx) g2⟩
theorem isi_any {t : A} {ty : String} (h : tyN t [] = some ty ∨ True) : True := trivial
theorem in_ty {d : Nat} {t : A} (h : InD d t) (μ : Mem) : tyN t μ = some (tyO t) ∧ kitB (tyO t) "int" = some (tyO t == "bool" || tyO t == "int") ∧ kitB (tyO t) "bool" = some (tyO t == "bool") ∧ kitB (tyO t) "tuple" = some (tyO t == "tuple") := by
  have k := (out_ty (in_out d t h) μ).1
  exact ⟨k, kit_int _ (tyN_mem k)⟩
theorem tail_ok {D : AEnds} {d : Nat} {t : A} {c0 c1 : Cell} {r : Mem} {l : List (Option A)} (g : Good c0 c1) (hi : InD d t) (q : ∀ t' c2 g', OutD (d + 1) t' → Good c0 c2 → D.rt t' (c0 :: c2 :: (r ++ g'))) :
    spTail D (some (.ref 1) :: some t :: l) (c0 :: c1 :: r) := by
  obtain ⟨k1, k2, k3, _⟩ := in_ty hi (c0 :: c1 :: r)
  have bad : ∀ ρ', (aRet (aCall s__law_pick (aCons (aVar 0) (aCons (aCell (aLst (aCons (aC .non) (aCons (aC (.int 0)) (aCons (aTup aNil) (aCons (aC (.str "gen")) (aCons (aC (.str "")) (aCons (aC (.bl true)) (aCons (aC (.str "in")) (aCons (aTup (aCons (aC (.str "one")) aNil)) aNil)))))))))) aNil)))) { D with nx := ρ' } (some (.ref 1) :: some t :: l) (c0 :: c1 :: r) := fun ρ' => by
    refine ⟨by decide, by decide, by decide, ?_⟩
    exact pick_new (xs := menu1) g (by decide) (by decide) (menu1_out d) q
  refine ⟨_, _, k1, k3, _, rfl, ?_⟩
  cases t with
  | int i =>
    refine ⟨_, _, k1, k2, _, rfl, ?_⟩
    have hb : 0 ≤ i ∧ i ≤ 100 := by
      cases d with
      | zero => exact hi
      | succ d =>
        rcases hi with hi | ⟨_, e, _⟩
        · exact hi
        · cases e
    refine ⟨by decide, .inr ⟨by decide, by decide⟩, by show 12 ≤ sizeLine; decide, ?_⟩
    exact pick_new (xs := menu2 i) g (by simp [menu2]) (by simp [menu2]) (menu2_out d hb.1 hb.2) q
  | bl b => exact bad _
  | _ => exact ⟨_, _, k1, k2, _, rfl, bad _⟩
theorem take_ok {m : Nat} {c0 c1 : Cell} {r : Mem} {Q : AK} (g : Good c0 c1) (h1 : 1 ≤ m) (h2 : m ≤ 1000) (q : ∀ (x : Nat) (c2 : Cell), x < m → Good c0 c2 → Q (.int (x : Nat)) (c0 :: c2 :: r)) : s__law_take [.ref 1, .int (m : Nat)] (c0 :: c1 :: r) Q :=
  ⟨m, c0, c1, r, rfl, rfl, g, h1, by omega, q⟩
def spBody (r__law_spoil : ASp) : ATS := (aSeq (aIfS (aTest (aOp eqA (aVar 3) (aC (.int 0)))) (aRet (aOp addA (aSl (aVar 1) aNoPart (aPart (aVar 2))) (aSl (aVar 1) (aPart (aOp addA (aVar 2) (aC (.int 1)))) aNoPart))) aNext)
  (aSeq (aIfS (aTest (aOp eqA (aVar 3) (aC (.int 1)))) (aRet (aOp addA (aOp addA (aSl (aVar 1) aNoPart (aPart (aVar 2))) (aTup (aCons (aOp ixA (aVar 1) (aVar 2)) aNil))) (aSl (aVar 1) (aPart (aVar 2)) aNoPart))) aNext)
  (aSeq (aIfS (aTest (aOp eqA (aVar 3) (aC (.int 3)))) (aRet (aOp addA (aVar 1) (aOp mulA (aTup (aCons (aC (.int 0)) aNil)) (aOp addA (aC (.int 1)) (aCall s__law_take (aCons (aVar 0) (aCons (aC (.int 3)) aNil))))))) aNext)
  (aSeq (aIfS (aTest (aOp eqA (aVar 3) (aC (.int 2)))) (aSeq (aAsg (aCall s__law_take (aCons (aVar 0) (aCons (aLen (aVar 1)) aNil))) (gaName 4))
  (aSeq (aAsg (aCell (aLstOf (aSeqQ (aVar 1)))) (gaName 5))
  (aSeq (aAsg (aTup (aCons (aOp ixA (aVar 5) (aVar 2)) (aCons (aOp ixA (aVar 5) (aVar 4)) aNil))) (gaTup 2 (gaCons (gaSub (aVar 5) (aVar 4)) (gaCons (gaSub (aVar 5) (aVar 2)) gaNil))))
  (aRet (aTupOf (aSeqQ (aVar 5))))))) aNext)
  (aRet (aOp addA (aOp addA (aSl (aVar 1) aNoPart (aPart (aVar 2))) (aTup (aCons (aCall r__law_spoil (aCons (aVar 0) (aCons (aOp ixA (aVar 1) (aVar 2)) aNil))) aNil))) (aSl (aVar 1) (aPart (aOp addA (aVar 2) (aC (.int 1)))) aNoPart)))))))
theorem if_eq {i j : Int} {p q : Prop} (h1 : i = j → p) (h2 : i ≠ j → q) : if (i == j) = true then p else q := by
  by_cases h : i = j
  · rw [if_pos (beq_iff_eq.mpr h)]; exact h1 h
  · rw [if_neg (by simpa using h)]; exact h2 h
theorem setA_lst {xs : List A} {j k : Nat} {v : A} {μ : Mem} {Q : Mem → Prop} (e : μ[k]? = some (.lst xs)) (h : j < xs.length) (q : Q (μ.set k (.lst (xs.set j v)))) : setA (.ref k) (.int (j : Nat)) v μ Q := by
  unfold setA
  dsimp only
  rw [e]
  refine ⟨j, ?_, q⟩
  unfold ixN
  simp
  omega
theorem swap_mem {xs : List A} {x y : A} {j k : Nat} (hx : x ∈ xs) (hy : y ∈ xs) : ∀ z, z ∈ (xs.set j y).set k x → z ∈ xs := fun z hz => by
  rcases List.mem_or_eq_of_mem_set hz with hz | rfl
  · rcases List.mem_or_eq_of_mem_set hz with hz | rfl
    · exact hz
    · exact hy
  · exact hx
theorem body_ok {D : AEnds} {m d : Nat} {xs : List A} {k menu : Nat} {c0 c1 : Cell} {r : Mem} (g : Good c0 c1) (hl : xs.length ≤ 6) (hk : k < xs.length) (hi : ∀ x, x ∈ xs → InD d x) (hd : d < m)
    (q : ∀ t' c2 g', OutD (d + 2) t' → Good c0 c2 → D.rt t' (c0 :: c2 :: (r ++ g'))) :
    spBody (s__law_spoil m) D [some (.ref 1), some (.tup xs), some (.int (k : Nat)), some (.int (menu : Nat)), none, none] (c0 :: c1 :: r) := by
  have ho : ∀ x, x ∈ xs → OutD (d + 1) x := fun x hx => out_mono d x (in_out d x (hi x hx))
  have q0 : ∀ ys, ys.length ≤ 20 → (∀ y, y ∈ ys → OutD (d + 1) y) → ∀ c2, Good c0 c2 → D.rt (.tup ys) (c0 :: c2 :: r) := fun ys h1 h2 c2 g2 => by
    have := q (.tup ys) c2 [] (.inr ⟨ys, rfl, h1, h2⟩) g2
    rw [List.append_nil] at this
    exact this
  have hxk : xs[k]? = some xs[k] := List.getElem?_eq_getElem hk
  have hmk : xs[k] ∈ xs := List.getElem_mem hk
  generalize xs[k] = x at hxk hmk
  have ht : ∀ y, y ∈ xs.take k → y ∈ xs := fun y hy => List.mem_of_mem_take hy
  have hdr : ∀ n y, y ∈ xs.drop n → y ∈ xs := fun n y hy => List.mem_of_mem_drop hy
  have lt : (xs.take k).length = k := by rw [List.length_take]; omega
  have ld : ∀ n, (xs.drop n).length = xs.length - n := fun n => List.length_drop
  have ek : ((k : Int) + 1) = ((k + 1 : Nat) : Int) := rfl
  unfold spBody
  refine if_eq (fun _ => ?_) fun n0 => if_eq (fun _ => ?_) fun n1 => if_eq (fun _ => ?_) fun n3 => if_eq (fun _ => ?_) fun n2 => ?_
  · walk_at "st"
    dsimp only [addA]
    rw [ek, cut_pre, cut_suf]
    refine ⟨by rw [lt, ld, sizeLine_eq]; omega, q0 _ (by rw [List.length_append, lt, ld]; omega) (fun y hy => ?_) _ g⟩
    rcases List.mem_append.mp hy with hy | hy
    · exact ho y (ht y hy)
    · exact ho y (hdr _ y hy)
  · walk_at "st"
    refine ixA_tup hxk ?_
    refine ⟨by decide, ?_⟩
    dsimp only [addA]
    rw [cut_pre, cut_suf]
    refine ⟨by rw [lt, sizeLine_eq]; simp; omega, by rw [List.length_append, lt, ld, sizeLine_eq]; simp; omega, q0 _ (by simp; omega) (fun y hy => ?_) _ g⟩
    rcases List.mem_append.mp hy with hy | hy
    · rcases List.mem_append.mp hy with hy | hy
      · exact ho y (ht y hy)
      · rw [List.mem_singleton.mp hy]; exact ho x hmk
    · exact ho y (hdr _ y hy)
  · walk_at "st"
    refine ⟨by decide, ?_⟩
    refine take_ok (m := 3) g (by decide) (by decide) fun z c2 hz g2 => ?_
    refine ⟨by simp, by omega, by omega, by decide, ?_⟩
    have e : ((1 : Int) + (z : Nat)).toNat = 1 + z := by omega
    rw [e]
    refine ⟨by rw [sizeLine_eq]; simp; omega, q0 _ (by simp; omega) (fun y hy => ?_) _ g2⟩
    rcases List.mem_append.mp hy with hy | hy
    · exact ho y hy
    · obtain ⟨l, hl', hy⟩ := List.mem_flatten.mp hy
      rw [(List.mem_replicate.mp hl').2] at hy
      rw [List.mem_singleton.mp hy]
      exact leaf_out (show leaf (.int 0) from ⟨by decide, by decide⟩) _
  · walk_at "st"
    refine ⟨xs.length, rfl, ?_⟩
    refine take_ok g (by omega) (by omega) fun j c2 hj g2 => ?_
    have hxj : xs[j]? = some xs[j] := List.getElem?_eq_getElem hj
    have hmj : xs[j] ∈ xs := List.getElem_mem hj
    generalize xs[j] = y at hxj hmj
    have e1 : ((c0 :: c2 :: r) ++ [Cell.lst xs])[(c0 :: c2 :: r).length]? = some (.lst xs) := get_last
    simp only [aLstOf, aSeqQ, aVar, seqQ, List.getElem?_cons_succ, List.getElem?_cons_zero]
    refine ixA_lst e1 hxk ?_
    refine ixA_lst e1 hxj ?_
    refine ⟨by decide, rfl, ?_⟩
    show setA (.ref (c0 :: c2 :: r).length) (.int (j : Nat)) x ((c0 :: c2 :: r) ++ [Cell.lst xs]) _
    refine setA_lst e1 hj ?_
    rw [set_last]
    have e2 : ((c0 :: c2 :: r) ++ [Cell.lst (xs.set j x)])[(c0 :: c2 :: r).length]? = some (.lst (xs.set j x)) := get_last
    show setA (.ref (c0 :: c2 :: r).length) (.int (k : Nat)) y ((c0 :: c2 :: r) ++ [Cell.lst (xs.set j x)]) _
    refine setA_lst e2 (by rw [List.length_set]; exact hk) ?_
    rw [set_last]
    refine ⟨rfl, ?_⟩
    show seqQ (.ref (c0 :: c2 :: r).length) ((c0 :: c2 :: r) ++ [Cell.lst ((xs.set j x).set k y)]) _
    unfold seqQ
    dsimp only
    rw [get_last]
    exact q (.tup ((xs.set j x).set k y)) c2 _ (.inr ⟨_, rfl, by rw [List.length_set, List.length_set]; omega, fun z hz => ho z (swap_mem hmj hmk z hz)⟩) g2
  · walk_at "st"
    refine ixA_tup hxk ?_
    refine ⟨d, x, c0, c1, r, rfl, rfl, g, hd, hi x hmk, fun t' c2 ht' g2 => ?_⟩
    refine ⟨by decide, ?_⟩
    dsimp only [addA]
    rw [ek, cut_pre, cut_suf]
    refine ⟨by rw [lt, sizeLine_eq]; simp; omega, by rw [List.length_append, lt, ld, sizeLine_eq]; simp; omega, q0 _ (by simp; omega) (fun y hy => ?_) _ g2⟩
    rcases List.mem_append.mp hy with hy | hy
    · rcases List.mem_append.mp hy with hy | hy
      · exact ho y (ht y hy)
      · rw [List.mem_singleton.mp hy]; exact ht'
    · exact ho y (hdr _ y hy)
def sp1 (r__law_spoil : ASp) : ATS := aIfS (aAnd (aTru (aIsi (aVar 1) "tuple")) (aAnd (aTest (aOp gtA (aLen (aVar 1)) (aC (.int 0)))) (aTest (aOp gtA (aCall s__law_take (aCons (aVar 0) (aCons (aC (.int 9)) aNil))) (aC (.int 0)))))) (aSeq (aAsg (aIf (aTest (aOp gtA (aCall s__law_take (aCons (aVar 0) (aCons (aC (.int 3)) aNil))) (aC (.int 0)))) (aCall s__law_take (aCons (aVar 0) (aCons (aLen (aVar 1)) aNil))) (aOp subA (aLen (aVar 1)) (aC (.int 1)))) (gaName 2))
  (aSeq (aAsg (aCall s__law_take (aCons (aVar 0) (aCons (aC (.int 12)) aNil))) (gaName 3))
  (spBody r__law_spoil))) aNext
theorem take_t {m : Nat} {c0 c1 : Cell} {r : Mem} {l : List (Option A)} {Q : Bool → Mem → Prop} (g : Good c0 c1) (h1 : 1 ≤ m) (h2 : m ≤ 1000) (q : ∀ (x : Nat) (c2 : Cell), x < m → Good c0 c2 → Q (decide ((0 : Int) < (x : Nat))) (c0 :: c2 :: r)) :
    aTest (aOp gtA (aCall s__law_take (aCons (aVar 0) (aCons (aC (.int (m : Nat))) aNil))) (aC (.int 0))) (some (.ref 1) :: l) (c0 :: c1 :: r) Q := by
  walk_at "st"
  exact take_ok g h1 h2 fun x c2 hx g2 => q x c2 hx g2
theorem sp1_ok {D : AEnds} {m d : Nat} {t : A} {c0 c1 : Cell} {r : Mem} (g : Good c0 c1) (hi : InD d t) (hd : d < m + 1) (nx : ∀ c2, Good c0 c2 → D.nx [some (.ref 1), some t, none, none, none, none] (c0 :: c2 :: r))
    (q : ∀ t' c2 g', OutD (d + 1) t' → Good c0 c2 → D.rt t' (c0 :: c2 :: (r ++ g'))) :
    sp1 (s__law_spoil m) D [some (.ref 1), some t, none, none, none, none] (c0 :: c1 :: r) := by
  obtain ⟨k1, k2, k3, k4⟩ := in_ty hi (c0 :: c1 :: r)
  have isl : InL t → sp1 (s__law_spoil m) D [some (.ref 1), some t, none, none, none, none] (c0 :: c1 :: r) := fun hL => by
    have e : (tyO t == "tuple") = false := by cases t <;> first | rfl | exact hL.elim
    rw [e] at k4
    exact ⟨_, _, k1, k4, _, rfl, nx c1 g⟩
  cases d with
  | zero => exact isl hi
  | succ d =>
    rcases hi with hi | ⟨xs, rfl, hl, hi⟩
    · exact isl hi
    · refine ⟨_, _, k1, k4, _, rfl, ?_⟩
      refine ⟨xs.length, rfl, ?_⟩
      show (if decide ((0 : Int) < (xs.length : Nat)) = true then _ else _)
      by_cases h0 : (0 : Int) < (xs.length : Nat)
      case neg =>
        rw [if_neg (by simpa using h0)]
        exact nx c1 g
      rw [if_pos (by simpa using h0)]
      refine take_t (m := 9) g (by decide) (by decide) fun x9 c2 _ g2 => ?_
      show (if decide ((0 : Int) < (x9 : Nat)) = true then _ else _)
      by_cases h9 : (0 : Int) < (x9 : Nat)
      case neg =>
        rw [if_neg (by simpa using h9)]
        exact nx c2 g2
      rw [if_pos (by simpa using h9)]
      have rest : ∀ (k : Nat) (c3 : Cell), k < xs.length → Good c0 c3 → (aSeq (aAsg (aCall s__law_take (aCons (aVar 0) (aCons (aC (.int 12)) aNil))) (gaName 3)) (spBody (s__law_spoil m))) D [some (.ref 1), some (.tup xs), some (.int (k : Nat)), none, none, none] (c0 :: c3 :: r) := fun k c3 hk g3 => by
        simp only [aSeq, aAsg, aCall, aCons, aNil, aVar, aC, gaName, List.getElem?_cons_succ, List.getElem?_cons_zero, List.set_cons_succ, List.set_cons_zero]
        exact take_ok (m := 12) g3 (by decide) (by decide) fun x c4 _ g4 => body_ok (d := d) g4 hl hk hi (by omega) q
      simp only [aSeq, aAsg, aIf]
      refine take_t (m := 3) g2 (by decide) (by decide) fun x3 c3 _ g3 => ?_
      show (if decide ((0 : Int) < (x3 : Nat)) = true then _ else _)
      by_cases h3 : (0 : Int) < (x3 : Nat)
      · rw [if_pos (by simpa using h3)]
        refine ⟨xs.length, rfl, ?_⟩
        have := take_ok (m := xs.length) (r := r) (Q := fun d μ1 => (aSeq (aAsg (aCall s__law_take (aCons (aVar 0) (aCons (aC (.int 12)) aNil))) (gaName 3)) (spBody (s__law_spoil m))) D [some (.ref 1), some (.tup xs), some d, none, none, none] μ1) g3 (by omega) (by omega) fun k c4 hk g4 => rest k c4 hk g4
        exact this
      · rw [if_neg (by simpa using h3)]
        refine ⟨xs.length, rfl, ?_⟩
        have e : ((xs.length : Nat) : Int) - 1 = ((xs.length - 1 : Nat) : Int) := by omega
        show (aSeq (aAsg (aCall s__law_take (aCons (aVar 0) (aCons (aC (.int 12)) aNil))) (gaName 3)) (spBody (s__law_spoil m))) D [some (.ref 1), some (.tup xs), some (.int (((xs.length : Nat) : Int) - 1)), none, none, none] (c0 :: c3 :: r)
        rw [e]
        exact rest _ c3 (by omega) g3
theorem r__law_spoil (m : Nat) (ds : List A) (μ : Mem) (Q : AK) (h : s__law_spoil (m + 1) ds μ Q) : a__law_spoil (s__law_spoil m) { nx := fun _ μ' => Ret μ Q .non μ', rt := Ret μ Q } (astart n__law_spoil.length ds) μ := by
  obtain ⟨d, t, c0, c1, r, rfl, rfl, g, hd, hi, q⟩ := h
  have fin : ∀ t' c2 g', OutD (d + 1) t' → Good c0 c2 → Ret (c0 :: c1 :: r) Q t' (c0 :: c2 :: (r ++ g')) := fun t' c2 g' h1 h2 =>
    .inl ⟨c0 :: c2 :: r, g', by simp, by simp, out_lt _ _ h1, good_keep h2, q t' c2 h1 h2⟩
  exact sp1_ok (D := { nx := fun ρ' μ' => spTail { nx := fun _ μ' => Ret (c0 :: c1 :: r) Q .non μ', rt := Ret (c0 :: c1 :: r) Q } ρ' μ', rt := Ret (c0 :: c1 :: r) Q }) g hi hd (fun c2 g2 => tail_ok g2 hi fin) fin
end K26
end

section
local macro_rules | `(tactic| walk_at "st") => `(tactic| simp only [XL.aRet, XL.aOp, XL.aVar, XL.aC, XL.astart, XL.aSeq, XL.aAsg, XL.gaName, XL.gaSub,
  XL.aCell, XL.aLst, XL.aNil, XL.aCons, XL.aTup, XL.aTest, XL.aTru, XL.aIfS, XL.aNext, XL.aExpr, XL.aAug, XL.aCall, XL.aAnd, XL.aOr, XL.aNot, XL.aIf, XL.aAndV, XL.aOrV, XL.aNotV, XL.aAny, XL.aAll, XL.aYes, XL.gcName,
  List.map, List.length, List.replicate, List.cons_append, List.nil_append, List.append_nil, List.getElem?_cons_zero, List.getElem?_cons_succ, List.getElem?_nil, List.set_cons_zero, List.set_cons_succ, List.length_cons, List.length_nil, Bool.not_true, Bool.not_false, if_true, if_false, Bool.false_eq_true])
namespace K26
open PySem PySem.Spec PyProof.Rows L2 XL
theorem un_bit (sets : List Nat) (i : Nat) : ∀ W : List Nat, (un sets W).testBit i = true ↔ ∃ w, w ∈ W ∧ ∃ s, sets[w]? = some s ∧ s.testBit i = true := by
  have key : ∀ (W : List Nat) (u : Nat), (W.foldl (fun u k => u ||| (sets[k]?).getD 0) u).testBit i = true ↔ u.testBit i = true ∨ ∃ w, w ∈ W ∧ ∃ s, sets[w]? = some s ∧ s.testBit i = true := fun W => by
    induction W with
    | nil => intro u; simp
    | cons w W ih =>
      intro u
      rw [List.foldl_cons, ih, Nat.testBit_or, Bool.or_eq_true]
      constructor
      · rintro ((h | h) | ⟨w', hw, h⟩)
        · exact .inl h
        · right
          cases e : sets[w]? with
          | none => rw [e] at h; simp at h
          | some s => rw [e] at h; exact ⟨w, List.mem_cons_self, s, e, h⟩
        · exact .inr ⟨w', List.mem_cons_of_mem _ hw, h⟩
      · rintro (h | ⟨w', hw, s, e, h⟩)
        · exact .inl (.inl h)
        · rcases List.mem_cons.mp hw with rfl | hw
          · exact .inl (.inr (by rw [e]; exact h))
          · exact .inr ⟨w', hw, s, e, h⟩
  intro W
  unfold un
  rw [key]
  simp
structure HI (sets : List Nat) (k : Nat) (M : Mat) : Prop where
  m : MOk sets M
  inj : ∀ i j a, M.lookup i = some a → M.lookup j = some a → i = j
  rng : ∀ i a, M.lookup i = some a → a < k
  cov : ∀ a, a < k → ∃ i, M.lookup i = some a
theorem HI.zero (sets : List Nat) : HI sets 0 [] := ⟨⟨⟨.nil, fun i h => by cases h⟩, fun i a h => by cases h⟩, fun i j a h => (by cases h), fun i a h => (by cases h), fun a h => by omega⟩
theorem HI.pre {sets : List Nat} {k : Nat} {M : Mat} (h : HI sets k M) : Pre sets M [] k := ⟨h.m, ⟨.nil, fun i h => by cases h⟩, h.inj, fun i e => by have := h.rng i k e; omega⟩
theorem HI.succ {sets : List Nat} {k : Nat} {M M' : Mat} (h : HI sets k M) (q : Succ sets M [] k M') : HI sets (k + 1) M' := by
  obtain ⟨i1, _, e1, inj, rng⟩ := q.up
  have nk : ∀ i a, i ≠ i1 → M'.lookup i = some a → a < k := fun i a hi e => by
    obtain ⟨j, ej⟩ := rng i a hi e
    exact h.rng j a ej
  refine ⟨q.m, fun i j a h1 h2 => ?_, fun i a e => ?_, fun a ha => ?_⟩
  · by_cases c1 : i = i1
    · by_cases c2 : j = i1
      · rw [c1, c2]
      · rw [c1, e1] at h1
        cases h1
        have := nk j k c2 h2
        omega
    · by_cases c2 : j = i1
      · rw [c2, e1] at h2
        cases h2
        have := nk i k c1 h1
        omega
      · exact inj i j a c1 c2 h1 h2
  · by_cases c : i = i1
    · rw [c, e1] at e
      cases e
      omega
    · have := nk i a c e
      omega
  · by_cases c : a = k
    · exact ⟨i1, by rw [c]; exact e1⟩
    · obtain ⟨i, hi⟩ := h.cov a (by omega)
      exact q.cov i a hi
theorem ins_nodup : ∀ (r S : List Nat), S.Nodup → (r.foldl insN S).Nodup
  | [], S, h => h
  | y :: r, S, h => by
    rw [List.foldl_cons]
    refine ins_nodup r _ ?_
    unfold insN
    split
    · exact h
    · rename_i hy
      exact List.nodup_append.mpr ⟨h, by simp, fun b hb c hc => by rw [List.mem_singleton.mp hc]; rintro rfl; exact hy hb⟩
theorem map_nodup {α β : Type} {f : α → β} : ∀ {l : List α}, l.Nodup → (∀ a b, a ∈ l → b ∈ l → f a = f b → a = b) → (l.map f).Nodup
  | [], _, _ => .nil
  | x :: l, h, hf => by
    rw [List.nodup_cons] at h
    rw [List.map_cons, List.nodup_cons]
    refine ⟨fun m => ?_, map_nodup h.2 fun a b ha hb => hf a b (List.mem_cons_of_mem _ ha) (List.mem_cons_of_mem _ hb)⟩
    obtain ⟨y, hy, e⟩ := List.mem_map.mp m
    have := hf y x (List.mem_cons_of_mem _ hy) List.mem_cons_self e
    exact h.1 (this ▸ hy)
/-- the sets whose items are too few -/
def wl (M : Mat) (S' : List Nat) : List Nat := S'.map fun y => (M.lookup y).getD 0
def wu (M : Mat) (S' : List Nat) (at_ : Nat) : List Nat := ((wl M S').foldl insN []).foldl insN [at_]
theorem mem_wu (M : Mat) (S' : List Nat) (at_ y : Nat) : y ∈ wu M S' at_ ↔ y = at_ ∨ y ∈ wl M S' := by
  unfold wu
  rw [mem_ins, mem_ins]
  simp
theorem viol_of {sets : List Nat} {M : Mat} {S' W' : List Nat} {k : Nat} (hk : k < sets.length) (h : HI sets k M) (f : Fail sets M [] k S') (hp : W'.Perm (wu M S' k)) : Viol sets W' := by
  have hcl : ∀ x, x ∈ S' → ∃ a s, M.lookup x = some a ∧ sets[a]? = some s ∧ ∀ i, s.testBit i = true → i ∈ S' := fun x hx => f.cl x hx (by simp)
  have hwl : ∀ a, a ∈ wl M S' → ∃ x, x ∈ S' ∧ M.lookup x = some a := fun a ha => by
    obtain ⟨x, hx, e⟩ := List.mem_map.mp ha
    obtain ⟨b, s, hb, _, _⟩ := hcl x hx
    rw [hb] at e
    exact ⟨x, hx, by rw [hb, ← e]; rfl⟩
  have hu : (wu M S' k).Nodup := ins_nodup _ _ (by simp)
  have hmem : ∀ y, y ∈ W' ↔ y = k ∨ y ∈ wl M S' := fun y => by rw [hp.mem_iff, mem_wu]
  refine ⟨hp.nodup_iff.mpr hu, fun w hw => ?_, ?_⟩
  · rcases (hmem w).mp hw with rfl | hw
    · exact hk
    · obtain ⟨x, _, e⟩ := hwl w hw
      have := h.rng x w e
      omega
  · have h1 : (mem (un sets W')).length ≤ S'.length := sub_len ((mem_sorted _).imp fun h => by omega) fun i hi => by
      obtain ⟨w, hw, s, es, hb⟩ := (un_bit sets i W').mp ((mem_iff _ _).mp hi)
      rcases (hmem w).mp hw with rfl | hw
      · exact f.all s i es hb
      · obtain ⟨x, hx, e⟩ := hwl w hw
        obtain ⟨a, s', ha, hs', hc⟩ := hcl x hx
        rw [e] at ha
        cases ha
        rw [es] at hs'
        cases hs'
        exact hc i hb
    have h2 : (k :: wl M S').Nodup := by
      rw [List.nodup_cons]
      refine ⟨fun m => ?_, map_nodup f.sn.1 fun a b ha hb e => ?_⟩
      · obtain ⟨x, _, e⟩ := hwl k m
        have := h.rng x k e
        omega
      · obtain ⟨a', _, e1, _⟩ := hcl a ha
        obtain ⟨b', _, e2, _⟩ := hcl b hb
        rw [e1, e2] at e
        have e' : a' = b' := e
        rw [e'] at e1
        exact h.inj a b b' e1 e2
    have h3 : (k :: wl M S').length ≤ W'.length := sub_len h2 fun i hi => (hmem i).mpr (List.mem_cons.mp hi)
    rw [List.length_cons, wl, List.length_map] at h3
    omega
/-- who has which item -/
def bk (M : Mat) : Mat := ((M.map (·.1)).filterMap fun y => (M.lookup y).map fun a => (a, y)).foldl (fun B p => putN B p.1 p.2) []
theorem fold_look (a : Nat) : ∀ (P B : Mat), (∀ y, (P.foldl (fun B p => putN B p.1 p.2) B).lookup a = some y → B.lookup a = some y ∨ (a, y) ∈ P) ∧
    (((∃ y, (a, y) ∈ P) ∨ (B.lookup a).isSome = true) → ((P.foldl (fun B p => putN B p.1 p.2) B).lookup a).isSome = true)
  | [], B => ⟨fun y h => .inl h, fun h => h.elim (fun ⟨_, h⟩ => by cases h) id⟩
  | (b, z) :: P, B => by
    obtain ⟨h1, h2⟩ := fold_look a P (putN B b z)
    rw [List.foldl_cons]
    rw [look_putN] at h1 h2
    refine ⟨fun y h => ?_, fun h => h2 ?_⟩
    · rcases h1 y h with q | q
      · split at q
        · rename_i e; subst e; cases q; exact .inr List.mem_cons_self
        · exact .inl q
      · exact .inr (List.mem_cons_of_mem _ q)
    · by_cases e : a = b
      · right; rw [if_pos e]; rfl
      · rw [if_neg e]
        rcases h with ⟨y, h⟩ | h
        · rcases List.mem_cons.mp h with q | q
          · cases q; exact absurd rfl e
          · exact .inl ⟨y, q⟩
        · exact .inr h
theorem look_mem {M : Mat} {y a : Nat} (h : M.lookup y = some a) : y ∈ M.map (·.1) := by
  induction M with
  | nil => cases h
  | cons p M ih =>
    rw [List.map_cons, List.mem_cons]
    by_cases e : y = p.1
    · exact .inl e
    · rw [List.lookup_cons, beq_eq_false_iff_ne.mpr e] at h
      exact .inr (ih h)
theorem mem_bk {M : Mat} {a y : Nat} : (a, y) ∈ ((M.map (·.1)).filterMap fun y => (M.lookup y).map fun a => (a, y)) ↔ M.lookup y = some a := by
  rw [List.mem_filterMap]
  constructor
  · rintro ⟨z, hz, e⟩
    cases ez : M.lookup z with
    | none => rw [ez] at e; cases e
    | some b => rw [ez] at e; cases e; exact ez
  · intro h
    exact ⟨y, look_mem h, by rw [h]; rfl⟩
theorem bk_look {sets : List Nat} {k : Nat} {M : Mat} (h : HI sets k M) {a : Nat} (ha : a < k) : ∃ y, (bk M).lookup a = some y ∧ M.lookup y = some a := by
  obtain ⟨i, hi⟩ := h.cov a ha
  obtain ⟨h1, h2⟩ := fold_look a ((M.map (·.1)).filterMap fun y => (M.lookup y).map fun a => (a, y)) []
  have h3 := h2 (.inl ⟨i, mem_bk.mpr hi⟩)
  obtain ⟨y, hy⟩ := Option.isSome_iff_exists.mp h3
  refine ⟨y, hy, ?_⟩
  rcases h1 y hy with q | q
  · cases q
  · exact mem_bk.mp q
def xsOf (sets : List Nat) (M : Mat) : List Nat := (List.range sets.length).map fun a => ((bk M).lookup a).getD 0
theorem sdr_of {sets : List Nat} {M : Mat} (h : HI sets sets.length M) : SDR sets (xsOf sets M) ∧ ∀ x, x ∈ xsOf sets M → x < 6 := by
  refine ⟨⟨by unfold xsOf; rw [List.length_map, List.length_range], map_nodup List.nodup_range fun a b ha hb e => ?_, fun k x s hx hs => ?_⟩, fun x hx => ?_⟩
  · obtain ⟨y, hy, e1⟩ := bk_look h (List.mem_range.mp ha)
    obtain ⟨z, hz, e2⟩ := bk_look h (List.mem_range.mp hb)
    rw [hy, hz] at e
    have e' : y = z := e
    rw [e', e2] at e1
    exact (Option.some.inj e1).symm
  · have hk : k < sets.length := (List.getElem?_eq_some_iff.mp hs).1
    obtain ⟨y, hy, e1⟩ := bk_look h hk
    unfold xsOf at hx
    rw [List.getElem?_map, List.getElem?_range hk] at hx
    have hx' : (((bk M).lookup k).getD 0) = x := Option.some.inj hx
    rw [hy] at hx'
    have e' : y = x := hx'
    obtain ⟨s', hs', hb⟩ := h.m.ok y k e1
    rw [hs] at hs'
    cases hs'
    rw [← e']
    exact hb
  · obtain ⟨a, ha, e⟩ := List.mem_map.mp hx
    obtain ⟨y, hy, e1⟩ := bk_look h (List.mem_range.mp ha)
    rw [hy] at e
    have e' : y = x := e
    rw [← e']
    exact h.m.sn.2 y (look_mem e1)
theorem fold_putN : ∀ (P B : Mat), (P.map fun p => ((Sum.inl (p.1 : Int) : Key), A.int (p.2 : Nat))).foldl (fun acc kv => putKA acc kv.1 kv.2) (dN B) = dN (P.foldl (fun B p => putN B p.1 p.2) B)
  | [], _ => rfl
  | p :: P, B => by
    rw [List.map_cons, List.foldl_cons, List.foldl_cons]
    dsimp only
    rw [put_dN]
    exact fold_putN P _
end K26
end

section
local macro_rules | `(tactic| walk_at "st") => `(tactic| simp only [XL.aRet, XL.aOp, XL.aVar, XL.aC, XL.astart, XL.aSeq, XL.aAsg, XL.gaName, XL.gaSub,
  XL.aCell, XL.aLst, XL.aNil, XL.aCons, XL.aTup, XL.aTest, XL.aTru, XL.aIfS, XL.aNext, XL.aExpr, XL.aAug, XL.aCall, XL.aAnd, XL.aOr, XL.aNot, XL.aIf, XL.aAndV, XL.aOrV, XL.aNotV, XL.aAny, XL.aAll, XL.aYes, XL.gcName,
  List.map, List.length, List.replicate, List.cons_append, List.nil_append, List.append_nil, List.getElem?_cons_zero, List.getElem?_cons_succ, List.getElem?_nil, List.set_cons_zero, List.set_cons_succ, List.length_cons, List.length_nil, Bool.not_true, Bool.not_false, if_true, if_false, Bool.false_eq_true])
namespace K26
open PySem PySem.Spec PyProof.Rows L2 XL
theorem fm_congr {α β : Type} {f g : α → Option β} : ∀ {l : List α}, (∀ x, x ∈ l → f x = g x) → l.filterMap f = l.filterMap g
  | [], _ => rfl
  | x :: l, h => by
    rw [List.filterMap_cons, List.filterMap_cons, h x List.mem_cons_self, fm_congr fun y hy => h y (List.mem_cons_of_mem _ hy)]
theorem mid_get {μ g : Mem} {c : Cell} : (μ ++ c :: g)[μ.length]? = some c := by rw [List.getElem?_append_right (Nat.le_refl _), Nat.sub_self]; rfl
theorem mid_set {μ g : Mem} {c c' : Cell} : (μ ++ c :: g).set μ.length c' = μ ++ c' :: g := by rw [List.set_append_right _ _ (Nat.le_refl _), Nat.sub_self]; rfl
theorem dS_keys (S : List Nat) : ((dS S).map fun kv => kA kv.1) = iN S := by unfold dS iN; rw [List.map_map]; rfl
theorem dN_keys (M : Mat) : ((dN M).map fun kv => kA kv.1) = iN (M.map (·.1)) := by unfold dN iN; rw [List.map_map, List.map_map]; rfl
theorem tN_ltm (n : Nat) (l : List Nat) : (A.tup (iN l)).lt n = true := tN_lt n l
theorem lt_two {n : Nat} {s : Str} {l : List Nat} : (A.tup [.str s, .tup (iN l)]).lt n = true := by
  have := tN_ltm n l
  simp only [A.lt, A.lts, Bool.and_true, Bool.true_and] at this ⊢
  exact this
theorem ints_nat : ∀ (l : List Int), (∀ x, x ∈ l → 0 ≤ x) → l.map A.int = iN (l.map Int.toNat)
  | [], _ => rfl
  | x :: l, h => by
    have e : ((x.toNat : Nat) : Int) = x := Int.toNat_of_nonneg (h x List.mem_cons_self)
    show A.int x :: l.map A.int = A.int ((x.toNat : Nat) : Int) :: iN (l.map Int.toNat)
    rw [ints_nat l fun y hy => h y (List.mem_cons_of_mem _ hy), e]
theorem r_hall_paper (ds : List A) (μ : Mem) (Q : AK) (h : s_hall_paper ds μ Q) : a_hall_paper { nx := fun _ μ' => Ret μ Q .non μ', rt := Ret μ Q } (astart n_hall_paper.length ds) μ := by
  obtain ⟨n, sets, rfl, sm, q⟩ := h
  have h6 := sm.1
  show aFor (aRange1 (aLen (aVar 1))) _ _ _ [some (.int (n : Nat)), some (tN sets), some (.ref μ.length), none, none, none, none] (μ ++ [.dk (dN [])])
  refine ⟨sets.length, by show some (List.length _) = _; rw [List.length_map], by omega, by omega, ?_⟩
  rw [Int.toNat_natCast]
  refine ⟨fun k ρ μ' => ∃ (M : Mat) (x3 x4 : Option A) (g : Mem), HI sets k M ∧ ρ = [some (.int (n : Nat)), some (tN sets), some (.ref μ.length), x3, x4, none, none] ∧ μ' = μ ++ .dk (dN M) :: g,
    ⟨[], none, none, [], HI.zero sets, rfl, rfl⟩, fun _ _ _ _ _ => trivial, ?_, ?_⟩
  · rintro i d _ _ hd ⟨M, x3, x4, g, hi, rfl, rfl⟩
    obtain ⟨hk, rfl⟩ := intsFrom_get hd
    rw [Int.zero_add]
    have hks : (μ ++ Cell.dk (dN M) :: g).length = μ.length + (g.length + 1) := by rw [List.length_append, List.length_cons]
    generalize hmu : (μ ++ Cell.dk (dN M) :: g) = μ1 at hks
    have em : μ1[μ.length]? = some (.dk (dN M)) := by rw [← hmu]; exact mid_get
    have em1 : ∀ c, (μ1 ++ [c])[μ.length]? = some (.dk (dN M)) := fun c => by rw [List.getElem?_append_left (by omega)]; exact em
    simp only [gaName, aSeq, aAsg, aDCell, aDNew, aIfS, aNot, aTru, aCall, aCons, aNil, aVar, List.set_cons_zero, List.set_cons_succ, List.getElem?_cons_zero, List.getElem?_cons_succ]
    refine ⟨sets, i, μ.length, μ1.length, M, [], rfl, by omega, em1 _, get_last, sm, hk, hi.pre, by simp, fun S' f => ?_, fun M' S' su sn => ?_⟩
    · refine ⟨false, rfl, ?_⟩
      rw [set_last]
      rw [if_pos (by rfl)]
      simp only [aRet, aTup, aCons, aNil, aC, aTupOf, aSortedD, aDMerge, aVar, aLockE, lockA, aDc, aKeysI, List.getElem?_cons_zero, List.getElem?_cons_succ]
      refine ⟨_, rfl, μ1.length, dS S', rfl, get_last, fun o ws => ?_⟩
      rw [set_last, get_last]
      dsimp only
      rw [dS_keys]
      have elk : ((μ1 ++ [Cell.lk o ws (dS S')])[μ1.length]? = some (.lk o ws (dS S'))) := get_last
      refine aDc_f (ga := gcName 6) (tt := aYes) (tk := aOp ixA (aVar 2) (aVar 6)) (tv := aC (.bl true)) (vs := [6]) (ρ := [some (.int (n : Nat)), some (tN sets), some (.ref μ.length), some (.int (i : Nat)), some (.ref μ1.length), none, none]) (xs := iN S') (St := fun μ' => μ'[μ1.length]? = some (.lk o ws (dS S'))) (fun x => match x with | .int y => (M.lookup y.toNat).map fun (a : Nat) => ((.inl (a : Int) : Key), A.bl true) | _ => none) (by rw [iN_len, sizeLine_eq]; have := f.sn.len; omega) elk ?_ ?_
      · intro x hx Y N hY hN
        obtain ⟨y, hy, rfl⟩ := mem_iN hx
        obtain ⟨a, s, ha, _, _⟩ := f.cl y hy (by simp)
        show gcName 6 _ [some (.int (n : Nat)), some (tN sets), some (.ref μ.length), some (.int (i : Nat)), some (.ref μ1.length), none, none] _
        walk_at "st"
        refine ixA_dk (em1 _) rfl (by rw [look_dN, ha]; rfl) ?_
        have := hY (.int (a : Nat)) (.bl true) (.inl (a : Int)) [] rfl (by show (M.lookup ((y : Nat) : Int).toNat).map _ = _; rw [Int.toNat_natCast, ha]; rfl) (by simp [A.lt])
        rw [List.append_nil] at this
        exact this
      have hcl : ∀ x, x ∈ S' → ∃ a, M.lookup x = some a := fun x hx => by
        obtain ⟨a, s, ha, _, _⟩ := f.cl x hx (by simp)
        exact ⟨a, ha⟩
      have ef : (iN S').filterMap (fun x => match x with | .int y => (M.lookup y.toNat).map fun (a : Nat) => ((.inl (a : Int) : Key), A.bl true) | _ => none) = (wl M S').map fun (y : Nat) => ((Sum.inl (y : Int) : Key), A.bl true) := by
        unfold iN wl
        rw [List.filterMap_map, List.map_map]
        rw [← List.filterMap_eq_map]
        refine fm_congr fun y hy => ?_
        obtain ⟨a, ha⟩ := hcl y hy
        show (M.lookup ((y : Nat) : Int).toNat).map _ = some (((.inl (((M.lookup y).getD 0 : Nat) : Int) : Key), A.bl true))
        rw [Int.toNat_natCast, ha]
        rfl
      rw [ef, show ([] : List (Key × A)) = dS [] from rfl, fold_insN]
      refine ⟨elk, ?_⟩
      rw [set_last]
      have hw6 : (wl M S').length ≤ 6 := by unfold wl; rw [List.length_map]; exact f.sn.len
      have hins := (ins_len (wl M S') [] .nil).1
      rw [List.length_nil] at hins
      refine ⟨by rw [dS_len, sizeLine_eq]; omega, ?_⟩
      have em2 : mergeA (((.inl ((i : Nat) : Int) : Key), A.bl true) :: dS []) (dS ((wl M S').foldl insN [])) = dS (wu M S' i) := fold_insN _ [i]
      rw [em2]
      have hu := (ins_len ((wl M S').foldl insN []) [i] (by simp)).1
      rw [List.length_singleton] at hu
      refine ⟨(wu M S' i).map fun (y : Nat) => (y : Int), by unfold dS; rw [List.map_map, List.map_map]; rfl, by rw [List.length_map]; unfold wu; omega, fun ns' hp hs => ?_⟩
      have hpos : ∀ x, x ∈ ns' → 0 ≤ x := fun x hx => by
        obtain ⟨y, _, rfl⟩ := List.mem_map.mp (hp.mem_iff.mp hx)
        omega
      rw [ints_nat ns' hpos]
      have hperm : (ns'.map Int.toNat).Perm (wu M S' i) := by
        have := hp.map Int.toNat
        rw [List.map_map] at this
        have e : (wu M S' i).map (Int.toNat ∘ fun (y : Nat) => (y : Int)) = wu M S' i := by
          conv => rhs; rw [← List.map_id (wu M S' i)]
          exact List.map_congr_left fun y _ => rfl
        rw [e] at this
        exact this
      refine ⟨by show 2 ≤ sizeLine; decide, ?_⟩
      rw [← hmu, List.append_assoc]
      exact ret_same lt_two (q _ (.inr ⟨_, rfl, viol_of hk hi f hperm⟩))
    · refine ⟨true, rfl, ?_⟩
      refine ⟨M', _, _, g ++ [.dk (dS S')], hi.succ su, rfl, ?_⟩
      rw [List.set_append_left _ _ (by omega), ← hmu, mid_set]
      have e : (μ ++ Cell.dk (dN M) :: g).length = (μ ++ Cell.dk (dN M') :: g).length := by simp
      rw [e, set_last]
      simp
  · rintro _ _ ⟨M, x3, x4, g, hi, rfl, rfl⟩
    rw [intsFrom_len] at hi
    generalize hmu : (μ ++ Cell.dk (dN M) :: g) = μ1
    have em : μ1[μ.length]? = some (.dk (dN M)) := by rw [← hmu]; exact mid_get
    have hlt : μ.length < μ1.length := (List.getElem?_eq_some_iff.mp em).1
    simp only [aSeq, aAsg, aDCell, gaName, aRet, aTup, aCons, aNil, aC, aTupOf, aVar, aLockE, lockA, aDc, aKeysI, List.getElem?_cons_zero, List.getElem?_cons_succ, List.set_cons_zero, List.set_cons_succ]
    refine ⟨μ.length, dN M, rfl, em, fun o ws => ?_⟩
    have elk : ((μ1.set μ.length (Cell.lk o ws (dN M)))[μ.length]? = some (.lk o ws (dN M))) := get_set em
    rw [elk]
    dsimp only
    rw [dN_keys]
    have hm6 := hi.m.sn.len
    refine aDc_f (ga := gcName 6) (tt := aYes) (tk := aOp ixA (aVar 2) (aVar 6)) (tv := aVar 6) (vs := [6]) (ρ := [some (.int (n : Nat)), some (tN sets), some (.ref μ.length), x3, x4, none, none]) (xs := iN (M.map (·.1))) (St := fun μ' => μ'[μ.length]? = some (.lk o ws (dN M))) (fun x => match x with | .int y => (M.lookup y.toNat).map fun (a : Nat) => ((.inl (a : Int) : Key), A.int y) | _ => none) (by rw [iN_len, sizeLine_eq]; omega) elk ?_ ?_
    · intro x hx Y N hY hN
      obtain ⟨y, hy, rfl⟩ := mem_iN hx
      obtain ⟨a, ha⟩ : ∃ a, M.lookup y = some a := by
        cases e : M.lookup y with
        | some a => exact ⟨a, rfl⟩
        | none =>
          rw [List.lookup_eq_none_iff] at e
          obtain ⟨p, hp, e2⟩ := List.mem_map.mp hy
          have := e p hp
          rw [e2] at this
          simp at this
      show gcName 6 _ [some (.int (n : Nat)), some (tN sets), some (.ref μ.length), x3, x4, none, none] _
      walk_at "st"
      refine ixA_lk elk rfl (by rw [look_dN, ha]; rfl) ?_
      have := hY (.int (a : Nat)) (.int (y : Nat)) (.inl (a : Int)) [] rfl (by show (M.lookup ((y : Nat) : Int).toNat).map _ = _; rw [Int.toNat_natCast, ha]; rfl) (by simp [A.lt])
      rw [List.append_nil] at this
      exact this
    have ef : (iN (M.map (·.1))).filterMap (fun x => match x with | .int y => (M.lookup y.toNat).map fun (a : Nat) => ((.inl (a : Int) : Key), A.int y) | _ => none) = ((M.map (·.1)).filterMap fun y => (M.lookup y).map fun a => (a, y)).map fun p => ((Sum.inl (p.1 : Int) : Key), A.int (p.2 : Nat)) := by
      unfold iN
      rw [List.filterMap_map, List.map_filterMap]
      refine fm_congr fun y hy => ?_
      show (M.lookup ((y : Nat) : Int).toNat).map _ = ((M.lookup y).map _).map _
      rw [Int.toNat_natCast]
      cases M.lookup y <;> rfl
    rw [ef, show ([] : List (Key × A)) = dN [] from rfl, fold_putN]
    refine ⟨elk, ?_⟩
    rw [List.set_set, set_same em]
    show aLc (aRange1 (aLen (aVar 1))) (gcName 3) aYes (aOp ixA (aVar 5) (aVar 3)) [3] [some (.int (n : Nat)), some (tN sets), some (.ref μ.length), x3, x4, some (.ref μ1.length), none] (μ1 ++ [.dk (dN (bk M))]) _
    refine ⟨sets.length, by show some (List.length _) = _; rw [List.length_map], by omega, by omega, ?_⟩
    rw [Int.toNat_natCast]
    refine aLc_f (ga := gcName 3) (tt := aYes) (te := aOp ixA (aVar 5) (aVar 3)) (vs := [3]) (ρ := [some (.int (n : Nat)), some (tN sets), some (.ref μ.length), x3, x4, some (.ref μ1.length), none]) (xs := XL.intsFrom 0 sets.length) (St := fun _ => True) (fun x => match x with | .int y => ((bk M).lookup y.toNat).map fun (a : Nat) => A.int (a : Nat) | _ => none) (by rw [intsFrom_len, sizeLine_eq]; omega) trivial ?_ ?_
    · intro x hx Y N hY hN
      obtain ⟨k, hk, rfl⟩ := List.mem_map.mp hx
      rw [Int.zero_add] at hY ⊢
      obtain ⟨y, hy, _⟩ := bk_look hi (List.mem_range.mp hk)
      show gcName 3 _ [some (.int (n : Nat)), some (tN sets), some (.ref μ.length), none, x4, some (.ref μ1.length), none] _
      walk_at "st"
      refine ixA_dk get_last rfl (by rw [look_dN, hy]; rfl) ?_
      have := hY (.int (y : Nat)) [] (by show ((bk M).lookup ((k : Nat) : Int).toNat).map _ = _; rw [Int.toNat_natCast, hy]; rfl) (by simp [A.lt])
      rw [List.append_nil] at this
      exact this
    have ex : (XL.intsFrom 0 sets.length).filterMap (fun x => match x with | .int y => ((bk M).lookup y.toNat).map fun (a : Nat) => A.int (a : Nat) | _ => none) = iN (xsOf sets M) := by
      unfold XL.intsFrom iN xsOf
      rw [List.filterMap_map, List.map_map, ← List.filterMap_eq_map]
      refine fm_congr fun k hk => ?_
      obtain ⟨y, hy, _⟩ := bk_look hi (List.mem_range.mp hk)
      show ((bk M).lookup ((0 : Int) + (k : Nat)).toNat).map _ = some _
      rw [Int.zero_add, Int.toNat_natCast, hy]
      show _ = some (A.int ((((bk M).lookup k).getD 0 : Nat) : Int))
      rw [hy]
      rfl
    rw [ex]
    refine ⟨by show 2 ≤ sizeLine; decide, ?_⟩
    rw [← hmu, List.append_assoc]
    obtain ⟨h1, h2⟩ := sdr_of hi
    exact ret_same lt_two (q _ (.inl ⟨_, rfl, h1, h2⟩))
end K26
end

namespace K26
open PySem PySem.Spec PyProof.Rows L2 XL
theorem sdr_cons {s x : Nat} {r xs : List Nat} : SDR (s :: r) (x :: xs) ↔ s.testBit x = true ∧ x ∉ xs ∧ SDR r xs := by
  constructor
  · rintro ⟨h1, h2, h3⟩
    rw [List.nodup_cons] at h2
    refine ⟨h3 0 x s rfl rfl, h2.1, by simpa using h1, h2.2, fun k y t hy ht => h3 (k + 1) y t (by simpa using hy) (by simpa using ht)⟩
  · rintro ⟨h1, h2, h3, h4, h5⟩
    refine ⟨by simp [h3], List.nodup_cons.mpr ⟨h2, h4⟩, fun k y t hy ht => ?_⟩
    cases k with
    | zero =>
      rw [List.getElem?_cons_zero] at hy ht
      cases hy; cases ht
      exact h1
    | succ k => exact h5 k y t (by simpa using hy) (by simpa using ht)
theorem items_iff : ∀ (sets u : List Nat), itemsB sets u = true ↔ ∃ xs, SDR sets xs ∧ ∀ x, x ∈ xs → x ∉ u
  | [], u => ⟨fun _ => ⟨[], ⟨rfl, .nil, fun k x s h => by simp at h⟩, fun x h => by cases h⟩, fun _ => rfl⟩
  | s :: r, u => by
    show (mem s).any (fun x => !u.contains x && itemsB r (u ++ [x])) = true ↔ _
    rw [List.any_eq_true]
    constructor
    · rintro ⟨x, hx, h⟩
      rw [Bool.and_eq_true, items_iff r] at h
      obtain ⟨h1, xs, h2, h3⟩ := h
      have h1' : x ∉ u := by simpa using h1
      refine ⟨x :: xs, sdr_cons.mpr ⟨(mem_iff s x).mp hx, fun m => h3 x m (List.mem_append_right _ (List.mem_singleton.mpr rfl)), h2⟩, fun y hy => ?_⟩
      rcases List.mem_cons.mp hy with rfl | hy
      · exact h1'
      · exact fun m => h3 y hy (List.mem_append_left _ m)
    · rintro ⟨xs, h2, h3⟩
      cases xs with
      | nil => exact absurd h2.1 (by simp)
      | cons x xs =>
        obtain ⟨a, b, c⟩ := sdr_cons.mp h2
        refine ⟨x, (mem_iff s x).mpr a, ?_⟩
        rw [Bool.and_eq_true, items_iff r]
        refine ⟨by simpa using h3 x List.mem_cons_self, xs, c, fun y hy m => ?_⟩
        rcases List.mem_append.mp m with m | m
        · exact h3 y (List.mem_cons_of_mem _ hy) m
        · rw [List.mem_singleton.mp m] at hy
          exact b hy
theorem hall_le {sets xs W : List Nat} (h : SDR sets xs) (hn : W.Nodup) (hl : ∀ w, w ∈ W → w < sets.length) : W.length ≤ (mem (un sets W)).length := by
  have hx : ∀ w, w ∈ W → ∃ x, xs[w]? = some x := fun w hw => ⟨xs[w]'(by rw [h.1]; exact hl w hw), List.getElem?_eq_getElem _⟩
  have h1 : (W.map fun w => (xs[w]?).getD 0).Nodup := map_nodup hn fun a b ha hb e => by
    obtain ⟨x, ex⟩ := hx a ha
    obtain ⟨y, ey⟩ := hx b hb
    rw [ex, ey] at e
    have e' : x = y := e
    exact (List.getElem?_inj (List.getElem?_eq_some_iff.mp ex).1 h.2.1).mp (by rw [ex, ey, e'])
  have h2 := sub_len h1 (m := mem (un sets W)) fun i hi => by
    obtain ⟨w, hw, e⟩ := List.mem_map.mp hi
    obtain ⟨x, ex⟩ := hx w hw
    rw [ex] at e
    have e' : x = i := e
    rw [mem_iff, un_bit]
    have hs : sets[w]? = some (sets[w]'(hl w hw)) := List.getElem?_eq_getElem _
    exact ⟨w, hw, _, hs, e' ▸ h.2.2 w x _ ex hs⟩
  rw [List.length_map] at h2
  exact h2
def fewTo (sets : List Nat) (b : Nat) : Bool := (List.range b).any fun b => decide ((mem (un sets (mem b))).length < (mem b).length)
theorem fewTo_succ (sets : List Nat) (b : Nat) : fewTo sets (b + 1) = (fewTo sets b || decide ((mem (un sets (mem b))).length < (mem b).length)) := by
  unfold fewTo
  rw [List.range_succ, List.any_append]
  simp
theorem mem_nodup (b : Nat) : (mem b).Nodup := (mem_sorted b).imp fun h => by omega
theorem mem_ltb {b n i : Nat} (h : b < 2 ^ n) (hi : i ∈ mem b) : i < n := by
  rw [mem_iff] at hi
  by_cases c : i < n
  · exact c
  · have : 2 ^ n ≤ 2 ^ i := Nat.pow_le_pow_right (by omega) (by omega)
    rw [Nat.testBit_lt_two_pow (by omega)] at hi
    cases hi
theorem sdr_few {sets xs : List Nat} (h : SDR sets xs) : fewTo sets (2 ^ sets.length) = false := by
  unfold fewTo
  rw [List.any_eq_false]
  intro b hb
  rw [List.mem_range] at hb
  have := hall_le h (mem_nodup b) fun w hw => mem_ltb hb hw
  simp
  omega
def bitsOf (W : List Nat) : Nat := W.foldl (fun b k => b ||| 2 ^ k) 0
theorem bitsOf_bit (i : Nat) (W : List Nat) : (bitsOf W).testBit i = true ↔ i ∈ W := by
  have key : ∀ (W : List Nat) (u : Nat), (W.foldl (fun b k => b ||| 2 ^ k) u).testBit i = true ↔ u.testBit i = true ∨ i ∈ W := fun W => by
    induction W with
    | nil => intro u; simp
    | cons w W ih =>
      intro u
      rw [List.foldl_cons, ih, Nat.testBit_or, Bool.or_eq_true, Nat.testBit_two_pow, decide_eq_true_eq, List.mem_cons, or_assoc]
      constructor
      · rintro (h | h | h)
        · exact .inl h
        · exact .inr (.inl h.symm)
        · exact .inr (.inr h)
      · rintro (h | h | h)
        · exact .inl h
        · exact .inr (.inl h.symm)
        · exact .inr (.inr h)
  unfold bitsOf
  rw [key]
  simp
theorem viol_few {sets W : List Nat} (h : Viol sets W) : fewTo sets (2 ^ sets.length) = true := by
  obtain ⟨h1, h2, h3⟩ := h
  unfold fewTo
  rw [List.any_eq_true]
  have hb : ∀ i, i ∈ mem (bitsOf W) ↔ i ∈ W := fun i => by rw [mem_iff, bitsOf_bit]
  refine ⟨bitsOf W, List.mem_range.mpr (Nat.lt_pow_two_of_testBit _ fun i hi => ?_), decide_eq_true ?_⟩
  · cases e : (bitsOf W).testBit i with
    | false => rfl
    | true =>
      have := h2 i ((bitsOf_bit i W).mp e)
      omega
  · have l1 := sub_len h1 (m := mem (bitsOf W)) fun i hi => (hb i).mpr hi
    have l2 := sub_len (mem_nodup (un sets (mem (bitsOf W)))) (m := mem (un sets W)) fun i hi => by
      rw [mem_iff, un_bit] at hi ⊢
      obtain ⟨w, hw, r⟩ := hi
      exact ⟨w, (hb w).mp hw, r⟩
    omega
theorem nats_iN : ∀ l : List Nat, nats (iN l) = some l
  | [] => rfl
  | x :: l => by
    show (if 0 ≤ ((x : Nat) : Int) then (nats (iN l)).map (((x : Nat) : Int).toNat :: ·) else none) = _
    rw [if_pos (by omega), nats_iN l, Int.toNat_natCast]
    rfl
/-- what a paper of the program is worth -/
theorem paper_all {n : Nat} {sets : List Nat} {t : A} (hs : ∀ s, s ∈ sets → s < 2 ^ n) (hn : n ≤ 6) (hl : sets.length ≤ 6) (h : PaperOk sets t) :
    InD 2 t ∧ judge n sets t = true ∧ ∃ g row, t = .tup [.str (if g = true then "items" else "few"), row] ∧ itemsB sets [] = g ∧ fewTo sets (2 ^ sets.length) = !g := by
  have small : ∀ (s : Str) (l : List Nat), PyData.strOk s = true → l.length ≤ 6 → (∀ x, x ∈ l → x ≤ 100) → InD 2 (.tup [.str s, tN l]) := fun s l h0 h1 h2 => by
    refine .inr ⟨_, rfl, by simp, fun x hx => ?_⟩
    rcases List.mem_cons.mp hx with rfl | hx
    · exact .inl h0
    · rw [List.mem_singleton.mp hx]
      refine .inr ⟨_, rfl, by rw [List.length_map]; exact h1, fun y hy => ?_⟩
      obtain ⟨z, hz, rfl⟩ := List.mem_map.mp hy
      have := h2 z hz
      exact ⟨by omega, by omega⟩
  rcases h with ⟨xs, rfl, h, h6⟩ | ⟨W, rfl, h⟩
  · refine ⟨small _ xs (by decide +kernel) (by rw [h.1]; exact hl) (fun x hx => by have := h6 x hx; omega), ?_, true, _, rfl, (items_iff sets []).mpr ⟨xs, h, fun x _ => by simp⟩, by rw [sdr_few h]; rfl⟩
    rw [show judge n sets (.tup [.str "items", tN xs]) = judgeR n sets (.str "items") xs from judge_tup (nats_iN xs)]
    unfold judgeR
    rw [if_pos h.2.1, if_pos (by decide +kernel), decide_eq_true h.1, Bool.true_and, List.all_eq_true]
    intro p hp
    obtain ⟨k, hk⟩ := List.mem_iff_getElem?.mp hp
    obtain ⟨e1, e2⟩ := List.getElem?_zip_eq_some.mp hk
    have hb := h.2.2 k p.1 p.2 e1 e2
    have hlt : p.1 < n := mem_ltb (hs p.2 (List.mem_of_getElem? e2)) ((mem_iff _ _).mpr hb)
    rw [decide_eq_true hlt, hb]
    rfl
  · have hW : W.length ≤ 6 := by
      have := sub_len h.1 (m := List.range sets.length) fun i hi => List.mem_range.mpr (h.2.1 i hi)
      rw [List.length_range] at this
      omega
    have hi : itemsB sets [] = false := by
      cases e : itemsB sets [] with
      | false => rfl
      | true =>
        obtain ⟨xs, hx, _⟩ := (items_iff sets []).mp e
        have := hall_le hx h.1 h.2.1
        have := h.2.2
        omega
    refine ⟨small _ W (by decide +kernel) hW (fun x hx => by have := h.2.1 x hx; omega), ?_, false, _, rfl, hi, by rw [viol_few h]; rfl⟩
    rw [show judge n sets (.tup [.str "few", tN W]) = judgeR n sets (.str "few") W from judge_tup (nats_iN W)]
    unfold judgeR
    rw [if_pos h.1, if_neg (by decide +kernel), if_pos (by decide +kernel), decide_eq_true h.2.2, Bool.and_true, List.all_eq_true]
    exact fun w hw => decide_eq_true (h.2.1 w hw)
end K26

section
local macro_rules | `(tactic| walk_at "st") => `(tactic| simp only [XL.aRet, XL.aOp, XL.aVar, XL.aC, XL.astart, XL.aSeq, XL.aAsg, XL.gaName, XL.gaSub,
  XL.aCell, XL.aLst, XL.aNil, XL.aCons, XL.aTup, XL.aTest, XL.aTru, XL.aIfS, XL.aNext, XL.aExpr, XL.aAug, XL.aCall, XL.aAnd, XL.aOr, XL.aNot, XL.aIf, XL.aAndV, XL.aOrV, XL.aNotV, XL.aAny, XL.aAll, XL.aYes, XL.gcName,
  List.map, List.length, List.replicate, List.cons_append, List.nil_append, List.append_nil, List.getElem?_cons_zero, List.getElem?_cons_succ, List.getElem?_nil, List.set_cons_zero, List.set_cons_succ, List.length_cons, List.length_nil, Bool.not_true, Bool.not_false, if_true, if_false, Bool.false_eq_true])
namespace K26
open PySem PySem.Spec PyProof.Rows L2 XL
def lw1 : ATE := aTupOf (aLc (aRange1 (aCall s__law_take (aCons (aVar 1) (aCons (aC (.int 7)) aNil)))) (gcName 9) aYes (aOp andA (aOp andA (aCall s__law_take (aCons (aVar 1) (aCons (aCall s__law_bit (aCons (aVar 2) aNil)) aNil))) (aOp orA (aCall s__law_take (aCons (aVar 1) (aCons (aCall s__law_bit (aCons (aVar 2) aNil)) aNil))) (aC (.int 1)))) (aOp subA (aCall s__law_bit (aCons (aVar 2) aNil)) (aC (.int 1)))) [9])
def lw2 : ATS := aIfS (aOr (aTest (aOp neA (aOp ixA (aVar 4) (aC (.int 0))) (aIf (aTru (aVar 5)) (aC (.str "items")) (aC (.str "few"))))) (aOr (aNot (aTru (aCall s__law_right (aCons (aVar 2) (aCons (aVar 3) (aCons (aVar 4) aNil)))))) (aTest (aOp notIsA (aCall s_takes_hall (aCons (aVar 2) (aCons (aVar 3) (aCons (aVar 4) aNil)))) (aC (.bl true)))))) (aRet (aC (.bl false))) aNext
def lw3 : ATS := aFor (aRange1 (aCall s__law_bit (aCons (aLen (aVar 3)) aNil))) (gaName 7) (aSeq (aAsg (aC (.int 0)) (gaName 8))
  (aSeq (aFor (aSeqI (aCall s__law_members (aCons (aVar 7) aNil))) (gaName 9) (aAsg (aOp orA (aVar 8) (aOp ixA (aVar 3) (aVar 9))) (gaName 8)))
  (aAsg (aOrV (aVar 6) (aOp ltA (aCall s__law_count (aCons (aVar 8) aNil)) (aCall s__law_count (aCons (aVar 7) aNil)))) (gaName 6))))
def lw4 : ATS := aFor (aSeqI (aOp addA (aCell (aLc (aRange1 (aC (.int 5))) (gcName 9) aYes (aCall s__law_spoilT (aCons (aVar 1) (aCons (aVar 4) aNil))) [9])) (aCell (aLst (aCons (aTup (aCons (aC (.str "few")) (aCons (aVar 10) aNil))) (aCons (aTup (aCons (aC (.str "items")) (aCons (aVar 10) aNil))) (aCons (aTup (aCons (aC (.str "few")) (aCons (aTup aNil) aNil))) (aCons (aTup (aCons (aC (.str "few")) (aCons (aRevT (aVar 10)) aNil))) (aCons (aTup (aCons (aC (.str "items")) (aCons (aTup aNil) aNil))) aNil))))))))) (gaName 11) (aIfS (aTest (aOp neA (aCall s_takes_hall (aCons (aVar 2) (aCons (aVar 3) (aCons (aVar 11) aNil)))) (aCall s__law_right (aCons (aVar 2) (aCons (aVar 3) (aCons (aVar 11) aNil)))))) (aRet (aC (.bl false))) aNext)
theorem a_law_eq : a_law = aSeq (aAsg (aCall s__law_begin (aCons (aVar 0) aNil)) (gaName 1))
  (aSeq (aAsg (aCall s__law_take (aCons (aVar 1) (aCons (aC (.int 7)) aNil))) (gaName 2))
  (aSeq (aAsg lw1 (gaName 3))
  (aSeq (aAsg (aCall s_hall_paper (aCons (aVar 2) (aCons (aVar 3) aNil))) (gaName 4))
  (aSeq (aAsg (aCall s__law_itemsT (aCons (aVar 3) (aCons (aCell (aLst aNil)) aNil))) (gaName 5))
  (aSeq lw2
  (aSeq (aAsg (aC (.bl false)) (gaName 6))
  (aSeq lw3
  (aSeq (aIfS (aTest (aOp eqA (aVar 6) (aVar 5))) (aRet (aC (.bl false))) aNext)
  (aSeq (aAsg (aTupRg (aLen (aVar 3))) (gaName 10))
  (aSeq lw4
  (aRet (aC (.bl true))))))))))))) := rfl
theorem bit_ok {n : Nat} {μ : Mem} {Q : AK} (hn : n ≤ 1000) (q : Q (.int ((2 ^ n : Nat) : Int)) μ) : s__law_bit [.int (n : Nat)] μ Q := ⟨n, rfl, hn, q⟩
theorem lw1_ok {n : Nat} {l : List (Option A)} {s0 : A} {c0 c1 : Cell} {Q : AK} (hn : n ≤ 6) (g : Good c0 c1) (hl : l.length = 9)
    (q : ∀ (sets : List Nat) (c2 : Cell), sets.length ≤ 6 → (∀ s, s ∈ sets → s < 2 ^ n) → Good c0 c2 → Q (tN sets) [c0, c2]) :
    lw1 (some s0 :: some (.ref 1) :: some (.int (n : Nat)) :: l) [c0, c1] Q := by
  have hp : 2 ^ n ≤ 64 := by
    have : 2 ^ n ≤ 2 ^ 6 := Nat.pow_le_pow_right (by omega) hn
    omega
  have hp1 : 1 ≤ 2 ^ n := Nat.one_le_two_pow
  unfold lw1
  simp only [aTupOf, aLc, aRange1, aCall, aCons, aNil, aVar, aC, List.getElem?_cons_zero, List.getElem?_cons_succ]
  refine take_ok (m := 7) g (by decide) (by decide) fun k c2 hk g2 => ?_
  refine ⟨by omega, by omega, ?_⟩
  rw [Int.toNat_natCast]
  refine ⟨by rw [intsFrom_len, sizeLine_eq]; omega, fun i acc μ => ∃ sets c, acc = iN sets ∧ sets.length = i ∧ (∀ s, s ∈ sets → s < 2 ^ n) ∧ Good c0 c ∧ μ = [c0, c], ⟨[], c2, rfl, rfl, (by intro s h; cases h), g2, rfl⟩, fun _ _ _ _ _ => trivial, ?_, ?_⟩
  · rintro i d _ _ hd ⟨sets, c, rfl, hi, hs, gc, rfl⟩
    obtain ⟨l0, l1, l2, l3, l4, l5, l6, l7, l8, rfl⟩ : ∃ a b c d e f g h i, l = [a, b, c, d, e, f, g, h, i] := by
      match l, hl with
      | [a, b, c, d, e, f, g, h, i], _ => exact ⟨a, b, c, d, e, f, g, h, i, rfl⟩
    show gcName 9 d [some s0, some (.ref 1), some (.int (n : Nat)), l0, l1, l2, l3, l4, l5, none, l7, l8] _
    walk_at "st"
    simp only [orA, andA, subA, intA0]
    refine bit_ok (by omega) ?_
    refine take_ok gc hp1 (by omega) fun a c3 ha g3 => ?_
    refine bit_ok (by omega) ?_
    refine take_ok g3 hp1 (by omega) fun b c4 hb g4 => ?_
    refine bit_ok (by omega) ?_
    left
    have e1 : ((2 ^ n : Nat) : Int) - 1 = ((2 ^ n - 1 : Nat) : Int) := by omega
    have e2 : Builtin.bitOr (b : Int) 1 = ((b ||| 1 : Nat) : Int) := bor_nn b 1
    show ∃ sets' c', iN sets ++ [A.int (Builtin.bitAnd (Builtin.bitAnd (a : Int) (Builtin.bitOr (b : Int) 1)) (((2 ^ n : Nat) : Int) - 1))] = iN sets' ∧ _
    rw [e1, e2, band_nn, band_nn, iN_snoc]
    refine ⟨_, c4, rfl, by rw [List.length_append, List.length_singleton, hi], fun s h => ?_, g4, rfl⟩
    rcases List.mem_append.mp h with h | h
    · exact hs s h
    · rw [List.mem_singleton.mp h]
      have := Nat.and_le_right (n := (a &&& (b ||| 1))) (m := 2 ^ n - 1)
      omega
  · rintro _ _ ⟨sets, c, rfl, hi, hs, gc, rfl⟩
    rw [intsFrom_len] at hi
    exact q sets c (by omega) hs gc
def lw2r : ATS := aIfS (aOr (aNot (aTru (aCall s__law_right (aCons (aVar 2) (aCons (aVar 3) (aCons (aVar 4) aNil)))))) (aTest (aOp notIsA (aCall s_takes_hall (aCons (aVar 2) (aCons (aVar 3) (aCons (aVar 4) aNil)))) (aC (.bl true))))) (aRet (aC (.bl false))) aNext
theorem neA_str {x : Str} {μ : Mem} {Q : AK} (q : Q (.bl false) μ) : neA (.str x) (.str x) μ Q := by
  show Q (.bl (!(x == x))) μ
  rw [beq_self_eq_true]
  exact q
theorem lw2_ok {D : AEnds} {n : Nat} {sets : List Nat} {t : A} {g : Bool} {s0 : A} {l : List (Option A)} {μ : Mem} (hn : n ≤ 6) (sm : Sm sets) (ho : OutD 3 t) (hj : judge n sets t = true) (ht : ∃ row, t = .tup [.str (if g = true then "items" else "few"), row])
    (nx : D.nx (some s0 :: some (.ref 1) :: some (.int (n : Nat)) :: some (tN sets) :: some t :: some (.bl g) :: l) μ) :
    lw2 D (some s0 :: some (.ref 1) :: some (.int (n : Nat)) :: some (tN sets) :: some t :: some (.bl g) :: l) μ := by
  obtain ⟨row, rfl⟩ := ht
  unfold lw2
  walk_at "st"
  refine ⟨_, atI0, g, rfl, ?_⟩
  have rest : lw2r D (some s0 :: some (.ref 1) :: some (.int (n : Nat)) :: some (tN sets) :: some (.tup [.str (if g = true then "items" else "few"), row]) :: some (.bl g) :: l) μ := by
    unfold lw2r
    walk_at "st"
    refine ⟨n, sets, _, rfl, hn, sm, ho, ?_⟩
    rw [hj]
    refine ⟨true, rfl, ?_⟩
    rw [if_neg (by decide)]
    refine ⟨n, sets, _, rfl, hn, sm, ho, ?_⟩
    rw [hj]
    exact nx
  cases g with
  | true =>
    rw [if_pos rfl]
    exact neA_str rest
  | false =>
    rw [if_neg Bool.false_ne_true]
    exact neA_str rest
theorem lw3_ok {D : AEnds} {n : Nat} {sets : List Nat} {t : A} {g : Bool} {s0 : A} {μ : Mem} (sm : Sm sets)
    (nx : ∀ x7 x8 x9, D.nx [some s0, some (.ref 1), some (.int (n : Nat)), some (tN sets), some t, some (.bl g), some (.bl (fewTo sets (2 ^ sets.length))), x7, x8, x9, none, none] μ) :
    lw3 D [some s0, some (.ref 1), some (.int (n : Nat)), some (tN sets), some t, some (.bl g), some (.bl false), none, none, none, none, none] μ := by
  have h6 := sm.1
  have hp : 2 ^ sets.length ≤ 64 := by
    have : 2 ^ sets.length ≤ 2 ^ 6 := Nat.pow_le_pow_right (by omega) h6
    omega
  unfold lw3
  simp only [aFor, aRange1, aCall, aCons, aNil, aLen, aVar, List.getElem?_cons_zero, List.getElem?_cons_succ]
  refine ⟨sets.length, by show some (List.length _) = _; rw [List.length_map], bit_ok (by omega) ⟨Int.le_trans (by decide) (Int.natCast_nonneg _), Int.lt_of_le_of_lt (Int.ofNat_le.mpr hp) (by decide), ?_⟩⟩
  rw [Int.toNat_natCast]
  refine ⟨fun b ρ μ' => μ' = μ ∧ ∃ x7 x8 x9, ρ = [some s0, some (.ref 1), some (.int (n : Nat)), some (tN sets), some t, some (.bl g), some (.bl (fewTo sets b)), x7, x8, x9, none, none], ⟨rfl, none, none, none, rfl⟩, fun _ _ _ _ _ => trivial, ?_, ?_⟩
  · rintro b d _ _ hd ⟨rfl, x7, x8, x9, rfl⟩
    obtain ⟨hb, rfl⟩ := intsFrom_get hd
    rw [Int.zero_add]
    have hb6 : b < 2 ^ 1000 := Nat.lt_of_lt_of_le hb (Nat.pow_le_pow_right (by omega) (by omega))
    simp only [gaName, aSeq, aAsg, aC, aSeqI, List.set_cons_zero, List.set_cons_succ, aCall, aCons, aNil, aVar, List.getElem?_cons_zero, List.getElem?_cons_succ]
    refine ⟨b, rfl, hb6, ?_⟩
    refine ⟨fun i ρ μ' => μ' = _ ∧ ∃ x9, ρ = [some s0, some (.ref 1), some (.int (n : Nat)), some (tN sets), some t, some (.bl g), some (.bl (fewTo sets b)), some (.int (b : Nat)), some (.int ((un sets ((mem b).take i) : Nat) : Int)), x9, none, none], ⟨rfl, x9, by rw [List.take_zero]; rfl⟩, fun _ _ _ _ _ => trivial, ?_, ?_⟩
    · rintro i d _ _ hd ⟨rfl, y9, rfl⟩
      obtain ⟨y, hy, rfl⟩ := tN_inv hd
      have hyl := mem_ltb hb (List.mem_of_getElem? hy)
      have hs : sets[y]? = some sets[y] := List.getElem?_eq_getElem hyl
      have ht : (mem b).take (i + 1) = (mem b).take i ++ [y] := by
        obtain ⟨hl, e⟩ := List.getElem?_eq_some_iff.mp hy
        rw [← e, List.take_succ_eq_append_getElem hl]
      refine ⟨_, atI_nat (tN_get hs), rfl, some (.int (y : Nat)), ?_⟩
      rw [ht, un_snoc, hs]
      show [_, _, _, _, _, _, _, _, some (A.int (Builtin.bitOr ((un sets ((mem b).take i) : Nat) : Int) ((sets[y] : Nat) : Int))), _, _, _] = _
      rw [bor_nn]
      rfl
    · rintro _ _ ⟨rfl, y9, rfl⟩
      rw [List.length_map, List.take_length]
      refine ⟨fewTo sets b, rfl, ?_⟩
      rw [fewTo_succ]
      cases hf : fewTo sets b with
      | true => exact ⟨rfl, _, _, _, rfl⟩
      | false =>
        refine ⟨un sets (mem b), rfl, Nat.lt_trans (un_lt sm.2 _) (by decide), b, rfl, hb6, rfl, some (.int (b : Nat)), some (.int ((un sets (mem b) : Nat) : Int)), y9, ?_⟩
        have e : decide (((mem (un sets (mem b))).length : Int) < ((mem b).length : Nat)) = decide ((mem (un sets (mem b))).length < (mem b).length) := by
          rw [Bool.eq_iff_iff, decide_eq_true_eq, decide_eq_true_eq]; omega
        rw [Bool.false_or, ← e]
        rfl
  · rintro _ _ ⟨rfl, x7, x8, x9, rfl⟩
    rw [intsFrom_len]
    exact nx x7 x8 x9
theorem few_out {n : Nat} {b : Str} {xs : List Nat} (hb : PyData.strOk b = true) (h1 : xs.length ≤ 6) (h2 : ∀ x, x ∈ xs → x ≤ 100) : OutD 3 (.tup [.str b, .tup (iN xs)]) := .inr ⟨_, rfl, by simp, fun x hx => by
  rcases List.mem_cons.mp hx with rfl | hx
  · exact leaf_out (show leaf (.str b) from hb) _
  · rw [List.mem_singleton.mp hx]
    refine .inr ⟨_, rfl, by rw [iN_len]; omega, fun y hy => ?_⟩
    obtain ⟨z, hz, rfl⟩ := mem_iN hy
    have := h2 z hz
    exact leaf_out (show leaf (.int (z : Nat)) from ⟨by omega, by omega⟩) _⟩
def fixedP (e : List Nat) : List A := [.tup [.str "few", .tup (iN e)], .tup [.str "items", .tup (iN e)], .tup [.str "few", .tup []], .tup [.str "few", .tup (iN e).reverse], .tup [.str "items", .tup []]]
theorem fixed_out {e : List Nat} (h1 : e.length ≤ 6) (h2 : ∀ x, x ∈ e → x ≤ 100) : ∀ x, x ∈ fixedP e → OutD 3 x := fun x hx => by
  have hr : (iN e).reverse = iN e.reverse := by unfold iN; rw [List.map_reverse]
  have h1' : e.reverse.length ≤ 6 := by rw [List.length_reverse]; exact h1
  have h2' : ∀ x, x ∈ e.reverse → x ≤ 100 := fun x hx => h2 x (List.mem_reverse.mp hx)
  unfold fixedP at hx
  rw [hr] at hx
  simp only [List.mem_cons, List.not_mem_nil, or_false] at hx
  rcases hx with rfl | rfl | rfl | rfl | rfl
  · exact few_out (n := 0) (by decide +kernel) h1 h2
  · exact few_out (n := 0) (by decide +kernel) h1 h2
  · exact few_out (n := 0) (xs := []) (by decide +kernel) (by simp) (fun x h => by cases h)
  · exact few_out (n := 0) (by decide +kernel) h1' h2'
  · exact few_out (n := 0) (xs := []) (by decide +kernel) (by simp) (fun x h => by cases h)
theorem ints_rng (k : Nat) : XL.intsFrom 0 k = iN (List.range k) := by
  unfold XL.intsFrom iN
  refine List.map_congr_left fun i _ => ?_
  rw [Int.zero_add]
theorem lw4_ok {D : AEnds} {n : Nat} {sets : List Nat} {t s0 : A} {x5 x6 x7 x8 x9 : Option A} {c0 c1 : Cell} {r : Mem} (hn : n ≤ 6) (sm : Sm sets) (hi : InD 2 t) (g : Good c0 c1)
    (nx : ∀ ρ μ', D.nx ρ μ') :
    lw4 D [some s0, some (.ref 1), some (.int (n : Nat)), some (tN sets), some t, x5, x6, x7, x8, x9, some (.tup (iN (List.range sets.length))), none] (c0 :: c1 :: r) := by
  have h6 := sm.1
  unfold lw4
  simp only [aFor, aSeqI, aOp, aCell, aLc, aRange1, aC]
  refine ⟨by decide, by decide, ?_⟩
  refine ⟨by decide, fun i acc μ => ∃ c, Good c0 c ∧ μ = c0 :: c :: r ∧ acc.length = i ∧ ∀ x, x ∈ acc → OutD 3 x, ⟨c1, g, rfl, rfl, (by intro x h; cases h)⟩, fun _ _ _ _ _ => trivial, ?_, ?_⟩
  · rintro i d acc _ hd ⟨c, gc, rfl, hl, ha⟩
    show gcName 9 d [some s0, some (.ref 1), some (.int (n : Nat)), some (tN sets), some t, x5, x6, x7, x8, none, some (.tup (iN (List.range sets.length))), none] _
    walk_at "st"
    refine ⟨2, t, c0, c, r, rfl, rfl, gc, by decide, hi, fun t' c2 ho g2 => ?_⟩
    refine .inl ⟨c2, g2, rfl, by rw [List.length_append, List.length_singleton, hl], fun x hx => ?_⟩
    rcases List.mem_append.mp hx with hx | hx
    · exact ha x hx
    · rw [List.mem_singleton.mp hx]; exact ho
  · rintro acc _ ⟨c, gc, rfl, hl, ha⟩
    have hl5 : acc.length = 5 := hl
    generalize hmu : (c0 :: c :: r : Mem) = μ1
    simp only [aCell, aLst, aTup, aCons, aNil, aC, aVar, aRevT, List.getElem?_cons_zero, List.getElem?_cons_succ]
    refine ⟨by show 2 ≤ sizeLine; decide, by show 2 ≤ sizeLine; decide, by show 0 ≤ sizeLine; decide, by show 2 ≤ sizeLine; decide, by show 2 ≤ sizeLine; decide, by show 0 ≤ sizeLine; decide, by show 2 ≤ sizeLine; decide, by show 5 ≤ sizeLine; decide, ?_⟩
    show addA (.ref μ1.length) (.ref (μ1 ++ [Cell.lst acc]).length) ((μ1 ++ [Cell.lst acc]) ++ [Cell.lst (fixedP (List.range sets.length))]) _
    have e1 : ((μ1 ++ [Cell.lst acc]) ++ [Cell.lst (fixedP (List.range sets.length))])[μ1.length]? = some (.lst acc) := by rw [List.append_assoc]; exact mid_get
    unfold addA
    dsimp only
    rw [e1, get_last]
    refine ⟨by show acc.length + 5 ≤ _; rw [hl5, sizeLine_eq]; omega, ?_⟩
    generalize ((μ1 ++ [Cell.lst acc]) ++ [Cell.lst (fixedP (List.range sets.length))]) = μ2
    unfold seqI
    dsimp only
    rw [get_last]
    have hall : ∀ x, x ∈ acc ++ fixedP (List.range sets.length) → OutD 3 x := fun x hx => by
      rcases List.mem_append.mp hx with hx | hx
      · exact ha x hx
      · exact fixed_out (by rw [List.length_range]; exact h6) (fun y hy => by have := List.mem_range.mp hy; omega) x hx
    refine ⟨fun i ρ μ' => μ' = μ2 ++ [.lst (acc ++ fixedP (List.range sets.length))] ∧ ∃ x11, ρ = [some s0, some (.ref 1), some (.int (n : Nat)), some (tN sets), some t, x5, x6, x7, x8, x9, some (.tup (iN (List.range sets.length))), x11], ⟨rfl, none, rfl⟩, fun i ρ μ' _ e => by rw [e.1]; exact get_last, ?_, ?_⟩
    · rintro i d _ _ hd ⟨rfl, x11, rfl⟩
      have ho := hall d (List.mem_of_getElem? hd)
      simp only [gaName, aIfS, aTest, aOp, aCall, aCons, aNil, aVar, List.set_cons_zero, List.set_cons_succ, List.getElem?_cons_zero, List.getElem?_cons_succ]
      refine ⟨n, sets, d, rfl, hn, sm, ho, ?_⟩
      refine ⟨n, sets, d, rfl, hn, sm, ho, ?_⟩
      show (if (!(judge n sets d == judge n sets d)) = true then _ else _)
      rw [if_neg (by simp)]
      exact ⟨rfl, some d, rfl⟩
    · rintro _ _ _
      exact nx _ _
theorem eqA_bl {a b : Bool} {μ : Mem} {Q : AK} (q : Q (.bl (a == b)) μ) : eqA (.bl a) (.bl b) μ Q := q
theorem r_law (ds : List A) (μ : Mem) (Q : AK) (h : s_law ds μ Q) : a_law { nx := fun _ μ' => Ret μ Q .non μ', rt := Ret μ Q } (astart n_law.length ds) μ := by
  obtain ⟨ns, rfl, rfl, q⟩ := h
  rw [a_law_eq]
  have fin : ∀ μ', Ret [] Q (.bl true) μ' := fun μ' => ret_same (μ := []) (g := μ') (by simp [A.lt]) (q [])
  rw [show astart n_law.length [A.frl (ns.map .int)] = [some (.frl (ns.map .int)), none, none, none, none, none, none, none, none, none, none, none] from rfl]
  simp only [aSeq, aAsg, gaName, aCall, aCons, aNil, aVar, aCell, aLst, aC, List.set_cons_zero, List.set_cons_succ, List.getElem?_cons_zero, List.getElem?_cons_succ]
  refine ⟨ns, rfl, rfl, fun c0 c1 g => ?_⟩
  refine take_ok (m := 7) g (by decide) (by decide) fun n c2 hn g2 => ?_
  refine lw1_ok (by omega) g2 rfl fun sets c3 hl hs g3 => ?_
  have sm : Sm sets := ⟨hl, fun s h => Nat.lt_of_lt_of_le (hs s h) (Nat.pow_le_pow_right (by omega) (by omega))⟩
  refine ⟨n, sets, rfl, sm, fun t ht => ?_⟩
  obtain ⟨hi, hj, gd, row, et, hit, hfew⟩ := paper_all hs (by omega) hl ht
  have ho : OutD 3 t := out_mono 2 t (in_out 2 t hi)
  refine ⟨by decide, sets, [], 2, rfl, rfl, by omega, sm.2, by simp; omega, ?_⟩
  rw [hit]
  refine lw2_ok (by omega) sm ho hj ⟨row, et⟩ ?_
  refine lw3_ok sm fun x7 x8 x9 => ?_
  rw [hfew]
  simp only [aSeq, aAsg, gaName, aRet, aC, aIfS, aTest, aOp, aVar, aNext, aTupRg, aLen, List.set_cons_zero, List.set_cons_succ, List.getElem?_cons_zero, List.getElem?_cons_succ]
  refine eqA_bl ?_
  rw [show ((!gd) == gd) = false from by cases gd <;> rfl]
  dsimp only
  rw [if_neg Bool.false_ne_true]
  refine ⟨sets.length, by show some (List.length _) = _; rw [List.length_map], by omega, by omega, ?_⟩
  rw [Int.toNat_natCast, ints_rng]
  exact lw4_ok (by omega) sm hi g3 fun ρ μ' => fin μ'
end K26
end

namespace K26
open PySem PySem.Spec PyProof.Rows L2 XL
theorem r__law_int (ds : List A) (μ : Mem) (Q : AK) (h : s__law_int ds μ Q) : a__law_int { nx := fun _ μ' => Ret μ Q .non μ', rt := Ret μ Q } (astart n__law_int.length ds) μ := r_is_integer ds μ Q h
end K26

section
set_option maxHeartbeats 4000000
namespace K26
open PySem PySem.Spec PyProof.Rows L2 XL
def top (i : Nat) : Stmt := PySem.Challenge.pw_meetsandjoins_k26_whole_hall_papers.main.body.getD i (.Pass ⟨0, 0, 0, 0⟩)
abbrev t_is_integer : Stmt := top 1
abbrev t_has : Stmt := top 2
abbrev t_members : Stmt := top 3
abbrev t_count : Stmt := top 4
abbrev t_hall_paper : Stmt := top 6
abbrev t_find_item : Stmt := top 7
abbrev t_takes_hall : Stmt := top 8
abbrev t__law_int : Stmt := top 10
abbrev t__law_bit : Stmt := top 11
abbrev t__law_has : Stmt := top 12
abbrev t__law_members : Stmt := top 13
abbrev t__law_count : Stmt := top 14
abbrev t__law_begin : Stmt := top 15
abbrev t__law_take : Stmt := top 16
abbrev t__law_pick : Stmt := top 17
abbrev t__law_spoil : Stmt := top 18
abbrev t__law_right : Stmt := top 19
abbrev t__law_items : Stmt := top 20
abbrev t_law : Stmt := top 21
structure Txt (mg : Str → Option Value) : Prop where
  b_abs : mg "abs" = none
  b_all : mg "all" = none
  b_any : mg "any" = none
  b_bool : mg "bool" = none
  b_int : mg "int" = none
  b_isinstance : mg "isinstance" = none
  b_len : mg "len" = none
  b_list : mg "list" = none
  b_range : mg "range" = none
  b_set : mg "set" = none
  b_sorted : mg "sorted" = none
  b_tuple : mg "tuple" = none
  b_zip : mg "zip" = none
section
variable {P : Program} {w : World} {K : PySem.W.Frag} {mg : Str → Option Value} {base : Heap}
abbrev FnP (K : PySem.W.Frag) (x : Str) (st : Stmt) (f : Addr) (fd : FuncData) : Prop := FunD K x x (defArgs st) (defBody st) (defScope st) [] [] f fd
theorem sc_is_integer : FnScope n_is_integer ["value"] (defScope t_is_integer) := ⟨rfl, rfl, rfl, by decide +kernel, rfl, by decide +kernel, by decide +kernel⟩
theorem bd_is_integer {f : Addr} {fd : FuncData} (F : FnP K "is_integer" t_is_integer f fd) : Binds K fd ["value"] [] := F.bindsN fun _ _ _ _ _ _ us hl => match us, hl with | [_], _ => rfl
theorem ok_is_integer {f : Addr} {fd : FuncData} (F : FnP K "is_integer" t_is_integer f fd) (T : Txt mg) (hm : mg "is_integer" = some (.ref f)) : FnA P w K mg base 1 "is_integer" 1 s_is_integer :=
  fn_a (a := a_is_integer) F sc_is_integer rfl hm (bd_is_integer F) l_is_integer (fun cdv A outer s H E hr => (xss_one (xs_ret (xe_and (xe_isi rfl T.b_isinstance (xv 0) (xe_ty rfl T.b_int (by decide +kernel))) (xe_one (xe_not (xe_isi rfl T.b_isinstance (xv 0) (xe_ty rfl T.b_bool (by decide +kernel)))))))))
    r_is_integer
theorem sc_has : FnScope n_has ["bits", "number"] (defScope t_has) := ⟨rfl, rfl, rfl, by decide +kernel, rfl, by decide +kernel, by decide +kernel⟩
theorem bd_has {f : Addr} {fd : FuncData} (F : FnP K "has" t_has f fd) : Binds K fd ["bits", "number"] [] := F.bindsN fun _ _ _ _ _ _ us hl => match us, hl with | [_, _], _ => rfl
theorem ok_has {f : Addr} {fd : FuncData} (F : FnP K "has" t_has f fd) (T : Txt mg) (hm : mg "has" = some (.ref f)) : FnA P w K mg base 1 "has" 2 s_has :=
  fn_a (a := a_has) F sc_has rfl hm (bd_has F) l_has (fun cdv A outer s H E hr => (xss_one (xs_ret (xe_cmp (xo_eq (hu64 hr)) (xe_op xo_and (xe_op xo_shr (xv 0) (xv 1)) xe_int) xe_int (nomark _)))))
    r_has
theorem sc_members : FnScope n_members ["bits"] (defScope t_members) := ⟨rfl, rfl, rfl, by decide +kernel, rfl, by decide +kernel, by decide +kernel⟩
theorem bd_members {f : Addr} {fd : FuncData} (F : FnP K "members" t_members f fd) : Binds K fd ["bits"] [] := F.bindsN fun _ _ _ _ _ _ us hl => match us, hl with | [_], _ => rfl
theorem ok_members {f : Addr} {fd : FuncData} (F : FnP K "members" t_members f fd) (T : Txt mg) (hm : mg "members" = some (.ref f)) : FnA P w K mg base 1 "members" 1 s_members :=
  fn_a (a := a_members) F sc_members rfl hm (bd_members F) l_members (fun cdv A outer s H E hr => (xss_cons (xs_set (i := 1) sc_members.nd rfl (Or.inl rfl) (xe_cell (xl_lst xa_nil)))
    (xss_cons (xs_set (i := 2) sc_members.nd rfl (Or.inl rfl) xe_int)
    (xss_cons (xs_while PassesOwn.never (xt_cmp xo_gt (xv 0) xe_int (nomark _)) (xss_cons (xs_if (xt_cmp (xo_eq (hu64 hr)) (xe_op xo_and (xv 0) xe_int) xe_int (nomark _)) (xss_one (xs_expr (xe_app (xv 1) (xv 2)))) xss_nil)
    (xss_cons (xs_set (i := 0) sc_members.nd rfl (Or.inl rfl) (xe_op xo_shr (xv 0) xe_int))
    (xss_one (xs_aug (i := 2) xi_add sc_members.nd rfl (Or.inl rfl) xe_int)))))
    (xss_one (xs_ret (xe_tupOf rfl T.b_tuple (xq_val (xv 1)))))))))
    r_members
theorem sc_count : FnScope n_count ["bits"] (defScope t_count) := ⟨rfl, rfl, rfl, by decide +kernel, rfl, by decide +kernel, by decide +kernel⟩
theorem bd_count {f : Addr} {fd : FuncData} (F : FnP K "count" t_count f fd) : Binds K fd ["bits"] [] := F.bindsN fun _ _ _ _ _ _ us hl => match us, hl with | [_], _ => rfl
theorem ok_count {f : Addr} {fd : FuncData} (F : FnP K "count" t_count f fd) (T : Txt mg) (hm : mg "count" = some (.ref f)) : FnA P w K mg base 1 "count" 1 s_count :=
  fn_a (a := a_count) F sc_count rfl hm (bd_count F) l_count (fun cdv A outer s H E hr => (xss_cons (xs_set (i := 1) sc_count.nd rfl (Or.inl rfl) xe_int)
    (xss_cons (xs_while PassesOwn.never (xt_cmp xo_gt (xv 0) xe_int (nomark _)) (xss_cons (xs_aug (i := 1) xi_add sc_count.nd rfl (Or.inl rfl) (xe_op xo_and (xv 0) xe_int))
    (xss_one (xs_set (i := 0) sc_count.nd rfl (Or.inl rfl) (xe_op xo_shr (xv 0) xe_int)))))
    (xss_one (xs_ret (xv 1))))))
    r_count
theorem sc_hall_paper : FnScope n_hall_paper ["many", "sets"] (defScope t_hall_paper) := ⟨rfl, rfl, rfl, by decide +kernel, rfl, by decide +kernel, by decide +kernel⟩
theorem bd_hall_paper {f : Addr} {fd : FuncData} (F : FnP K "hall_paper" t_hall_paper f fd) : Binds K fd ["many", "sets"] [] := F.bindsN fun _ _ _ _ _ _ us hl => match us, hl with | [_, _], _ => rfl
theorem ok_hall_paper {f : Addr} {fd : FuncData} (F : FnP K "hall_paper" t_hall_paper f fd) (T : Txt mg) (hm : mg "hall_paper" = some (.ref f)) (F_find_item : FnA P w K mg base 9 "find_item" 4 s_find_itemT) : FnA P w K mg base 10 "hall_paper" 2 s_hall_paper :=
  fn_a (a := a_hall_paper) F sc_hall_paper rfl hm (bd_hall_paper F) l_hall_paper (fun cdv A outer s H E hr => (xss_cons (xs_set (i := 2) sc_hall_paper.nd rfl (Or.inr rfl) (xe_dcell xd_new))
    (xss_cons (xs_for PassesOwn.never rfl (xi_range1 rfl T.b_range (xe_len rfl T.b_len (xv 1))) (xg_name (i := 3) sc_hall_paper.nd rfl (Or.inl rfl)) (xss_cons (xs_set (i := 4) sc_hall_paper.nd rfl (Or.inl rfl) (xe_dcell xd_new))
    (xss_one (xs_if (xt_not (xt_tru (xe_call F_find_item (hr.mono (by decide)) rfl (xa_cons (xv 1) (xa_cons (xv 3) (xa_cons (xv 2) (xa_cons (xv 4) xa_nil))))))) (xss_one (xs_ret (xe_tup (xa_cons xe_str (xa_cons (xe_tupOf rfl T.b_tuple (xq_new (xl_sortedD rfl rfl T.b_sorted (xd_merge (xv 3) xe_bl (xd_lock 4 (xd_dc (own := [("item", 6)]) rfl sc_hall_paper.nd (xi_keys (xv 4)) (blkOk_by (own := [("item", 6)]) (N := n_hall_paper) (sc := defScope t_hall_paper) (by decide +kernel)) (gok_name (by decide)) (fun _ _ _ _ _ => pg_name (i := 6) sc_hall_paper.nd rfl (by first | exact Or.inl rfl | exact Or.inr rfl)) (fun _ _ _ _ _ => xts_nil) (fun _ _ _ _ _ => (xe_ix (hu1 hr) (xv 2) (xv 6) (fun _ _ => rfl))) (fun _ _ _ _ _ => xe_bl))))))) xa_nil))))) xss_nil))))
    (xss_cons (xs_set (i := 5) sc_hall_paper.nd rfl (Or.inr rfl) (xe_dcell (xd_lock 2 (xd_dc (own := [("item", 6)]) rfl sc_hall_paper.nd (xi_keys (xv 2)) (blkOk_by (own := [("item", 6)]) (N := n_hall_paper) (sc := defScope t_hall_paper) (by decide +kernel)) (gok_name (by decide)) (fun _ _ _ _ _ => pg_name (i := 6) sc_hall_paper.nd rfl (by first | exact Or.inl rfl | exact Or.inr rfl)) (fun _ _ _ _ _ => xts_nil) (fun _ _ _ _ _ => (xe_ix (hu1 hr) (xv 2) (xv 6) (fun _ _ => rfl))) (fun _ _ _ _ _ => (xv 6))))))
    (xss_one (xs_ret (xe_tup (xa_cons xe_str (xa_cons (xe_tupOf rfl T.b_tuple (xq_new (xl_lc (own := [("at", 3)]) rfl sc_hall_paper.nd (xi_range1 rfl T.b_range (xe_len rfl T.b_len (xv 1))) (blkOk_by (own := [("at", 3)]) (N := n_hall_paper) (sc := defScope t_hall_paper) (by decide +kernel)) (gok_name (by decide)) (fun _ _ _ _ _ => pg_name (i := 3) sc_hall_paper.nd rfl (by first | exact Or.inl rfl | exact Or.inr rfl)) (fun _ _ _ _ _ => xts_nil) (fun _ _ _ _ _ => (xe_ix (hu1 hr) (xv 5) (xv 3) (fun _ _ => rfl)))))) xa_nil)))))))))
    r_hall_paper
theorem sc_find_item : FnScope n_find_item ["sets", "at", "matched", "seen"] (defScope t_find_item) := ⟨rfl, rfl, rfl, by decide +kernel, rfl, by decide +kernel, by decide +kernel⟩
theorem bd_find_item {f : Addr} {fd : FuncData} (F : FnP K "find_item" t_find_item f fd) : Binds K fd ["sets", "at", "matched", "seen"] [] := F.bindsN fun _ _ _ _ _ _ us hl => match us, hl with | [_, _, _, _], _ => rfl
theorem st_find_item {f : Addr} {fd : FuncData} {k : Nat} (hk : 1 ≤ k) (F : FnP K "find_item" t_find_item f fd) (T : Txt mg) (hm : mg "find_item" = some (.ref f)) (F_members : FnA P w K mg base 1 "members" 1 s_members) (m : Nat) (F_find_item : FnA P w K mg base k "find_item" 4 (s_find_item m)) : FnA P w K mg base (k + 1) "find_item" 4 (s_find_item (m + 1)) :=
  fn_a (a := a_find_item (s_find_item m)) F sc_find_item rfl hm (bd_find_item F) (l_find_item (m + 1)) (fun cdv A outer s H E hr => (xss_cons (xs_for PassesOwn.never rfl (xi_seq (xe_call F_members (hr.mono (by omega)) rfl (xa_cons (xe_ix (hu1 hr) (xv 0) (xv 1) (fun _ _ => rfl)) xa_nil))) (xg_name (i := 4) sc_find_item.nd rfl (Or.inl rfl)) (xss_one (xs_if (xt_cmp (xo_notin (hu65 hr)) (xv 4) (xv 3) (by with_unfolding_all rfl)) (xss_cons (xs_asg xe_bl (xg_sub (hu1 hr) (xv 3) (xv 4)))
    (xss_one (xs_if (PW.pt (xw_or (xt_cmp (xo_notin (hu65 hr)) (xv 4) (xv 2) (by with_unfolding_all rfl)) (xw_or1 (xt_tru (xe_call F_find_item (hr.mono (by omega)) rfl (xa_cons (xv 0) (xa_cons (xe_ix (hu1 hr) (xv 2) (xv 4) (fun _ _ => rfl)) (xa_cons (xv 2) (xa_cons (xv 3) xa_nil))))))))) (xss_cons (xs_asg (xv 1) (xg_sub (hu1 hr) (xv 2) (xv 4)))
    (xss_one (xs_ret xe_bl))) xss_nil))) xss_nil)))
    (xss_one (xs_ret xe_bl))))
    (r_find_item m)
theorem ok_find_item {f : Addr} {fd : FuncData} (F : FnP K "find_item" t_find_item f fd) (T : Txt mg) (hm : mg "find_item" = some (.ref f)) (F_members : FnA P w K mg base 1 "members" 1 s_members) : ∀ m : Nat, FnA P w K mg base (1 + m) "find_item" 4 (s_find_item m)
  | 0 => fn_false F.kp (ps := ["sets", "at", "matched", "seen"]) rfl hm (bd_find_item F) (z_find_item)
  | m + 1 => st_find_item (k := 1 + m) (Nat.le_add_right _ _) F T hm F_members m (ok_find_item F T hm F_members m)
theorem sc_takes_hall : FnScope n_takes_hall ["many", "sets", "paper"] (defScope t_takes_hall) := ⟨rfl, rfl, rfl, by decide +kernel, rfl, by decide +kernel, by decide +kernel⟩
theorem bd_takes_hall {f : Addr} {fd : FuncData} (F : FnP K "takes_hall" t_takes_hall f fd) : Binds K fd ["many", "sets", "paper"] [] := F.bindsN fun _ _ _ _ _ _ us hl => match us, hl with | [_, _, _], _ => rfl
theorem ok_takes_hall {f : Addr} {fd : FuncData} (F : FnP K "takes_hall" t_takes_hall f fd) (T : Txt mg) (hm : mg "takes_hall" = some (.ref f)) (F_is_integer : FnA P w K mg base 1 "is_integer" 1 s_is_integer) (F_has : FnA P w K mg base 1 "has" 2 s_has) (F_count : FnA P w K mg base 1 "count" 1 s_count) : FnA P w K mg base 2 "takes_hall" 3 s_takes_hall :=
  fn_a (a := a_takes_hall) F sc_takes_hall rfl hm (bd_takes_hall F) l_takes_hall (fun cdv A outer s H E hr => (xss_cons (xs_if (PW.pt (xw_or (xt_not (xt_tru (xe_isi rfl T.b_isinstance (xv 2) (xe_ty rfl T.b_tuple (by decide +kernel))))) (xw_or (xt_cmp (xo_ne (hu64 hr)) (xe_len rfl T.b_len (xv 2)) xe_int (nomark _)) (xw_or1 (xt_not (xt_tru (xe_isi rfl T.b_isinstance (xe_ix (hu1 hr) (xv 2) xe_int (fun _ _ => rfl)) (xe_ty rfl T.b_tuple (by decide +kernel))))))))) (xss_one (xs_ret xe_bl)) xss_nil)
    (xss_cons (xs_if (xt_tru (xe_any rfl rfl T.b_any (xql_new (xl_lc (own := [("each", 5)]) rfl sc_takes_hall.nd (xi_seq (xe_ix (hu1 hr) (xv 2) xe_int (fun _ _ => rfl))) (blkOk_by (own := [("each", 5)]) (N := n_takes_hall) (sc := defScope t_takes_hall) (by decide +kernel)) (gok_name (by decide)) (fun _ _ _ _ _ => pg_name (i := 5) sc_takes_hall.nd rfl (by first | exact Or.inl rfl | exact Or.inr rfl)) (fun _ _ _ _ _ => xts_nil) (fun _ _ _ _ _ => (xe_or (xe_not (xe_call F_is_integer (hr.mono (by decide)) rfl (xa_cons (xv 5) xa_nil))) (xe_one (xe_cmp xo_lt (xv 5) xe_int (nomark _))))))))) (xss_one (xs_ret xe_bl)) xss_nil)
    (xss_cons (xs_if (xt_cmp (xo_ne (hu64 hr)) (xe_lenD rfl T.b_len (xd_dc (own := [("each", 5)]) rfl sc_takes_hall.nd (xi_seq (xe_ix (hu1 hr) (xv 2) xe_int (fun _ _ => rfl))) (blkOk_by (own := [("each", 5)]) (N := n_takes_hall) (sc := defScope t_takes_hall) (by decide +kernel)) (gok_name (by decide)) (fun _ _ _ _ _ => pg_name (i := 5) sc_takes_hall.nd rfl (by first | exact Or.inl rfl | exact Or.inr rfl)) (fun _ _ _ _ _ => xts_nil) (fun _ _ _ _ _ => (xv 5)) (fun _ _ _ _ _ => xe_bl))) (xe_len rfl T.b_len (xe_ix (hu1 hr) (xv 2) xe_int (fun _ _ => rfl))) (nomark _)) (xss_one (xs_ret xe_bl)) xss_nil)
    (xss_cons (xs_if (xt_cmp (xo_eq (hu64 hr)) (xe_ix (hu1 hr) (xv 2) xe_int (fun _ _ => rfl)) xe_str (nomark _)) (xss_cons (xs_if (xt_cmp (xo_ne (hu64 hr)) (xe_len rfl T.b_len (xe_ix (hu1 hr) (xv 2) xe_int (fun _ _ => rfl))) (xe_len rfl T.b_len (xv 1)) (nomark _)) (xss_one (xs_ret xe_bl)) xss_nil)
    (xss_one (xs_ret (xe_all rfl rfl T.b_all (xql_new (xl_lc (own := [("item", 6), ("each", 5)]) rfl sc_takes_hall.nd (xi_zip rfl T.b_zip (xe_ix (hu1 hr) (xv 2) xe_int (fun _ _ => rfl)) (xv 1)) (blkOk_by (own := [("item", 6), ("each", 5)]) (N := n_takes_hall) (sc := defScope t_takes_hall) (by decide +kernel)) (gok_tup2 (by decide) (by decide)) (fun _ _ _ _ _ => pg_tup rfl (pgs_cons (pg_name (i := 6) sc_takes_hall.nd rfl (by first | exact Or.inl rfl | exact Or.inr rfl)) (pgs_cons (pg_name (i := 5) sc_takes_hall.nd rfl (by first | exact Or.inl rfl | exact Or.inr rfl)) pgs_nil))) (fun _ _ _ _ _ => xts_nil) (fun _ _ _ _ _ => (xe_and (xe_cmp xo_lt (xv 6) (xv 0) (nomark _)) (xe_one (xe_call F_has (hr.mono (by decide)) rfl (xa_cons (xv 5) (xa_cons (xv 6) xa_nil)))))))))))) xss_nil)
    (xss_cons (xs_if (PW.pt (xw_or (xt_cmp (xo_ne (hu64 hr)) (xe_ix (hu1 hr) (xv 2) xe_int (fun _ _ => rfl)) xe_str (nomark _)) (xw_or1 (xt_tru (xe_any rfl rfl T.b_any (xql_new (xl_lc (own := [("at", 4)]) rfl sc_takes_hall.nd (xi_seq (xe_ix (hu1 hr) (xv 2) xe_int (fun _ _ => rfl))) (blkOk_by (own := [("at", 4)]) (N := n_takes_hall) (sc := defScope t_takes_hall) (by decide +kernel)) (gok_name (by decide)) (fun _ _ _ _ _ => pg_name (i := 4) sc_takes_hall.nd rfl (by first | exact Or.inl rfl | exact Or.inr rfl)) (fun _ _ _ _ _ => xts_nil) (fun _ _ _ _ _ => (xe_cmp xo_ge (xv 4) (xe_len rfl T.b_len (xv 1)) (nomark _)))))))))) (xss_one (xs_ret xe_bl)) xss_nil)
    (xss_cons (xs_set (i := 3) sc_takes_hall.nd rfl (Or.inl rfl) xe_int)
    (xss_cons (xs_for PassesOwn.never rfl (xi_seq (xe_ix (hu1 hr) (xv 2) xe_int (fun _ _ => rfl))) (xg_name (i := 4) sc_takes_hall.nd rfl (Or.inl rfl)) (xss_one (xs_set (i := 3) sc_takes_hall.nd rfl (Or.inl rfl) (xe_op xo_or (xv 3) (xe_ix (hu1 hr) (xv 1) (xv 4) (fun _ _ => rfl))))))
    (xss_one (xs_ret (xe_cmp xo_lt (xe_call F_count (hr.mono (by decide)) rfl (xa_cons (xv 3) xa_nil)) (xe_len rfl T.b_len (xe_ix (hu1 hr) (xv 2) xe_int (fun _ _ => rfl))) (nomark _))))))))))))
    r_takes_hall
theorem sc__law_int : FnScope n__law_int ["x"] (defScope t__law_int) := ⟨rfl, rfl, rfl, by decide +kernel, rfl, by decide +kernel, by decide +kernel⟩
theorem bd__law_int {f : Addr} {fd : FuncData} (F : FnP K "_law_int" t__law_int f fd) : Binds K fd ["x"] [] := F.bindsN fun _ _ _ _ _ _ us hl => match us, hl with | [_], _ => rfl
theorem ok__law_int {f : Addr} {fd : FuncData} (F : FnP K "_law_int" t__law_int f fd) (T : Txt mg) (hm : mg "_law_int" = some (.ref f)) : FnA P w K mg base 1 "_law_int" 1 s__law_int :=
  fn_a (a := a__law_int) F sc__law_int rfl hm (bd__law_int F) l__law_int (fun cdv A outer s H E hr => (xss_one (xs_ret (xe_and (xe_isi rfl T.b_isinstance (xv 0) (xe_ty rfl T.b_int (by decide +kernel))) (xe_one (xe_not (xe_isi rfl T.b_isinstance (xv 0) (xe_ty rfl T.b_bool (by decide +kernel)))))))))
    r__law_int
theorem sc__law_bit : FnScope n__law_bit ["x"] (defScope t__law_bit) := ⟨rfl, rfl, rfl, by decide +kernel, rfl, by decide +kernel, by decide +kernel⟩
theorem bd__law_bit {f : Addr} {fd : FuncData} (F : FnP K "_law_bit" t__law_bit f fd) : Binds K fd ["x"] [] := F.bindsN fun _ _ _ _ _ _ us hl => match us, hl with | [_], _ => rfl
theorem ok__law_bit {f : Addr} {fd : FuncData} (F : FnP K "_law_bit" t__law_bit f fd) (T : Txt mg) (hm : mg "_law_bit" = some (.ref f)) : FnA P w K mg base 1 "_law_bit" 1 s__law_bit :=
  fn_a (a := a__law_bit) F sc__law_bit rfl hm (bd__law_bit F) l__law_bit (fun cdv A outer s H E hr => (xss_cons (xs_set (i := 1) sc__law_bit.nd rfl (Or.inl rfl) xe_int)
    (xss_cons (xs_for PassesOwn.never rfl (xi_range1 rfl T.b_range (xv 0)) (xg_name (i := 2) sc__law_bit.nd rfl (Or.inl rfl)) (xss_one (xs_set (i := 1) sc__law_bit.nd rfl (Or.inl rfl) (xe_op xo_mul xe_int (xv 1)))))
    (xss_one (xs_ret (xv 1))))))
    r__law_bit
theorem sc__law_has : FnScope n__law_has ["bits", "x"] (defScope t__law_has) := ⟨rfl, rfl, rfl, by decide +kernel, rfl, by decide +kernel, by decide +kernel⟩
theorem bd__law_has {f : Addr} {fd : FuncData} (F : FnP K "_law_has" t__law_has f fd) : Binds K fd ["bits", "x"] [] := F.bindsN fun _ _ _ _ _ _ us hl => match us, hl with | [_, _], _ => rfl
theorem ok__law_has {f : Addr} {fd : FuncData} (F : FnP K "_law_has" t__law_has f fd) (T : Txt mg) (hm : mg "_law_has" = some (.ref f)) (F__law_bit : FnA P w K mg base 1 "_law_bit" 1 s__law_bit) : FnA P w K mg base 2 "_law_has" 2 s__law_has :=
  fn_a (a := a__law_has) F sc__law_has rfl hm (bd__law_has F) l__law_has (fun cdv A outer s H E hr => (xss_one (xs_ret (xe_cmp (xo_eq (hu64 hr)) (xe_op xo_mod (xe_int1 rfl T.b_int (xe_op xo_fdiv (xv 0) (xe_call F__law_bit (hr.mono (by decide)) rfl (xa_cons (xv 1) xa_nil)))) xe_int) xe_int (nomark _)))))
    r__law_has
theorem sc__law_members : FnScope n__law_members ["bits"] (defScope t__law_members) := ⟨rfl, rfl, rfl, by decide +kernel, rfl, by decide +kernel, by decide +kernel⟩
theorem bd__law_members {f : Addr} {fd : FuncData} (F : FnP K "_law_members" t__law_members f fd) : Binds K fd ["bits"] [] := F.bindsN fun _ _ _ _ _ _ us hl => match us, hl with | [_], _ => rfl
theorem ok__law_members {f : Addr} {fd : FuncData} (F : FnP K "_law_members" t__law_members f fd) (T : Txt mg) (hm : mg "_law_members" = some (.ref f)) : FnA P w K mg base 1 "_law_members" 1 s__law_members :=
  fn_a (a := a__law_members) F sc__law_members rfl hm (bd__law_members F) l__law_members (fun cdv A outer s H E hr => (xss_cons (xs_set (i := 1) sc__law_members.nd rfl (Or.inl rfl) (xe_cell (xl_lst xa_nil)))
    (xss_cons (xs_set (i := 2) sc__law_members.nd rfl (Or.inl rfl) xe_int)
    (xss_cons (xs_while PassesOwn.never (xt_cmp xo_gt (xv 0) xe_int (nomark _)) (xss_cons (xs_if (xt_cmp (xo_eq (hu64 hr)) (xe_op xo_mod (xe_int1 rfl T.b_int (xv 0)) xe_int) xe_int (nomark _)) (xss_one (xs_expr (xe_app (xv 1) (xv 2)))) xss_nil)
    (xss_cons (xs_set (i := 0) sc__law_members.nd rfl (Or.inl rfl) (xe_op xo_fdiv (xv 0) xe_int))
    (xss_one (xs_set (i := 2) sc__law_members.nd rfl (Or.inl rfl) (xe_op xo_add (xv 2) xe_int))))))
    (xss_one (xs_ret (xe_tupOf rfl T.b_tuple (xq_val (xv 1)))))))))
    r__law_members
theorem sc__law_count : FnScope n__law_count ["bits"] (defScope t__law_count) := ⟨rfl, rfl, rfl, by decide +kernel, rfl, by decide +kernel, by decide +kernel⟩
theorem bd__law_count {f : Addr} {fd : FuncData} (F : FnP K "_law_count" t__law_count f fd) : Binds K fd ["bits"] [] := F.bindsN fun _ _ _ _ _ _ us hl => match us, hl with | [_], _ => rfl
theorem ok__law_count {f : Addr} {fd : FuncData} (F : FnP K "_law_count" t__law_count f fd) (T : Txt mg) (hm : mg "_law_count" = some (.ref f)) (F__law_members : FnA P w K mg base 1 "_law_members" 1 s__law_members) : FnA P w K mg base 2 "_law_count" 1 s__law_count :=
  fn_a (a := a__law_count) F sc__law_count rfl hm (bd__law_count F) l__law_count (fun cdv A outer s H E hr => (xss_one (xs_ret (xe_len rfl T.b_len (xe_call F__law_members (hr.mono (by decide)) rfl (xa_cons (xv 0) xa_nil))))))
    r__law_count
theorem sc__law_begin : FnScope n__law_begin ["script"] (defScope t__law_begin) := ⟨rfl, rfl, rfl, by decide +kernel, rfl, by decide +kernel, by decide +kernel⟩
theorem bd__law_begin {f : Addr} {fd : FuncData} (F : FnP K "_law_begin" t__law_begin f fd) : Binds K fd ["script"] [] := F.bindsN fun _ _ _ _ _ _ us hl => match us, hl with | [_], _ => rfl
theorem ok__law_begin {f : Addr} {fd : FuncData} (F : FnP K "_law_begin" t__law_begin f fd) (T : Txt mg) (hm : mg "_law_begin" = some (.ref f)) : FnA P w K mg base 1 "_law_begin" 1 s__law_begin :=
  fn_a (a := a__law_begin) F sc__law_begin rfl hm (bd__law_begin F) l__law_begin (fun cdv A outer s H E hr => (xss_cons (xs_set (i := 1) sc__law_begin.nd rfl (Or.inl rfl) xe_int)
    (xss_cons (xs_for PassesOwn.never rfl (xi_seq (xv 0)) (xg_name (i := 2) sc__law_begin.nd rfl (Or.inl rfl)) (xss_one (xs_set (i := 1) sc__law_begin.nd rfl (Or.inl rfl) (xe_op xo_mod (xe_op xo_add (xe_op xo_add (xe_op xo_mul (xv 1) xe_int) (xe_op xo_mod (xe_int1 rfl T.b_int (xv 2)) xe_int)) xe_int) xe_int))))
    (xss_one (xs_ret (xe_cell (xl_lst (xa_cons (xe_cell (xl_lstOf rfl T.b_list (xq_val (xv 0)))) (xa_cons xe_int (xa_cons xe_int (xa_cons (xv 1) xa_nil)))))))))))
    r__law_begin
theorem sc__law_take : FnScope n__law_take ["d", "many"] (defScope t__law_take) := ⟨rfl, rfl, rfl, by decide +kernel, rfl, by decide +kernel, by decide +kernel⟩
theorem bd__law_take {f : Addr} {fd : FuncData} (F : FnP K "_law_take" t__law_take f fd) : Binds K fd ["d", "many"] [] := F.bindsN fun _ _ _ _ _ _ us hl => match us, hl with | [_, _], _ => rfl
theorem ok__law_take {f : Addr} {fd : FuncData} (F : FnP K "_law_take" t__law_take f fd) (T : Txt mg) (hm : mg "_law_take" = some (.ref f)) : FnA P w K mg base 1 "_law_take" 2 s__law_take :=
  fn_a (a := a__law_take) F sc__law_take rfl hm (bd__law_take F) l__law_take (fun cdv A outer s H E hr => (xss_cons (xs_if (PW.pt (xw_and (xt_cmp (xo_eq (hu64 hr)) (xe_ix (hu1 hr) (xv 0) xe_int (fun _ _ => rfl)) xe_int (nomark _)) (xw_and1 (xt_cmp xo_lt (xe_ix (hu1 hr) (xv 0) xe_int (fun _ _ => rfl)) (xe_len rfl T.b_len (xe_ix (hu1 hr) (xv 0) xe_int (fun _ _ => rfl))) (nomark _))))) (xss_cons (xs_asg (xe_abs rfl T.b_abs (xe_int1 rfl T.b_int (xe_ix (hu1 hr) (xe_ix (hu1 hr) (xv 0) xe_int (fun _ _ => rfl)) (xe_ix (hu1 hr) (xv 0) xe_int (fun _ _ => rfl)) (fun _ _ => rfl)))) (xg_sub (hu1 hr) (xv 0) xe_int))
    (xss_cons (xs_asg (xe_op xo_add (xe_ix (hu1 hr) (xv 0) xe_int (fun _ _ => rfl)) xe_int) (xg_sub (hu1 hr) (xv 0) xe_int))
    (xss_one (xs_if (xt_cmp xo_lt (xe_ix (hu1 hr) (xv 0) xe_int (fun _ _ => rfl)) (xe_op xo_pow xe_int xe_int) (nomark _)) (xss_cons (xs_set (i := 2) sc__law_take.nd rfl (Or.inl rfl) (xe_int1 rfl T.b_int (xe_ix (hu1 hr) (xv 0) xe_int (fun _ _ => rfl))))
    (xss_cons (xs_asg xe_int (xg_sub (hu1 hr) (xv 0) xe_int))
    (xss_one (xs_ret (xe_op xo_mod (xv 2) (xv 1)))))) xss_nil)))) xss_nil)
    (xss_cons (xs_if (xt_cmp xo_gt (xe_ix (hu1 hr) (xv 0) xe_int (fun _ _ => rfl)) xe_int (nomark _)) (xss_cons (xs_set (i := 3) sc__law_take.nd rfl (Or.inl rfl) (xe_op xo_mod (xe_int1 rfl T.b_int (xe_ix (hu1 hr) (xv 0) xe_int (fun _ _ => rfl))) (xv 1)))
    (xss_cons (xs_asg (xe_op xo_fdiv (xe_int1 rfl T.b_int (xe_ix (hu1 hr) (xv 0) xe_int (fun _ _ => rfl))) (xv 1)) (xg_sub (hu1 hr) (xv 0) xe_int))
    (xss_one (xs_ret (xv 3))))) xss_nil)
    (xss_cons (xs_asg (xe_op xo_mod (xe_int1 rfl T.b_int (xe_op xo_add (xe_op xo_mul (xe_ix (hu1 hr) (xv 0) xe_int (fun _ _ => rfl)) xe_int) xe_int)) xe_int) (xg_sub (hu1 hr) (xv 0) xe_int))
    (xss_one (xs_ret (xe_op xo_mod (xe_int1 rfl T.b_int (xe_op xo_fdiv (xe_ix (hu1 hr) (xv 0) xe_int (fun _ _ => rfl)) xe_int)) (xv 1))))))))
    r__law_take
theorem sc__law_pick : FnScope n__law_pick ["d", "menu"] (defScope t__law_pick) := ⟨rfl, rfl, rfl, by decide +kernel, rfl, by decide +kernel, by decide +kernel⟩
theorem bd__law_pick {f : Addr} {fd : FuncData} (F : FnP K "_law_pick" t__law_pick f fd) : Binds K fd ["d", "menu"] [] := F.bindsN fun _ _ _ _ _ _ us hl => match us, hl with | [_, _], _ => rfl
theorem ok__law_pick {f : Addr} {fd : FuncData} (F : FnP K "_law_pick" t__law_pick f fd) (T : Txt mg) (hm : mg "_law_pick" = some (.ref f)) (F__law_take : FnA P w K mg base 1 "_law_take" 2 s__law_take) : FnA P w K mg base 2 "_law_pick" 2 s__law_pick :=
  fn_a (a := a__law_pick) F sc__law_pick rfl hm (bd__law_pick F) l__law_pick (fun cdv A outer s H E hr => (xss_one (xs_ret (xe_ix (hu1 hr) (xv 1) (xe_call F__law_take (hr.mono (by decide)) rfl (xa_cons (xv 0) (xa_cons (xe_len rfl T.b_len (xv 1)) xa_nil))) (fun _ _ => rfl)))))
    r__law_pick
theorem sc__law_spoil : FnScope n__law_spoil ["d", "thing"] (defScope t__law_spoil) := ⟨rfl, rfl, rfl, by decide +kernel, rfl, by decide +kernel, by decide +kernel⟩
theorem bd__law_spoil {f : Addr} {fd : FuncData} (F : FnP K "_law_spoil" t__law_spoil f fd) : Binds K fd ["d", "thing"] [] := F.bindsN fun _ _ _ _ _ _ us hl => match us, hl with | [_, _], _ => rfl
theorem st__law_spoil {f : Addr} {fd : FuncData} {k : Nat} (hk : 2 ≤ k) (F : FnP K "_law_spoil" t__law_spoil f fd) (T : Txt mg) (hm : mg "_law_spoil" = some (.ref f)) (F__law_take : FnA P w K mg base 1 "_law_take" 2 s__law_take) (F__law_pick : FnA P w K mg base 2 "_law_pick" 2 s__law_pick) (m : Nat) (F__law_spoil : FnA P w K mg base k "_law_spoil" 2 (s__law_spoil m)) : FnA P w K mg base (k + 1) "_law_spoil" 2 (s__law_spoil (m + 1)) :=
  fn_a (a := a__law_spoil (s__law_spoil m)) F sc__law_spoil rfl hm (bd__law_spoil F) (l__law_spoil (m + 1)) (fun cdv A outer s H E hr => (xss_cons (xs_if (PW.pt (xw_and (xt_tru (xe_isi rfl T.b_isinstance (xv 1) (xe_ty rfl T.b_tuple (by decide +kernel)))) (xw_and (xt_cmp xo_gt (xe_len rfl T.b_len (xv 1)) xe_int (nomark _)) (xw_and1 (xt_cmp xo_gt (xe_call F__law_take (hr.mono (by omega)) rfl (xa_cons (xv 0) (xa_cons xe_int xa_nil))) xe_int (nomark _)))))) (xss_cons (xs_set (i := 2) sc__law_spoil.nd rfl (Or.inl rfl) (xe_if (xt_cmp xo_gt (xe_call F__law_take (hr.mono (by omega)) rfl (xa_cons (xv 0) (xa_cons xe_int xa_nil))) xe_int (nomark _)) (xe_call F__law_take (hr.mono (by omega)) rfl (xa_cons (xv 0) (xa_cons (xe_len rfl T.b_len (xv 1)) xa_nil))) (xe_op xo_sub (xe_len rfl T.b_len (xv 1)) xe_int)))
    (xss_cons (xs_set (i := 3) sc__law_spoil.nd rfl (Or.inl rfl) (xe_call F__law_take (hr.mono (by omega)) rfl (xa_cons (xv 0) (xa_cons xe_int xa_nil))))
    (xss_cons (xs_if (xt_cmp (xo_eq (hu64 hr)) (xv 3) xe_int (nomark _)) (xss_one (xs_ret (xe_op xo_add (xe_sl (xv 1) xp_none (xp_some (xv 2))) (xe_sl (xv 1) (xp_some (xe_op xo_add (xv 2) xe_int)) xp_none)))) xss_nil)
    (xss_cons (xs_if (xt_cmp (xo_eq (hu64 hr)) (xv 3) xe_int (nomark _)) (xss_one (xs_ret (xe_op xo_add (xe_op xo_add (xe_sl (xv 1) xp_none (xp_some (xv 2))) (xe_tup (xa_cons (xe_ix (hu1 hr) (xv 1) (xv 2) (fun _ _ => rfl)) xa_nil))) (xe_sl (xv 1) (xp_some (xv 2)) xp_none)))) xss_nil)
    (xss_cons (xs_if (xt_cmp (xo_eq (hu64 hr)) (xv 3) xe_int (nomark _)) (xss_one (xs_ret (xe_op xo_add (xv 1) (xe_op xo_mul (xe_tup (xa_cons xe_int xa_nil)) (xe_op xo_add xe_int (xe_call F__law_take (hr.mono (by omega)) rfl (xa_cons (xv 0) (xa_cons xe_int xa_nil)))))))) xss_nil)
    (xss_cons (xs_if (xt_cmp (xo_eq (hu64 hr)) (xv 3) xe_int (nomark _)) (xss_cons (xs_set (i := 4) sc__law_spoil.nd rfl (Or.inl rfl) (xe_call F__law_take (hr.mono (by omega)) rfl (xa_cons (xv 0) (xa_cons (xe_len rfl T.b_len (xv 1)) xa_nil))))
    (xss_cons (xs_set (i := 5) sc__law_spoil.nd rfl (Or.inl rfl) (xe_cell (xl_lstOf rfl T.b_list (xq_val (xv 1)))))
    (xss_cons (xs_asg (xe_tup (xa_cons (xe_ix (hu1 hr) (xv 5) (xv 2) (fun _ _ => rfl)) (xa_cons (xe_ix (hu1 hr) (xv 5) (xv 4) (fun _ _ => rfl)) xa_nil))) (xg_tup rfl (xgs_cons (xg_sub (hu1 hr) (xv 5) (xv 4)) (xgs_cons (xg_sub (hu1 hr) (xv 5) (xv 2)) xgs_nil))))
    (xss_one (xs_ret (xe_tupOf rfl T.b_tuple (xq_val (xv 5)))))))) xss_nil)
    (xss_one (xs_ret (xe_op xo_add (xe_op xo_add (xe_sl (xv 1) xp_none (xp_some (xv 2))) (xe_tup (xa_cons (xe_call F__law_spoil (hr.mono (by omega)) rfl (xa_cons (xv 0) (xa_cons (xe_ix (hu1 hr) (xv 1) (xv 2) (fun _ _ => rfl)) xa_nil))) xa_nil))) (xe_sl (xv 1) (xp_some (xe_op xo_add (xv 2) xe_int)) xp_none)))))))))) xss_nil)
    (xss_cons (xs_if (PW.pt (xw_or (xt_tru (xe_isi rfl T.b_isinstance (xv 1) (xe_ty rfl T.b_bool (by decide +kernel)))) (xw_or1 (xt_not (xt_tru (xe_isi rfl T.b_isinstance (xv 1) (xe_ty rfl T.b_int (by decide +kernel)))))))) (xss_one (xs_ret (xe_call F__law_pick (hr.mono (by omega)) rfl (xa_cons (xv 0) (xa_cons (xe_cell (xl_lst (xa_cons xe_non (xa_cons xe_int (xa_cons (xe_tup xa_nil) (xa_cons xe_str (xa_cons xe_str (xa_cons xe_bl (xa_cons xe_str (xa_cons (xe_tup (xa_cons xe_str xa_nil)) xa_nil)))))))))) xa_nil))))) xss_nil)
    (xss_one (xs_ret (xe_call F__law_pick (hr.mono (by omega)) rfl (xa_cons (xv 0) (xa_cons (xe_cell (xl_lst (xa_cons (xe_op xo_add (xv 1) xe_int) (xa_cons (xe_op xo_sub (xv 1) xe_int) (xa_cons xe_int (xa_cons (xe_op xo_sub xe_int xe_int) (xa_cons xe_int (xa_cons (xe_op xo_add (xv 1) xe_int) (xa_cons (xe_op xo_sub (xv 1) xe_int) (xa_cons xe_non (xa_cons (xe_tup xa_nil) (xa_cons (xe_op xo_mul (xv 1) xe_int) (xa_cons xe_bl (xa_cons xe_str xa_nil)))))))))))))) xa_nil))))))))
    (r__law_spoil m)
theorem ok__law_spoil {f : Addr} {fd : FuncData} (F : FnP K "_law_spoil" t__law_spoil f fd) (T : Txt mg) (hm : mg "_law_spoil" = some (.ref f)) (F__law_take : FnA P w K mg base 1 "_law_take" 2 s__law_take) (F__law_pick : FnA P w K mg base 2 "_law_pick" 2 s__law_pick) : ∀ m : Nat, FnA P w K mg base (2 + m) "_law_spoil" 2 (s__law_spoil m)
  | 0 => fn_false F.kp (ps := ["d", "thing"]) rfl hm (bd__law_spoil F) (z__law_spoil)
  | m + 1 => st__law_spoil (k := 2 + m) (Nat.le_add_right _ _) F T hm F__law_take F__law_pick m (ok__law_spoil F T hm F__law_take F__law_pick m)
theorem sc__law_right : FnScope n__law_right ["n", "sets", "paper"] (defScope t__law_right) := ⟨rfl, rfl, rfl, by decide +kernel, rfl, by decide +kernel, by decide +kernel⟩
theorem bd__law_right {f : Addr} {fd : FuncData} (F : FnP K "_law_right" t__law_right f fd) : Binds K fd ["n", "sets", "paper"] [] := F.bindsN fun _ _ _ _ _ _ us hl => match us, hl with | [_, _, _], _ => rfl
theorem ok__law_right {f : Addr} {fd : FuncData} (F : FnP K "_law_right" t__law_right f fd) (T : Txt mg) (hm : mg "_law_right" = some (.ref f)) (F__law_int : FnA P w K mg base 1 "_law_int" 1 s__law_int) (F__law_has : FnA P w K mg base 2 "_law_has" 2 s__law_has) (F__law_count : FnA P w K mg base 2 "_law_count" 1 s__law_count) : FnA P w K mg base 3 "_law_right" 3 s__law_right :=
  fn_a (a := a__law_right) F sc__law_right rfl hm (bd__law_right F) l__law_right (fun cdv A outer s H E hr => (xss_cons (xs_if (PW.pt (xw_or (xt_not (xt_tru (xe_isi rfl T.b_isinstance (xv 2) (xe_ty rfl T.b_tuple (by decide +kernel))))) (xw_or (xt_cmp (xo_ne (hu64 hr)) (xe_len rfl T.b_len (xv 2)) xe_int (nomark _)) (xw_or1 (xt_not (xt_tru (xe_isi rfl T.b_isinstance (xe_ix (hu1 hr) (xv 2) xe_int (fun _ _ => rfl)) (xe_ty rfl T.b_tuple (by decide +kernel))))))))) (xss_one (xs_ret xe_bl)) xss_nil)
    (xss_cons (xs_set (i := 3) sc__law_right.nd rfl (Or.inr rfl) (xe_ix (hu1 hr) (xv 2) xe_int (fun _ _ => rfl)))
    (xss_cons (xs_if (PW.pt (xw_or (xt_not (xt_tru (xe_all rfl rfl T.b_all (xql_new (xl_lc (own := [("x", 6)]) rfl sc__law_right.nd (xi_seq (xv 3)) (blkOk_by (own := [("x", 6)]) (N := n__law_right) (sc := defScope t__law_right) (by decide +kernel)) (gok_name (by decide)) (fun _ _ _ _ _ => pg_name (i := 6) sc__law_right.nd rfl (by first | exact Or.inl rfl | exact Or.inr rfl)) (fun _ _ _ _ _ => xts_nil) (fun _ _ _ _ _ => (xe_and (xe_call F__law_int (hr.mono (by decide)) rfl (xa_cons (xv 6) xa_nil)) (xe_one (xe_cmp xo_ge (xv 6) xe_int (nomark _)))))))))) (xw_or1 (xt_cmp (xo_ne (hu64 hr)) (xe_lenN rfl T.b_len (xq_new (xl_sortedSet rfl rfl T.b_sorted rfl T.b_set (xv 3)))) (xe_len rfl T.b_len (xv 3)) (nomark _))))) (xss_one (xs_ret xe_bl)) xss_nil)
    (xss_cons (xs_if (xt_cmp (xo_eq (hu64 hr)) (xe_ix (hu1 hr) (xv 2) xe_int (fun _ _ => rfl)) xe_str (nomark _)) (xss_one (xs_ret (xe_and (xe_cmp (xo_eq (hu64 hr)) (xe_len rfl T.b_len (xv 3)) (xe_len rfl T.b_len (xv 1)) (nomark _)) (xe_one (xe_all rfl rfl T.b_all (xql_new (xl_lc (own := [("k", 5)]) rfl sc__law_right.nd (xi_range1 rfl T.b_range (xe_len rfl T.b_len (xv 3))) (blkOk_by (own := [("k", 5)]) (N := n__law_right) (sc := defScope t__law_right) (by decide +kernel)) (gok_name (by decide)) (fun _ _ _ _ _ => pg_name (i := 5) sc__law_right.nd rfl (by first | exact Or.inl rfl | exact Or.inr rfl)) (fun _ _ _ _ _ => xts_nil) (fun _ _ _ _ _ => (xe_and (xe_cmp xo_lt (xe_ix (hu1 hr) (xv 3) (xv 5) (fun _ _ => rfl)) (xv 0) (nomark _)) (xe_one (xe_call F__law_has (hr.mono (by decide)) rfl (xa_cons (xe_ix (hu1 hr) (xv 1) (xv 5) (fun _ _ => rfl)) (xa_cons (xe_ix (hu1 hr) (xv 3) (xv 5) (fun _ _ => rfl)) xa_nil))))))))))))) xss_nil)
    (xss_cons (xs_if (PW.pt (xw_or (xt_cmp (xo_ne (hu64 hr)) (xe_ix (hu1 hr) (xv 2) xe_int (fun _ _ => rfl)) xe_str (nomark _)) (xw_or1 (xt_tru (xe_any rfl rfl T.b_any (xql_new (xl_lc (own := [("k", 5)]) rfl sc__law_right.nd (xi_seq (xv 3)) (blkOk_by (own := [("k", 5)]) (N := n__law_right) (sc := defScope t__law_right) (by decide +kernel)) (gok_name (by decide)) (fun _ _ _ _ _ => pg_name (i := 5) sc__law_right.nd rfl (by first | exact Or.inl rfl | exact Or.inr rfl)) (fun _ _ _ _ _ => xts_nil) (fun _ _ _ _ _ => (xe_cmp xo_ge (xv 5) (xe_len rfl T.b_len (xv 1)) (nomark _)))))))))) (xss_one (xs_ret xe_bl)) xss_nil)
    (xss_cons (xs_set (i := 4) sc__law_right.nd rfl (Or.inl rfl) xe_int)
    (xss_cons (xs_for PassesOwn.never rfl (xi_seq (xv 3)) (xg_name (i := 5) sc__law_right.nd rfl (Or.inl rfl)) (xss_one (xs_set (i := 4) sc__law_right.nd rfl (Or.inl rfl) (xe_op xo_or (xv 4) (xe_ix (hu1 hr) (xv 1) (xv 5) (fun _ _ => rfl))))))
    (xss_one (xs_ret (xe_cmp xo_lt (xe_call F__law_count (hr.mono (by decide)) rfl (xa_cons (xv 4) xa_nil)) (xe_len rfl T.b_len (xv 3)) (nomark _))))))))))))
    r__law_right
theorem sc__law_items : FnScope n__law_items ["sets", "used"] (defScope t__law_items) := ⟨rfl, rfl, rfl, by decide +kernel, rfl, by decide +kernel, by decide +kernel⟩
theorem bd__law_items {f : Addr} {fd : FuncData} (F : FnP K "_law_items" t__law_items f fd) : Binds K fd ["sets", "used"] [] := F.bindsN fun _ _ _ _ _ _ us hl => match us, hl with | [_, _], _ => rfl
theorem st__law_items {f : Addr} {fd : FuncData} {k : Nat} (hk : 1 ≤ k) (F : FnP K "_law_items" t__law_items f fd) (T : Txt mg) (hm : mg "_law_items" = some (.ref f)) (F__law_members : FnA P w K mg base 1 "_law_members" 1 s__law_members) (m : Nat) (F__law_items : FnA P w K mg base k "_law_items" 2 (s__law_items m)) : FnA P w K mg base (k + 1) "_law_items" 2 (s__law_items (m + 1)) :=
  fn_a (a := a__law_items (s__law_items m)) F sc__law_items rfl hm (bd__law_items F) (l__law_items (m + 1)) (fun cdv A outer s H E hr => (xss_cons (xs_if (xt_cmp (xo_eq (hu64 hr)) (xe_len rfl T.b_len (xv 0)) xe_int (nomark _)) (xss_one (xs_ret xe_bl)) xss_nil)
    (xss_one (xs_ret (xe_any rfl rfl T.b_any (xql_new (xl_lc (own := [("x", 2)]) rfl sc__law_items.nd (xi_seq (xe_call F__law_members (hr.mono (by omega)) rfl (xa_cons (xe_ix (hu1 hr) (xv 0) xe_int (fun _ _ => rfl)) xa_nil))) (blkOk_by (own := [("x", 2)]) (N := n__law_items) (sc := defScope t__law_items) (by decide +kernel)) (gok_name (by decide)) (fun _ _ _ _ _ => pg_name (i := 2) sc__law_items.nd rfl (by first | exact Or.inl rfl | exact Or.inr rfl)) (fun _ _ _ _ _ => xts_nil) (fun _ _ _ _ _ => (xe_and (xe_cmp (xo_notin (hu65 hr)) (xv 2) (xv 1) (by with_unfolding_all rfl)) (xe_one (xe_call F__law_items (hr.mono (by omega)) rfl (xa_cons (xe_sl (xv 0) (xp_some xe_int) xp_none) (xa_cons (xe_op xo_add (xv 1) (xe_cell (xl_lst (xa_cons (xv 2) xa_nil)))) xa_nil)))))))))))))
    (r__law_items m)
theorem ok__law_items {f : Addr} {fd : FuncData} (F : FnP K "_law_items" t__law_items f fd) (T : Txt mg) (hm : mg "_law_items" = some (.ref f)) (F__law_members : FnA P w K mg base 1 "_law_members" 1 s__law_members) : ∀ m : Nat, FnA P w K mg base (1 + m) "_law_items" 2 (s__law_items m)
  | 0 => fn_false F.kp (ps := ["sets", "used"]) rfl hm (bd__law_items F) (z__law_items)
  | m + 1 => st__law_items (k := 1 + m) (Nat.le_add_right _ _) F T hm F__law_members m (ok__law_items F T hm F__law_members m)
theorem sc_law : FnScope n_law ["script"] (defScope t_law) := ⟨rfl, rfl, rfl, by decide +kernel, rfl, by decide +kernel, by decide +kernel⟩
theorem bd_law {f : Addr} {fd : FuncData} (F : FnP K "law" t_law f fd) : Binds K fd ["script"] [] := F.bindsN fun _ _ _ _ _ _ us hl => match us, hl with | [_], _ => rfl
theorem ok_law {f : Addr} {fd : FuncData} (F : FnP K "law" t_law f fd) (T : Txt mg) (F__law_begin : FnA P w K mg base 1 "_law_begin" 1 s__law_begin) (F__law_take : FnA P w K mg base 1 "_law_take" 2 s__law_take) (F__law_bit : FnA P w K mg base 1 "_law_bit" 1 s__law_bit) (F_hall_paper : FnA P w K mg base 10 "hall_paper" 2 s_hall_paper) (F__law_items : FnA P w K mg base 9 "_law_items" 2 s__law_itemsT) (F__law_right : FnA P w K mg base 3 "_law_right" 3 s__law_right) (F_takes_hall : FnA P w K mg base 2 "takes_hall" 3 s_takes_hall) (F__law_members : FnA P w K mg base 1 "_law_members" 1 s__law_members) (F__law_count : FnA P w K mg base 2 "_law_count" 1 s__law_count) (F__law_spoil : FnA P w K mg base 8 "_law_spoil" 2 s__law_spoilT) : FnOk P w K mg base CX0 11 f fd ["script"] (toSp K 1 s_law) :=
  fn_k (a := a_law) F sc_law rfl (fun cdv A outer s H E hr => (xss_cons (xs_set (i := 1) sc_law.nd rfl (Or.inr rfl) (xe_call F__law_begin (hr.mono (by decide)) rfl (xa_cons (xv 0) xa_nil)))
    (xss_cons (xs_set (i := 2) sc_law.nd rfl (Or.inr rfl) (xe_call F__law_take (hr.mono (by decide)) rfl (xa_cons (xv 1) (xa_cons xe_int xa_nil))))
    (xss_cons (xs_set (i := 3) sc_law.nd rfl (Or.inl rfl) (xe_tupOf rfl T.b_tuple (xq_new (xl_lc (own := [("k", 9)]) rfl sc_law.nd (xi_range1 rfl T.b_range (xe_call F__law_take (hr.mono (by decide)) rfl (xa_cons (xv 1) (xa_cons xe_int xa_nil)))) (blkOk_by (own := [("k", 9)]) (N := n_law) (sc := defScope t_law) (by decide +kernel)) (gok_name (by decide)) (fun _ _ _ _ _ => pg_name (i := 9) sc_law.nd rfl (by first | exact Or.inl rfl | exact Or.inr rfl)) (fun _ _ _ _ _ => xts_nil) (fun _ _ _ _ _ => (xe_op xo_and (xe_op xo_and (xe_call F__law_take (hr.mono (by decide)) rfl (xa_cons (xv 1) (xa_cons (xe_call F__law_bit (hr.mono (by decide)) rfl (xa_cons (xv 2) xa_nil)) xa_nil))) (xe_op xo_or (xe_call F__law_take (hr.mono (by decide)) rfl (xa_cons (xv 1) (xa_cons (xe_call F__law_bit (hr.mono (by decide)) rfl (xa_cons (xv 2) xa_nil)) xa_nil))) xe_int)) (xe_op xo_sub (xe_call F__law_bit (hr.mono (by decide)) rfl (xa_cons (xv 2) xa_nil)) xe_int)))))))
    (xss_cons (xs_set (i := 4) sc_law.nd rfl (Or.inr rfl) (xe_call F_hall_paper (hr.mono (by decide)) rfl (xa_cons (xv 2) (xa_cons (xv 3) xa_nil))))
    (xss_cons (xs_set (i := 5) sc_law.nd rfl (Or.inl rfl) (xe_call F__law_items (hr.mono (by decide)) rfl (xa_cons (xv 3) (xa_cons (xe_cell (xl_lst xa_nil)) xa_nil))))
    (xss_cons (xs_if (PW.pt (xw_or (xt_cmp (xo_ne (hu64 hr)) (xe_ix (hu1 hr) (xv 4) xe_int (fun _ _ => rfl)) (xe_if (xt_tru (xv 5)) xe_str xe_str) (nomark _)) (xw_or (xt_not (xt_tru (xe_call F__law_right (hr.mono (by decide)) rfl (xa_cons (xv 2) (xa_cons (xv 3) (xa_cons (xv 4) xa_nil)))))) (xw_or1 (xt_cmp xo_isnot (xe_call F_takes_hall (hr.mono (by decide)) rfl (xa_cons (xv 2) (xa_cons (xv 3) (xa_cons (xv 4) xa_nil)))) xe_bl (nomark _)))))) (xss_one (xs_ret xe_bl)) xss_nil)
    (xss_cons (xs_set (i := 6) sc_law.nd rfl (Or.inl rfl) xe_bl)
    (xss_cons (xs_for PassesOwn.never rfl (xi_range1 rfl T.b_range (xe_call F__law_bit (hr.mono (by decide)) rfl (xa_cons (xe_len rfl T.b_len (xv 3)) xa_nil))) (xg_name (i := 7) sc_law.nd rfl (Or.inl rfl)) (xss_cons (xs_set (i := 8) sc_law.nd rfl (Or.inl rfl) xe_int)
    (xss_cons (xs_for PassesOwn.never rfl (xi_seq (xe_call F__law_members (hr.mono (by decide)) rfl (xa_cons (xv 7) xa_nil))) (xg_name (i := 9) sc_law.nd rfl (Or.inl rfl)) (xss_one (xs_set (i := 8) sc_law.nd rfl (Or.inl rfl) (xe_op xo_or (xv 8) (xe_ix (hu1 hr) (xv 3) (xv 9) (fun _ _ => rfl))))))
    (xss_one (xs_set (i := 6) sc_law.nd rfl (Or.inl rfl) (xe_or (xv 6) (xe_one (xe_cmp xo_lt (xe_call F__law_count (hr.mono (by decide)) rfl (xa_cons (xv 8) xa_nil)) (xe_call F__law_count (hr.mono (by decide)) rfl (xa_cons (xv 7) xa_nil)) (nomark _)))))))))
    (xss_cons (xs_if (xt_cmp (xo_eq (hu64 hr)) (xv 6) (xv 5) (nomark _)) (xss_one (xs_ret xe_bl)) xss_nil)
    (xss_cons (xs_set (i := 10) sc_law.nd rfl (Or.inl rfl) (xe_tupRg rfl rfl T.b_tuple rfl T.b_range (xe_len rfl T.b_len (xv 3))))
    (xss_cons (xs_for PassesOwn.never rfl (xi_seq (xe_op xo_add (xe_cell (xl_lc (own := [("k", 9)]) rfl sc_law.nd (xi_range1 rfl T.b_range xe_int) (blkOk_by (own := [("k", 9)]) (N := n_law) (sc := defScope t_law) (by decide +kernel)) (gok_name (by decide)) (fun _ _ _ _ _ => pg_name (i := 9) sc_law.nd rfl (by first | exact Or.inl rfl | exact Or.inr rfl)) (fun _ _ _ _ _ => xts_nil) (fun _ _ _ _ _ => (xe_call F__law_spoil (hr.mono (by decide)) rfl (xa_cons (xv 1) (xa_cons (xv 4) xa_nil)))))) (xe_cell (xl_lst (xa_cons (xe_tup (xa_cons xe_str (xa_cons (xv 10) xa_nil))) (xa_cons (xe_tup (xa_cons xe_str (xa_cons (xv 10) xa_nil))) (xa_cons (xe_tup (xa_cons xe_str (xa_cons (xe_tup xa_nil) xa_nil))) (xa_cons (xe_tup (xa_cons xe_str (xa_cons (xe_revT (xv 10)) xa_nil))) (xa_cons (xe_tup (xa_cons xe_str (xa_cons (xe_tup xa_nil) xa_nil))) xa_nil))))))))) (xg_name (i := 11) sc_law.nd rfl (Or.inl rfl)) (xss_one (xs_if (xt_cmp (xo_ne (hu64 hr)) (xe_call F_takes_hall (hr.mono (by decide)) rfl (xa_cons (xv 2) (xa_cons (xv 3) (xa_cons (xv 11) xa_nil)))) (xe_call F__law_right (hr.mono (by decide)) rfl (xa_cons (xv 2) (xa_cons (xv 3) (xa_cons (xv 11) xa_nil)))) (nomark _)) (xss_one (xs_ret xe_bl)) xss_nil)))
    (xss_one (xs_ret xe_bl))))))))))))))
    r_law
end
def e_is_integer : He.DefD := ⟨("is_integer", none), "is_integer", "is_integer", defArgs t_is_integer, defBody t_is_integer, defScope t_is_integer, [], []⟩
def e_has : He.DefD := ⟨("has", none), "has", "has", defArgs t_has, defBody t_has, defScope t_has, [], []⟩
def e_members : He.DefD := ⟨("members", none), "members", "members", defArgs t_members, defBody t_members, defScope t_members, [], []⟩
def e_count : He.DefD := ⟨("count", none), "count", "count", defArgs t_count, defBody t_count, defScope t_count, [], []⟩
def e_hall_paper : He.DefD := ⟨("hall_paper", none), "hall_paper", "hall_paper", defArgs t_hall_paper, defBody t_hall_paper, defScope t_hall_paper, [], []⟩
def e_find_item : He.DefD := ⟨("find_item", none), "find_item", "find_item", defArgs t_find_item, defBody t_find_item, defScope t_find_item, [], []⟩
def e_takes_hall : He.DefD := ⟨("takes_hall", none), "takes_hall", "takes_hall", defArgs t_takes_hall, defBody t_takes_hall, defScope t_takes_hall, [], []⟩
def e__law_int : He.DefD := ⟨("_law_int", none), "_law_int", "_law_int", defArgs t__law_int, defBody t__law_int, defScope t__law_int, [], []⟩
def e__law_bit : He.DefD := ⟨("_law_bit", none), "_law_bit", "_law_bit", defArgs t__law_bit, defBody t__law_bit, defScope t__law_bit, [], []⟩
def e__law_has : He.DefD := ⟨("_law_has", none), "_law_has", "_law_has", defArgs t__law_has, defBody t__law_has, defScope t__law_has, [], []⟩
def e__law_members : He.DefD := ⟨("_law_members", none), "_law_members", "_law_members", defArgs t__law_members, defBody t__law_members, defScope t__law_members, [], []⟩
def e__law_count : He.DefD := ⟨("_law_count", none), "_law_count", "_law_count", defArgs t__law_count, defBody t__law_count, defScope t__law_count, [], []⟩
def e__law_begin : He.DefD := ⟨("_law_begin", none), "_law_begin", "_law_begin", defArgs t__law_begin, defBody t__law_begin, defScope t__law_begin, [], []⟩
def e__law_take : He.DefD := ⟨("_law_take", none), "_law_take", "_law_take", defArgs t__law_take, defBody t__law_take, defScope t__law_take, [], []⟩
def e__law_pick : He.DefD := ⟨("_law_pick", none), "_law_pick", "_law_pick", defArgs t__law_pick, defBody t__law_pick, defScope t__law_pick, [], []⟩
def e__law_spoil : He.DefD := ⟨("_law_spoil", none), "_law_spoil", "_law_spoil", defArgs t__law_spoil, defBody t__law_spoil, defScope t__law_spoil, [], []⟩
def e__law_right : He.DefD := ⟨("_law_right", none), "_law_right", "_law_right", defArgs t__law_right, defBody t__law_right, defScope t__law_right, [], []⟩
def e__law_items : He.DefD := ⟨("_law_items", none), "_law_items", "_law_items", defArgs t__law_items, defBody t__law_items, defScope t__law_items, [], []⟩
def e_law : He.DefD := ⟨("law", none), "law", "law", defArgs t_law, defBody t_law, defScope t_law, [], []⟩
def fn : List He.DefD := [e_is_integer, e_has, e_members, e_count, e_hall_paper, e_find_item, e_takes_hall, e__law_int, e__law_bit, e__law_has, e__law_members, e__law_count, e__law_begin, e__law_take, e__law_pick, e__law_spoil, e__law_right, e__law_items, e_law]
def fa : List He.Fa := [.glo "is_integer", .glo "has", .glo "members", .glo "count", .glo "hall_paper", .glo "find_item", .glo "takes_hall", .glo "_law_int", .glo "_law_bit", .glo "_law_has", .glo "_law_members", .glo "_law_count", .glo "_law_begin", .glo "_law_take", .glo "_law_pick", .glo "_law_spoil", .glo "_law_right", .glo "_law_items", .glo "law", .free "abs", .free "all", .free "any", .free "bool", .free "int", .free "isinstance", .free "len", .free "list", .free "range", .free "set", .free "sorted", .free "tuple", .free "zip"]
def others : List PySem.Str := (["__name__", "is_integer", "has", "members", "count", "hall_paper", "find_item", "takes_hall", "_law_int", "_law_bit", "_law_has", "_law_members", "_law_count", "_law_begin", "_law_take", "_law_pick", "_law_spoil", "_law_right", "_law_items"] : List PySem.Str)
abbrev R : PySem.W.OpenRow := PySem.W.OpenLaw.row PySem.Challenge.rw_meetsandjoins_k26_whole_hall_papers
abbrev hk : PySem.W.Hook := He.hookD 4 fa fn
def ob (s : PySem.W.SharedT) : He.AlD := He.obsDG 4 fa fn (HandSHeadRun.getT s)
theorem ob_eq (s : PySem.W.SharedT) : ob s = hk.obs s.abs := He.obsDG_eq (HandSHeadRun.getT_eq s)
set_option maxHeartbeats 0 in
theorem run (w : World) : HandSHeadRun.RunEq R (PySem.W.view R.prog [21]) hk ob 20000 others w := by
  intro os
  kernel_rfl
theorem facts {P : Program} {w : World} {K : PySem.W.Frag} {h : Heap} {mg : Str → Option Value} {fl : Addr} (X : K.In h) (G : h.Ns mainGlobals mg) (hfa : mg ("law" : Str) = some (.ref fl)) (c : He.SaysD fa fn K) :
    ∃ fd : FuncData, (∀ (s : Shared) (v : Value), BindsTo s fd ⟨[v], []⟩ [("script", v)]) ∧ ∀ base : Heap, K.In base → base.Ns mainGlobals mg → FnOk P w K mg base CX0 11 fl fd ["script"] (toSp K 1 s_law) := by
  obtain ⟨fd_is_integer, D_is_integer⟩ := c.def_ 0 (d := e_is_integer) rfl
  obtain ⟨fd_has, D_has⟩ := c.def_ 1 (d := e_has) rfl
  obtain ⟨fd_members, D_members⟩ := c.def_ 2 (d := e_members) rfl
  obtain ⟨fd_count, D_count⟩ := c.def_ 3 (d := e_count) rfl
  obtain ⟨fd_hall_paper, D_hall_paper⟩ := c.def_ 4 (d := e_hall_paper) rfl
  obtain ⟨fd_find_item, D_find_item⟩ := c.def_ 5 (d := e_find_item) rfl
  obtain ⟨fd_takes_hall, D_takes_hall⟩ := c.def_ 6 (d := e_takes_hall) rfl
  obtain ⟨fd__law_int, D__law_int⟩ := c.def_ 7 (d := e__law_int) rfl
  obtain ⟨fd__law_bit, D__law_bit⟩ := c.def_ 8 (d := e__law_bit) rfl
  obtain ⟨fd__law_has, D__law_has⟩ := c.def_ 9 (d := e__law_has) rfl
  obtain ⟨fd__law_members, D__law_members⟩ := c.def_ 10 (d := e__law_members) rfl
  obtain ⟨fd__law_count, D__law_count⟩ := c.def_ 11 (d := e__law_count) rfl
  obtain ⟨fd__law_begin, D__law_begin⟩ := c.def_ 12 (d := e__law_begin) rfl
  obtain ⟨fd__law_take, D__law_take⟩ := c.def_ 13 (d := e__law_take) rfl
  obtain ⟨fd__law_pick, D__law_pick⟩ := c.def_ 14 (d := e__law_pick) rfl
  obtain ⟨fd__law_spoil, D__law_spoil⟩ := c.def_ 15 (d := e__law_spoil) rfl
  obtain ⟨fd__law_right, D__law_right⟩ := c.def_ 16 (d := e__law_right) rfl
  obtain ⟨fd__law_items, D__law_items⟩ := c.def_ 17 (d := e__law_items) rfl
  obtain ⟨fd_law, D_law⟩ := c.def_ 18 (d := e_law) rfl
  have g_is_integer := He.glo_ok X G (c.fact 0 (f := .glo "is_integer") rfl)
  have g_has := He.glo_ok X G (c.fact 1 (f := .glo "has") rfl)
  have g_members := He.glo_ok X G (c.fact 2 (f := .glo "members") rfl)
  have g_count := He.glo_ok X G (c.fact 3 (f := .glo "count") rfl)
  have g_hall_paper := He.glo_ok X G (c.fact 4 (f := .glo "hall_paper") rfl)
  have g_find_item := He.glo_ok X G (c.fact 5 (f := .glo "find_item") rfl)
  have g_takes_hall := He.glo_ok X G (c.fact 6 (f := .glo "takes_hall") rfl)
  have g__law_int := He.glo_ok X G (c.fact 7 (f := .glo "_law_int") rfl)
  have g__law_bit := He.glo_ok X G (c.fact 8 (f := .glo "_law_bit") rfl)
  have g__law_has := He.glo_ok X G (c.fact 9 (f := .glo "_law_has") rfl)
  have g__law_members := He.glo_ok X G (c.fact 10 (f := .glo "_law_members") rfl)
  have g__law_count := He.glo_ok X G (c.fact 11 (f := .glo "_law_count") rfl)
  have g__law_begin := He.glo_ok X G (c.fact 12 (f := .glo "_law_begin") rfl)
  have g__law_take := He.glo_ok X G (c.fact 13 (f := .glo "_law_take") rfl)
  have g__law_pick := He.glo_ok X G (c.fact 14 (f := .glo "_law_pick") rfl)
  have g__law_spoil := He.glo_ok X G (c.fact 15 (f := .glo "_law_spoil") rfl)
  have g__law_right := He.glo_ok X G (c.fact 16 (f := .glo "_law_right") rfl)
  have g__law_items := He.glo_ok X G (c.fact 17 (f := .glo "_law_items") rfl)
  have g_law := He.glo_ok X G (c.fact 18 (f := .glo "law") rfl)
  have T : Txt mg := ⟨He.free_ok X G (c.fact 19 (f := .free "abs") rfl), He.free_ok X G (c.fact 20 (f := .free "all") rfl), He.free_ok X G (c.fact 21 (f := .free "any") rfl), He.free_ok X G (c.fact 22 (f := .free "bool") rfl), He.free_ok X G (c.fact 23 (f := .free "int") rfl), He.free_ok X G (c.fact 24 (f := .free "isinstance") rfl), He.free_ok X G (c.fact 25 (f := .free "len") rfl), He.free_ok X G (c.fact 26 (f := .free "list") rfl), He.free_ok X G (c.fact 27 (f := .free "range") rfl), He.free_ok X G (c.fact 28 (f := .free "set") rfl), He.free_ok X G (c.fact 29 (f := .free "sorted") rfl), He.free_ok X G (c.fact 30 (f := .free "tuple") rfl), He.free_ok X G (c.fact 31 (f := .free "zip") rfl)⟩
  cases hfa.symm.trans g_law
  refine ⟨fd_law, fun s v => (FunD.bindsA (ps := ["script"]) D_law fun _ _ _ _ _ _ us hl => match us, hl with | [_], _ => rfl) s [v] rfl, fun base _ _ => ?_⟩
  have H__law_begin := ok__law_begin (P := P) (w := w) (base := base) D__law_begin T g__law_begin 
  have H__law_take := ok__law_take (P := P) (w := w) (base := base) D__law_take T g__law_take 
  have H__law_bit := ok__law_bit (P := P) (w := w) (base := base) D__law_bit T g__law_bit 
  have H_members := ok_members (P := P) (w := w) (base := base) D_members T g_members 
  have H0_find_item := ok_find_item (P := P) (w := w) (base := base) D_find_item T g_find_item H_members 8
  have H_find_item : FnA P w K mg base 9 "find_item" 4 s_find_itemT := H0_find_item.imp (i_find_item)
  have H_hall_paper := ok_hall_paper (P := P) (w := w) (base := base) D_hall_paper T g_hall_paper H_find_item
  have H__law_members := ok__law_members (P := P) (w := w) (base := base) D__law_members T g__law_members 
  have H0__law_items := ok__law_items (P := P) (w := w) (base := base) D__law_items T g__law_items H__law_members 8
  have H__law_items : FnA P w K mg base 9 "_law_items" 2 s__law_itemsT := H0__law_items.imp (i__law_items)
  have H__law_int := ok__law_int (P := P) (w := w) (base := base) D__law_int T g__law_int 
  have H__law_has := ok__law_has (P := P) (w := w) (base := base) D__law_has T g__law_has H__law_bit
  have H__law_count := ok__law_count (P := P) (w := w) (base := base) D__law_count T g__law_count H__law_members
  have H__law_right := ok__law_right (P := P) (w := w) (base := base) D__law_right T g__law_right H__law_int H__law_has H__law_count
  have H_is_integer := ok_is_integer (P := P) (w := w) (base := base) D_is_integer T g_is_integer 
  have H_has := ok_has (P := P) (w := w) (base := base) D_has T g_has 
  have H_count := ok_count (P := P) (w := w) (base := base) D_count T g_count 
  have H_takes_hall := ok_takes_hall (P := P) (w := w) (base := base) D_takes_hall T g_takes_hall H_is_integer H_has H_count
  have H__law_pick := ok__law_pick (P := P) (w := w) (base := base) D__law_pick T g__law_pick H__law_take
  have H0__law_spoil := ok__law_spoil (P := P) (w := w) (base := base) D__law_spoil T g__law_spoil H__law_take H__law_pick 6
  have H__law_spoil : FnA P w K mg base 8 "_law_spoil" 2 s__law_spoilT := H0__law_spoil.imp (i__law_spoil)
  have H_law := ok_law (P := P) (w := w) (base := base) D_law T H__law_begin H__law_take H__law_bit H_hall_paper H__law_items H__law_right H_takes_hall H__law_members H__law_count H__law_spoil
  exact H_law
end K26
open PySem PySem.W PySem.Calls PyProof.Rows
theorem PySem.Challenge.cw_meetsandjoins_k26_whole_hall_papers_holds : PySem.Challenge.rw_meetsandjoins_k26_whole_hall_papers.Holds := by
  w_on; o_law
  refine HandSHeadRun.head_any (r := OpenLaw.row PySem.Challenge.rw_meetsandjoins_k26_whole_hall_papers) (q := view (OpenLaw.row PySem.Challenge.rw_meetsandjoins_k26_whole_hall_papers).prog [21]) (H := K26.hk) (ob := K26.ob) (M := 20000) (loose := K26.others) (d := HandSHeadRun.topDef (OpenLaw.row PySem.Challenge.rw_meetsandjoins_k26_whole_hall_papers).prog 21) (kwd := []) K26.ob_eq
    (by kernel_rfl) (fun s => by kernel_rfl) K26.run (by kernel_rfl) (by kernel_rfl) (by kernel_rfl) (by rfl) (by first | assumption | decide +kernel) (by decide +kernel) ⟨rfl, rfl, rfl, rfl, rfl, by decide +kernel⟩ ?hw ?hc
  case hw => w_witness2
  case hc =>
    refine L2.walk_ofE (l := PySem.Challenge.rw_meetsandjoins_k26_whole_hall_papers) (n := 63) (k := 11) (x := "script") (CX := L2.CX0) rfl (by decide) (by kernel_rfl) ⟨rfl, by decide, by decide⟩ ?F (fun _ _ _ _ z => z)
    intro w mg fa h Y G hmg0
    obtain ⟨K, KX, c⟩ := Y
    have hmg : mg ("law" : PySem.Str) = some (.ref fa) := by
      have e : (HandSHeadRun.topDef (OpenLaw.row PySem.Challenge.rw_meetsandjoins_k26_whole_hall_papers).prog 21).name = ("law" : PySem.Str) := by kernel_rfl
      rw [← e]
      exact hmg0
    obtain ⟨fd, hb, hF⟩ := K26.facts (P := (PySem.Challenge.rw_meetsandjoins_k26_whole_hall_papers).prog) (w := w) KX G hmg c
    exact ⟨K, fd, XL.toSp K 1 K26.s_law, KX, hb, fun H a ns hl hO hS => XL.sp_law hO hS fun Q q => K26.law_in hl q, hF⟩
end
