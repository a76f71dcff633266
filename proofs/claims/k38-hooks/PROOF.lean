import PyProof.Rows.All
import Wide.All
import OpenK.AllK
import Wide.FinOn
import HandS.ForMost
import HandS.Exc
import HandS.WordsExc
import HandS.TupAny
import HandS.Style
import HandS.Wide
import HandS.WideMore
import HandS.TupMul
import HandS.IsInst
import KE.GoesEnum
import KE.GoesZip
import KE.GoesMore
import KE.SortData
import HandS.SortKw
import HandS.SetFor
import HandS.Deep
import PySem.Challenge.RW_partrests_k38_hooks
set_option Elab.async false
set_option linter.all false
set_option maxRecDepth 100000
/-! Vi: values with tuples and lists as trees, a small memory of what is changed, plain functions in the place of readings. -/
namespace Vi
open PySem PySem.Spec PyProof.Rows L2

/-! ### values -/
inductive D where
  | non | bl (b : Bool) | int (i : Int) | str (x : Str) | tup (xs : List D) | lst (xs : List D) | frz (xs : List D) | ref (n : Nat)
inductive Cell where
  | lst (xs : List D) | dic (kvs : List (Key × D)) | dct (kvs : List (List Key × D)) | ins (C : Str) (fs : List (Str × D)) | gone
abbrev M := List Cell
inductive R (α : Type) where
  | ok (a : α) (m : M) | exn (c : Str) (m : M) | bad
def R.bind {α β : Type} (r : R α) (f : α → M → R β) : R β := match r with
  | .ok a m => f a m
  | .exn c m => .exn c m
  | .bad => .bad
@[simp] theorem bind_ok {α β : Type} (a : α) (m : M) (f : α → M → R β) : (R.ok a m).bind f = f a m := rfl
@[simp] theorem bind_exn {α β : Type} (c : Str) (m : M) (f : α → M → R β) : (R.exn c m : R α).bind f = .exn c m := rfl
@[simp] theorem bind_bad {α β : Type} (f : α → M → R β) : (R.bad : R α).bind f = .bad := rfl

/-! ### how values stand in the abstract heap -/
structure Wd where
  I : Hp
  φ : List Addr
/-- the tuple at a bears no names of its own -/
def TN (K : PySem.W.Frag) (I : Hp) (a : Addr) : Prop := (∃ o u, I a = some (.frz o u) ∧ o.dict = none) ∨ ∃ o, K.lookup a = some o ∧ o.dict = none
mutual
inductive RD (K : PySem.W.Frag) (W : Wd) : V → D → Prop
  | non : RD K W .non .non
  | bl (b : Bool) : RD K W (.bl b) (.bl b)
  | int (i : Int) : RD K W (.int i) (.int i)
  | str (x : Str) : RD K W (.str x) (.str x)
  | tup {a : Addr} {xs : List V} {ds : List D} : SqT K W.I a xs → TN K W.I a → RDs K W xs ds → RD K W (.ref a) (.tup ds)
  | lst {a : Addr} {xs : List V} {ds : List D} : W.I a = some (.lst xs) → RDs K W xs ds → RD K W (.ref a) (.lst ds)
  | frz {a : Addr} {xs : List V} {ds : List D} : SqL K W.I a xs → RDs K W xs ds → RD K W (.ref a) (.frz ds)
  | ref {n : Nat} {a : Addr} : W.φ[n]? = some a → RD K W (.ref a) (.ref n)
inductive RDs (K : PySem.W.Frag) (W : Wd) : List V → List D → Prop
  | nil : RDs K W [] []
  | cons {v : V} {vs : List V} {d : D} {ds : List D} : RD K W v d → RDs K W vs ds → RDs K W (v :: vs) (d :: ds)
end
section
variable {K : PySem.W.Frag} {W W' : Wd}
theorem RDs.length : ∀ {vs : List V} {ds : List D}, RDs K W vs ds → vs.length = ds.length
  | _, _, .nil => rfl
  | _, _, .cons _ t => by simp [RDs.length t]
theorem RDs.get : ∀ {vs : List V} {ds : List D} {i : Nat} {d : D}, RDs K W vs ds → ds[i]? = some d → ∃ v, vs[i]? = some v ∧ RD K W v d
  | _, _, _, _, .nil, e => by simp at e
  | _, _, 0, _, .cons r _, e => by simp at e; subst e; exact ⟨_, rfl, r⟩
  | _, _, i + 1, d, .cons _ t, e => by
    obtain ⟨v, h1, h2⟩ := RDs.get (i := i) (d := d) t (by simpa using e)
    exact ⟨v, by simpa using h1, h2⟩
theorem RDs.get' : ∀ {vs : List V} {ds : List D} {i : Nat} {v : V}, RDs K W vs ds → vs[i]? = some v → ∃ d, ds[i]? = some d ∧ RD K W v d
  | _, _, _, _, .nil, e => by simp at e
  | _, _, 0, _, .cons r _, e => by simp at e; subst e; exact ⟨_, rfl, r⟩
  | _, _, i + 1, d, .cons _ t, e => by
    obtain ⟨v, h1, h2⟩ := RDs.get' (i := i) (v := d) t (by simpa using e)
    exact ⟨v, by simpa using h1, h2⟩
theorem RDs.append : ∀ {vs ws : List V} {ds es : List D}, RDs K W vs ds → RDs K W ws es → RDs K W (vs ++ ws) (ds ++ es)
  | _, _, _, _, .nil, s => s
  | _, _, _, _, .cons r t, s => .cons r (RDs.append t s)
theorem RDs.take : ∀ {vs : List V} {ds : List D} (n : Nat), RDs K W vs ds → RDs K W (vs.take n) (ds.take n)
  | _, _, 0, _ => by simp; exact .nil
  | _, _, _ + 1, .nil => by simp; exact .nil
  | _, _, n + 1, .cons r t => .cons r (RDs.take n t)
theorem RDs.drop : ∀ {vs : List V} {ds : List D} (n : Nat), RDs K W vs ds → RDs K W (vs.drop n) (ds.drop n)
  | _, _, 0, r => r
  | _, _, _ + 1, .nil => by simp; exact .nil
  | _, _, n + 1, .cons r t => RDs.drop n t
theorem RDs.set {v : V} {d : D} (r : RD K W v d) : ∀ {vs : List V} {ds : List D} (i : Nat), RDs K W vs ds → RDs K W (vs.set i v) (ds.set i d)
  | _, _, _, .nil => .nil
  | _, _, 0, .cons _ t => .cons r t
  | _, _, i + 1, .cons q t => .cons q (RDs.set r i t)
theorem RDs.reverse : ∀ {vs : List V} {ds : List D}, RDs K W vs ds → RDs K W vs.reverse ds.reverse
  | _, _, .nil => .nil
  | _, _, .cons r t => by
    rw [List.reverse_cons, List.reverse_cons]
    exact (RDs.reverse t).append (.cons r .nil)
theorem RDs.rep {vs : List V} {ds : List D} (h : RDs K W vs ds) : ∀ k : Nat, RDs K W (List.replicate k vs).flatten (List.replicate k ds).flatten
  | 0 => .nil
  | k + 1 => by
    rw [List.replicate_succ, List.replicate_succ, List.flatten_cons, List.flatten_cons]
    exact h.append (RDs.rep h k)
theorem RDs.of_get : ∀ {vs : List V} {ds : List D}, vs.length = ds.length → (∀ (i : Nat) (v : V) (d : D), vs[i]? = some v → ds[i]? = some d → RD K W v d) → RDs K W vs ds
  | [], [], _, _ => .nil
  | [], _ :: _, h, _ => by simp at h
  | _ :: _, [], h, _ => by simp at h
  | v :: vs, d :: ds, h, f => .cons (f 0 v d rfl rfl) (RDs.of_get (by simpa using h) fun i v' d' h1 h2 => f (i + 1) v' d' (by simpa using h1) (by simpa using h2))

/-- the world grows -/
structure Le (W W' : Wd) : Prop where
  I : Same W.I W'.I
  φ : ∃ ψ, W'.φ = W.φ ++ ψ
theorem Le.refl : Le W W := ⟨Same.refl _, [], by simp⟩
theorem Le.get (l : Le W W') {n : Nat} {a : Addr} (h : W.φ[n]? = some a) : W'.φ[n]? = some a := by
  obtain ⟨ψ, e⟩ := l.φ
  rw [e]
  have : n < W.φ.length := by
    rcases Nat.lt_or_ge n W.φ.length with q | q
    · exact q
    · rw [List.getElem?_eq_none q] at h; cases h
  rw [List.getElem?_append_left this]
  exact h
theorem same_T {I I' : Hp} (e : Same I I') {a : Addr} {xs : List V} (h : SqT K I a xs) : SqT K I' a xs := by
  rcases h with (h | ⟨o, h⟩) | h
  · exact .inl (.inl (e _ _ h))
  · exact .inl (.inr ⟨o, e _ _ h⟩)
  · exact .inr h
theorem same_N {I I' : Hp} (e : Same I I') {a : Addr} (h : TN K I a) : TN K I' a := by
  rcases h with ⟨o, u, h, n⟩ | h
  · exact .inl ⟨o, u, e _ _ h, n⟩
  · exact .inr h
mutual
theorem RD.mono (l : Le W W') : ∀ {v : V} {d : D}, RD K W v d → RD K W' v d
  | _, _, .non => .non
  | _, _, .bl b => .bl b
  | _, _, .int i => .int i
  | _, _, .str x => .str x
  | _, _, .tup h n r => .tup (same_T l.I h) (same_N l.I n) (RDs.mono l r)
  | _, _, .lst h r => .lst (l.I _ _ h) (RDs.mono l r)
  | _, _, .frz h r => .frz (l.I.seq h) (RDs.mono l r)
  | _, _, .ref h => .ref (l.get h)
theorem RDs.mono (l : Le W W') : ∀ {vs : List V} {ds : List D}, RDs K W vs ds → RDs K W' vs ds
  | _, _, .nil => .nil
  | _, _, .cons r t => .cons (RD.mono l r) (RDs.mono l t)
end
/-- a pair list's values -/
abbrev RKV {κ : Type} (K : PySem.W.Frag) (W : Wd) : List (κ × V) → List (κ × D) → Prop := Paired fun (p : κ × V) (q : κ × D) => p.1 = q.1 ∧ RD K W p.2 q.2
theorem RKV.mono {κ : Type} (l : Le W W') {a : List (κ × V)} {b : List (κ × D)} (h : RKV K W a b) : RKV K W' a b := Paired.mapP h fun p q z => ⟨z.1, z.2.mono l⟩
/-- a cell -/
def RC (K : PySem.W.Frag) (mg : Str → Option Value) (W : Wd) (o : HO) : Cell → Prop
  | .lst ds => ∃ xs, o = .lst xs ∧ RDs K W xs ds
  | .dic kvs => ∃ xs, o = .dK xs ∧ RKV K W xs kvs
  | .dct kvs => ∃ xs, o = .dT xs ∧ RKV K W xs kvs
  | .ins c fs => ∃ C dx xs, o = .ins C dx xs ∧ mg c = some (.ref C) ∧ RKV K W xs fs
  | .gone => True
theorem RC.mono {mg : Str → Option Value} (l : Le W W') {o : HO} : ∀ {c : Cell}, RC K mg W o c → RC K mg W' o c
  | .lst _, ⟨xs, e, r⟩ => ⟨xs, e, r.mono l⟩
  | .dic _, ⟨xs, e, r⟩ => ⟨xs, e, RKV.mono l r⟩
  | .dct _, ⟨xs, e, r⟩ => ⟨xs, e, RKV.mono l r⟩
  | .ins _ _, ⟨C, dx, xs, e, g, r⟩ => ⟨C, dx, xs, e, g, RKV.mono l r⟩
  | .gone, _ => trivial
end

/-- the memory stands -/
structure RM (K : PySem.W.Frag) (mg : Str → Option Value) (W : Wd) (H : Hp) (m : M) : Prop where
  sub : Same W.I H
  len : W.φ.length = m.length
  nd : W.φ.Nodup
  al : ∀ a ∈ W.φ, H a ≠ none
  obj : ∀ (i : Nat) (a : Addr) (c : Cell), W.φ[i]? = some a → m[i]? = some c → c ≠ .gone → ∃ o, H a = some o ∧ RC K mg W o c
  off : ∀ (i : Nat) (a : Addr) (c : Cell), W.φ[i]? = some a → m[i]? = some c → c ≠ .gone → W.I a = none
/-- .. has gone on -/
structure Ex (W : Wd) (H : Hp) (W' : Wd) (H' : Hp) : Prop where
  I : Same W.I W'.I
  φ : ∃ ψ, W'.φ = W.φ ++ ψ ∧ ∀ a ∈ ψ, H a = none
  fr : ∀ a o, H a = some o → a ∉ W.φ → H' a = some o
  al : ∀ a, H a ≠ none → H' a ≠ none
  nw : ∀ a o, W'.I a = some o → W.I a = some o ∨ H a = none ∨ a ∈ W.φ
section
variable {K : PySem.W.Frag} {mg : Str → Option Value} {W W' W1 W2 : Wd} {H H' H1 H2 : Hp} {m : M}
theorem Ex.refl : Ex W H W H := ⟨Same.refl _, ⟨[], by simp, by simp⟩, fun _ _ h _ => h, fun _ h => h, fun _ _ h => .inl h⟩
theorem Ex.le (e : Ex W H W' H') : Le W W' := ⟨e.I, let ⟨ψ, h, _⟩ := e.φ; ⟨ψ, h⟩⟩
theorem Ex.trans (a : Ex W H W1 H1) (b : Ex W1 H1 W2 H2) : Ex W H W2 H2 := by
  obtain ⟨p1, e1, n1⟩ := a.φ
  obtain ⟨p2, e2, n2⟩ := b.φ
  refine ⟨a.I.trans b.I, ⟨p1 ++ p2, by rw [e2, e1, List.append_assoc], fun x hx => ?_⟩, fun x o hx hn => ?_, fun x hx => b.al x (a.al x hx), fun x o hx => ?_⟩
  · rcases List.mem_append.mp hx with q | q
    · exact n1 x q
    · cases hh : H x with
      | none => rfl
      | some o => exact absurd (n2 x q) (a.al x (by rw [hh]; simp))
  · refine b.fr x o (a.fr x o hx hn) ?_
    rw [e1]
    intro q
    rcases List.mem_append.mp q with q | q
    · exact hn q
    · rw [n1 x q] at hx; cases hx
  · have old : ∀ y, H1 y = none → H y = none := fun y hy => by
      cases hh : H y with
      | none => rfl
      | some o => exact absurd hy (a.al y (by rw [hh]; simp))
    rcases b.nw x o hx with q | q | q
    · exact a.nw x o q
    · exact .inr (.inl (old x q))
    · rw [e1] at q
      rcases List.mem_append.mp q with q | q
      · exact .inr (.inr q)
      · exact .inr (.inl (n1 x q))
theorem RM.nin (r : RM K mg W H m) {p : Addr} (h : H p = none) : p ∉ W.φ := fun q => r.al p q h
theorem RM.nI (r : RM K mg W H m) {p : Addr} (h : H p = none) : W.I p = none := by
  cases q : W.I p with
  | none => rfl
  | some o => rw [r.sub p o q] at h; cases h
theorem upd_ne' {H : Hp} {p : Addr} {o : HO} (h : H p = none) {b : Addr} {u : HO} (e : H b = some u) : upd H p o b = some u := by
  rw [upd_ne (ne_of_none e h)]; exact e
/-- a new thing that never changes -/
theorem new_imm (r : RM K mg W H m) {p : Addr} {o : HO} (hp : H p = none) :
    Ex W H ⟨upd W.I p o, W.φ⟩ (upd H p o) ∧ RM K mg ⟨upd W.I p o, W.φ⟩ (upd H p o) m := by
  have hI := r.nI hp
  have hφ := r.nin hp
  have le : Le W ⟨upd W.I p o, W.φ⟩ := ⟨fun b u e => upd_ne' hI e, [], by simp⟩
  refine ⟨⟨fun b u e => upd_ne' hI e, ⟨[], by simp, by simp⟩, fun b u e _ => upd_ne' hp e, fun b e => ?_, fun b u e => ?_⟩, ⟨fun b u e => ?_, r.len, r.nd, fun b hb => ?_, fun i a c h1 h2 h3 => ?_, fun i a c h1 h2 h3 => ?_⟩⟩
  · unfold upd; split
    · simp
    · exact e
  · by_cases hb : b = p
    · subst hb; exact .inr (.inl hp)
    · have e' : upd W.I p o b = some u := e
      rw [upd_ne hb] at e'; exact .inl e'
  · by_cases hb : b = p
    · subst hb
      have e' : upd W.I b o b = some u := e
      rw [upd_same] at e' ⊢; exact e'
    · have e' : upd W.I p o b = some u := e
      rw [upd_ne hb] at e' ⊢; exact r.sub b u e'
  · unfold upd; split
    · simp
    · exact r.al b hb
  · obtain ⟨u, e, q⟩ := r.obj i a c h1 h2 h3
    exact ⟨u, upd_ne' hp e, q.mono le⟩
  · have : a ≠ p := fun z => hφ (z ▸ List.mem_of_getElem? h1)
    show upd W.I p o a = none
    rw [upd_ne this]; exact r.off i a c h1 h2 h3
theorem new_tup (r : RM K mg W H m) {p : Addr} {o : Obj} {xs : List V} {ds : List D} (hp : H p = none) (ho : o.dict = none) (h : RDs K W xs ds) :
    Ex W H ⟨upd W.I p (.frz o (.tup xs)), W.φ⟩ (upd H p (.frz o (.tup xs))) ∧ RM K mg ⟨upd W.I p (.frz o (.tup xs)), W.φ⟩ (upd H p (.frz o (.tup xs))) m ∧ RD K ⟨upd W.I p (.frz o (.tup xs)), W.φ⟩ (.ref p) (.tup ds) := by
  obtain ⟨a, b⟩ := new_imm (o := .frz o (.tup xs)) r hp
  exact ⟨a, b, .tup (.inl (.inr ⟨o, upd_same⟩)) (.inl ⟨o, _, upd_same, ho⟩) (h.mono a.le)⟩
theorem new_lst (r : RM K mg W H m) {p : Addr} {xs : List V} {ds : List D} (hp : H p = none) (h : RDs K W xs ds) :
    Ex W H ⟨upd W.I p (.lst xs), W.φ⟩ (upd H p (.lst xs)) ∧ RM K mg ⟨upd W.I p (.lst xs), W.φ⟩ (upd H p (.lst xs)) m ∧ RD K ⟨upd W.I p (.lst xs), W.φ⟩ (.ref p) (.lst ds) := by
  obtain ⟨a, b⟩ := new_imm (o := .lst xs) r hp
  exact ⟨a, b, .lst upd_same (h.mono a.le)⟩
theorem RM.get (r : RM K mg W H m) {n : Nat} {a : Addr} {c : Cell} (h : W.φ[n]? = some a) (hc : m[n]? = some c) (hg : c ≠ .gone) : ∃ o, H a = some o ∧ RC K mg W o c ∧ W.I a = none :=
  let ⟨o, e, q⟩ := r.obj n a c h hc hg
  ⟨o, e, q, r.off n a c h hc hg⟩
theorem φ_inj (nd : W.φ.Nodup) {i j : Nat} {a : Addr} (h1 : W.φ[i]? = some a) (h2 : W.φ[j]? = some a) : i = j := nodup_ix' nd h1 h2
  where nodup_ix' {l : List Addr} (nd : l.Nodup) {i j : Nat} {a : Addr} (h1 : l[i]? = some a) (h2 : l[j]? = some a) : i = j := nd_ix nd h1 h2
/-- a cell is written -/
theorem set_cell (r : RM K mg W H m) {n : Nat} {a : Addr} {c c' : Cell} {o : HO} (h : W.φ[n]? = some a) (hc : m[n]? = some c) (hg : c ≠ .gone) (q : RC K mg W o c') :
    Ex W H W (upd H a o) ∧ RM K mg W (upd H a o) (m.set n c') := by
  obtain ⟨u, e, _, off⟩ := r.get h hc hg
  have mem : a ∈ W.φ := List.mem_of_getElem? h
  refine ⟨⟨Same.refl _, ⟨[], by simp, by simp⟩, fun b u' e' hb => ?_, fun b e' => ?_, fun _ _ z => .inl z⟩, ⟨fun b u' e' => ?_, by rw [r.len, List.length_set], r.nd, fun b hb => ?_, fun i b d h1 h2 h3 => ?_, fun i b d h1 h2 h3 => ?_⟩⟩
  · rw [upd_ne (show b ≠ a from fun z => hb (z ▸ mem))]; exact e'
  · unfold upd; split
    · simp
    · exact e'
  · have : b ≠ a := fun z => by subst z; rw [off] at e'; cases e'
    rw [upd_ne this]; exact r.sub b u' e'
  · unfold upd; split
    · simp
    · exact r.al b hb
  · by_cases hi : i = n
    · subst hi
      have : b = a := by rw [h] at h1; exact (Option.some.inj h1).symm
      subst this
      rw [List.getElem?_set] at h2
      have hl : i < m.length := by rw [← r.len]; exact (List.getElem?_eq_some_iff.mp h).1
      simp [hl] at h2
      subst h2
      exact ⟨o, upd_same, q⟩
    · rw [List.getElem?_set_ne (by omega)] at h2
      have : b ≠ a := fun z => hi (φ_inj r.nd (z ▸ h1) h)
      obtain ⟨u', e', q'⟩ := r.obj i b d h1 h2 h3
      exact ⟨u', by rw [upd_ne this]; exact e', q'⟩
  · by_cases hi : i = n
    · subst hi
      have : b = a := by rw [h] at h1; exact (Option.some.inj h1).symm
      subst this; exact off
    · rw [List.getElem?_set_ne (by omega)] at h2
      exact r.off i b d h1 h2 h3
/-- what was made and nobody knows is told as a cell -/
theorem adopt (r : RM K mg W H m) {p : Addr} {o : HO} {c : Cell} (hp : H p = some o) (hI : W.I p = none) (hφ : p ∉ W.φ) (q : RC K mg W o c) : Le W ⟨W.I, W.φ ++ [p]⟩ ∧ RM K mg ⟨W.I, W.φ ++ [p]⟩ H (m ++ [c]) := by
  have le : Le W ⟨W.I, W.φ ++ [p]⟩ := ⟨Same.refl _, [p], rfl⟩
  refine ⟨le, ⟨r.sub, by simp [r.len], ?_, fun b hb => ?_, fun i b d h1 h2 h3 => ?_, fun i b d h1 h2 h3 => ?_⟩⟩
  · rw [List.nodup_append]
    exact ⟨r.nd, by simp, fun x hx y hy => by simp at hy; subst hy; exact fun z => hφ (z ▸ hx)⟩
  · rcases List.mem_append.mp hb with z | z
    · exact r.al b z
    · simp at z; subst z; rw [hp]; simp
  · rcases Nat.lt_or_ge i W.φ.length with z | z
    · rw [List.getElem?_append_left z] at h1
      rw [List.getElem?_append_left (by rw [← r.len]; exact z)] at h2
      obtain ⟨u, e, w⟩ := r.obj i b d h1 h2 h3
      exact ⟨u, e, w.mono le⟩
    · rw [List.getElem?_append_right z] at h1
      rw [List.getElem?_append_right (by rw [← r.len]; exact z)] at h2
      have z' : i - W.φ.length = 0 := by
        rcases Nat.lt_or_ge (i - W.φ.length) 1 with y | y
        · omega
        · rw [List.getElem?_eq_none (by simpa using y)] at h1; cases h1
      rw [← r.len, z'] at h2
      rw [z'] at h1
      simp at h1 h2
      subst h1; subst h2
      exact ⟨o, hp, q.mono le⟩
  · rcases Nat.lt_or_ge i W.φ.length with z | z
    · rw [List.getElem?_append_left z] at h1
      rw [List.getElem?_append_left (by rw [← r.len]; exact z)] at h2
      exact r.off i b d h1 h2 h3
    · rw [List.getElem?_append_right z] at h1
      have z' : i - W.φ.length = 0 := by
        rcases Nat.lt_or_ge (i - W.φ.length) 1 with y | y
        · omega
        · rw [List.getElem?_eq_none (by simpa using y)] at h1; cases h1
      rw [z'] at h1; simp at h1; subst h1; exact hI
end

/-! ### what is wanted of an answer -/
def post {α : Type} (K : PySem.W.Frag) (mg : Str → Option Value) (W : Wd) (H : Hp) (r : R α) (Q : α → Wd → Hp → M → Prop) (EX : Str → Hp → Prop) : Prop :=
  match r with
  | .ok x m => ∀ W' H', Ex W H W' H' → RM K mg W' H' m → Q x W' H' m
  | .exn c m => ∀ W' H', Ex W H W' H' → RM K mg W' H' m → EX c H'
  | .bad => False
section
variable {K : PySem.W.Frag} {mg : Str → Option Value} {W W' : Wd} {H H' : Hp} {m : M} {α β : Type} {EX : Str → Hp → Prop}
theorem post_bind {r : R α} {f : α → M → R β} {Q : β → Wd → Hp → M → Prop} (h : post K mg W H (r.bind f) Q EX) : post K mg W H r (fun x W1 H1 m1 => post K mg W1 H1 (f x m1) Q EX) EX := by
  cases r with
  | ok x m =>
    intro W1 H1 e rm
    have h' : post K mg W H (f x m) Q EX := h
    cases q : f x m with
    | ok y m2 =>
      rw [q] at h'
      exact fun W2 H2 e2 rm2 => h' W2 H2 (e.trans e2) rm2
    | exn c m2 =>
      rw [q] at h'
      exact fun W2 H2 e2 rm2 => h' W2 H2 (e.trans e2) rm2
    | bad => rw [q] at h'; exact h'
  | exn c m => exact h
  | bad => exact h
theorem post_mono {r : R α} {Q Q' : α → Wd → Hp → M → Prop} (h : post K mg W H r Q EX) (hq : ∀ x W' H' m', Ex W H W' H' → RM K mg W' H' m' → Q x W' H' m' → Q' x W' H' m') : post K mg W H r Q' EX := by
  cases r with
  | ok x m => exact fun W1 H1 e rm => hq x W1 H1 m e rm (h W1 H1 e rm)
  | exn c m => exact h
  | bad => exact h
theorem post_shift {r : R α} {Q : α → Wd → Hp → M → Prop} (h : post K mg W H r Q EX) (e : Ex W H W' H') : post K mg W' H' r Q EX := by
  cases r with
  | ok x m => exact fun W2 H2 e2 => h W2 H2 (e.trans e2)
  | exn c m => exact fun W2 H2 e2 => h W2 H2 (e.trans e2)
  | bad => exact h
theorem post_ok {x : α} {Q : α → Wd → Hp → M → Prop} (h : post K mg W H (.ok x m) Q EX) (rm : RM K mg W H m) : Q x W H m := h W H Ex.refl rm
end

/-! ### the slots -/
abbrev En := List (Option D)
structure RS (K : PySem.W.Frag) (W : Wd) (σ : L2.St) (ρ : En) : Prop where
  len : σ.length = ρ.length
  get : ∀ (i : Nat) (x : D), ρ[i]? = some (some x) → ∃ v, σ[i]? = some (some v) ∧ RD K W v x
section
variable {K : PySem.W.Frag} {W W' : Wd} {σ : L2.St} {ρ : En}
theorem RS.mono (l : Le W W') (r : RS K W σ ρ) : RS K W' σ ρ := ⟨r.len, fun i x e => let ⟨v, a, b⟩ := r.get i x e; ⟨v, a, b.mono l⟩⟩
theorem RS.set (r : RS K W σ ρ) (i : Nat) {v : V} {x : D} (h : RD K W v x) : RS K W (σ.set i (some v)) (ρ.set i (some x)) := by
  refine ⟨by simp [r.len], fun j y e => ?_⟩
  by_cases hj : i = j
  · subst hj
    rw [List.getElem?_set] at e ⊢
    rw [r.len]
    by_cases hl : i < ρ.length
    · simp [hl] at e ⊢
      subst e
      exact h
    · simp [hl] at e
  · rw [List.getElem?_set_ne hj] at e ⊢
    exact r.get j y e
theorem RS.unset (r : RS K W σ ρ) (i : Nat) : RS K W (σ.set i none) (ρ.set i none) := by
  refine ⟨by simp [r.len], fun j y e => ?_⟩
  by_cases hj : i = j
  · subst hj
    rw [List.getElem?_set] at e
    by_cases hl : i < ρ.length
    · simp [hl] at e
    · simp [hl] at e
  · rw [List.getElem?_set_ne hj] at e ⊢
    exact r.get j y e
end
def wipeE (ρ : En) : List Nat → En
  | [] => ρ
  | v :: vs => (wipeE ρ vs).set v none
theorem RS.wipe {K : PySem.W.Frag} {W : Wd} {σ : L2.St} {ρ : En} (r : RS K W σ ρ) : ∀ vs : List Nat, RS K W (wipe σ vs) (wipeE ρ vs)
  | [] => r
  | v :: vs => (RS.wipe r vs).unset v

/-! ### readings -/
abbrev SE := En → M → R D
abbrev SB := En → M → R Bool
abbrev SA := En → M → R (List D)
def tE (K : PySem.W.Frag) (mg : Str → Option Value) (EX : Str → Hp → Prop) (d : SE) : TE := fun σ H Q => ∃ W ρ m, RS K W σ ρ ∧ RM K mg W H m ∧ post K mg W H (d ρ m) (fun x W' H' _ => ∀ v, RD K W' v x → Q v H') EX
def tT (K : PySem.W.Frag) (mg : Str → Option Value) (EX : Str → Hp → Prop) (d : SB) : TT := fun σ H Q => ∃ W ρ m, RS K W σ ρ ∧ RM K mg W H m ∧ post K mg W H (d ρ m) (fun b _ H' _ => Q b H') EX
def tAs (K : PySem.W.Frag) (mg : Str → Option Value) (EX : Str → Hp → Prop) (d : SA) : TA := fun σ H Q => ∃ W ρ m, RS K W σ ρ ∧ RM K mg W H m ∧ post K mg W H (d ρ m) (fun xs W' H' _ => ∀ vs, RDs K W' vs xs → Q vs H') EX
/-- a new list -/
def tL (K : PySem.W.Frag) (mg : Str → Option Value) (EX : Str → Hp → Prop) (d : SA) : TE := fun σ H Q => ∃ W ρ m, RS K W σ ρ ∧ RM K mg W H m ∧
  post K mg W H (d ρ m) (fun xs W' H' _ => ∀ p vs, H p = none → p ∉ W'.φ → W'.I p = none → H' p = some (.lst vs) → RDs K W' vs xs → Q (.ref p) H') EX
theorem PE.imp {X : Cx} {e : Expr} {t t' : TE} (h : PE X e t) (hi : ∀ σ H Q, t' σ H Q → t σ H Q) : PE X e t' := ⟨fun pins s σ H Q I q => h.run pins s σ H Q I (hi σ H Q q)⟩
theorem PT.imp {X : Cx} {e : Expr} {t t' : TT} (h : PT X e t) (hi : ∀ σ H Q, t' σ H Q → t σ H Q) : PT X e t' := ⟨fun pins s σ H Q I q => h.run pins s σ H Q I (hi σ H Q q)⟩
theorem PW.imp {X : Cx} {e : Expr} {t t' : TT} (h : PW X e t) (hi : ∀ σ H Q, t' σ H Q → t σ H Q) : PW X e t' := ⟨fun w pins s σ H Q I q => h.run w pins s σ H Q I (hi σ H Q q)⟩
theorem PA.imp {X : Cx} {e : List Expr} {t t' : TA} (h : PA X e t) (hi : ∀ σ H Q, t' σ H Q → t σ H Q) : PA X e t' := ⟨fun p pins s σ H Q I q => h.run p pins s σ H Q I (hi σ H Q q)⟩
theorem PS.imp {X : Cx} {e : Stmt} {t t' : TS} (h : PS X e t) (hi : ∀ D σ H, t' D σ H → t D σ H) : PS X e t' := ⟨fun pins s σ H D I q => h.run pins s σ H D I (hi D σ H q)⟩
theorem PSs.imp {X : Cx} {e : List Stmt} {t t' : TS} (h : PSs X e t) (hi : ∀ D σ H, t' D σ H → t D σ H) : PSs X e t' := ⟨fun pins s σ H D I q => h.run pins s σ H D I (hi D σ H q)⟩
abbrev DE (X : Cx) (EX : Str → Hp → Prop) (e : Expr) (d : SE) : Prop := PE X e (tE X.K X.mg EX d)
abbrev DT (X : Cx) (EX : Str → Hp → Prop) (e : Expr) (d : SB) : Prop := PT X e (tT X.K X.mg EX d)
abbrev DW (X : Cx) (EX : Str → Hp → Prop) (e : Expr) (d : SB) : Prop := PW X e (tT X.K X.mg EX d)
abbrev DA (X : Cx) (EX : Str → Hp → Prop) (es : List Expr) (d : SA) : Prop := PA X es (tAs X.K X.mg EX d)
abbrev DL (X : Cx) (EX : Str → Hp → Prop) (e : Expr) (d : SA) : Prop := PE X e (tL X.K X.mg EX d)
end Vi

set_option Elab.async false
set_option linter.all false
set_option maxRecDepth 100000
set_option maxHeartbeats 4000000
namespace Vi
open PySem PySem.Spec PyProof.Rows L2

/-! ### names, constants, two expressions -/
def sVar (i : Nat) : SE := fun ρ m => match ρ[i]? with
  | some (some x) => .ok x m
  | _ => .bad
def sC (x : D) : SE := fun _ m => .ok x m
abbrev G2 := D → D → M → R D
def sBin (g : G2) (da db : SE) : SE := fun ρ m => (da ρ m).bind fun x m => (db ρ m).bind fun y m => g x y m
/-- a two-place operation by trees -/
def Op2 (X : Cx) (f : Value → Value → Sem Value) (g : G2) : Prop :=
  ∃ r, OpR X f r ∧ ∀ (EX : Str → Hp → Prop) (W : Wd) (H : Hp) (m : M) (vx vy : V) (x y : D) (Q : VK), RM X.K X.mg W H m → RD X.K W vx x → RD X.K W vy y →
    post X.K X.mg W H (g x y m) (fun z W' H' _ => ∀ v, RD X.K W' v z → Q v H') EX → r vx vy H Q
/-- a test's operation -/
def Op2B (X : Cx) (f : Value → Value → Sem Value) (g : D → D → M → R Bool) : Prop :=
  ∃ r, OpR X f r ∧ ∀ (EX : Str → Hp → Prop) (W : Wd) (H : Hp) (m : M) (vx vy : V) (x y : D) (Q : VK), RM X.K X.mg W H m → RD X.K W vx x → RD X.K W vy y →
    post X.K X.mg W H (g x y m) (fun b W' H' _ => Q (.bl b) H') EX → r vx vy H Q
def sBinT (g : D → D → M → R Bool) (da db : SE) : SB := fun ρ m => (da ρ m).bind fun x m => (db ρ m).bind fun y m => g x y m
def sOfT (t : SB) : SE := fun ρ m => (t ρ m).bind fun b m => .ok (.bl b) m
section
variable {X : Cx} {EX : Str → Hp → Prop} {a b c e : Expr} {da db dc : SE} {pos : Pos}
theorem de_var (i : Nat) {x : Str} (hN : X.N[i]? = some x := by rfl) (hv : Vis X.env.scope x := by first | exact Or.inl rfl | exact Or.inr (Or.inl rfl) | exact Or.inr (Or.inr rfl)) (hd : (x == ("__debug__" : Str)) = false := by decide)
    (hcd : (x == ("__classdict__" : Str)) = false := by decide) : DE X EX (.Name x pos) (sVar i) :=
  PE.imp (pe_var hN hv hd hcd) fun σ H Q ⟨W, ρ, m, rs, rm, h⟩ => by
    unfold sVar at h
    split at h
    · rename_i x e
      obtain ⟨v, e1, r⟩ := rs.get i x e
      exact ⟨v, e1, post_ok h rm v r⟩
    · exact h.elim
theorem de_const {e : Expr} {v : V} {x : D} (h : PE X e (tC v)) (r : ∀ W, RD X.K W v x) : DE X EX e (sC x) :=
  PE.imp h fun σ H Q ⟨W, ρ, m, rs, rm, h⟩ => post_ok h rm v (r W)
theorem de_int {i j pos} : DE X EX (.Constant (.int i) j pos) (sC (.int i)) := de_const pe_int fun _ => .int _
theorem de_bl {b j pos} : DE X EX (.Constant (.bool b) j pos) (sC (.bl b)) := de_const pe_bl fun _ => .bl _
theorem de_non {j pos} : DE X EX (.Constant .none j pos) (sC .non) := de_const pe_non fun _ => .non
theorem de_str {x j pos} : DE X EX (.Constant (.str x) j pos) (sC (.str x)) := de_const pe_str fun _ => .str _
/-- a module's constant: an int, a text -/
theorem de_glob {x : Str} {v : V} {u : Value} {d : D} (hg : Gl X x) (hm : X.mg x = some u) (r : RelV v u) (h : ∀ W, RD X.K W v d) (hd : (x == ("__debug__" : Str)) = false := by decide) : DE X EX (.Name x pos) (sC d) := de_const (pe_glob hg hm r hd) h
theorem two {r : R2} {g : G2} {ta : TE} {σ : L2.St} {H : Hp} {Q : VK}
    (lift : ∀ (EX : Str → Hp → Prop) (W : Wd) (H : Hp) (m : M) (vx vy : V) (x y : D) (Q : VK), RM X.K X.mg W H m → RD X.K W vx x → RD X.K W vy y → post X.K X.mg W H (g x y m) (fun z W' H' _ => ∀ v, RD X.K W' v z → Q v H') EX → r vx vy H Q)
    (h : tE X.K X.mg EX (sBin g da db) σ H Q) : tOp r (tE X.K X.mg EX da) (tE X.K X.mg EX db) σ H Q := by
  obtain ⟨W, ρ, m, rs, rm, h⟩ := h
  refine ⟨W, ρ, m, rs, rm, post_mono (post_bind h) fun x W1 H1 m1 e1 rm1 h1 v rv => ?_⟩
  refine ⟨W1, ρ, m1, rs.mono e1.le, rm1, post_mono (post_bind h1) fun y W2 H2 m2 e2 rm2 h2 u ru => ?_⟩
  exact lift EX W2 H2 m2 v u x y Q rm2 (rv.mono e2.le) ru h2
theorem de_op {op : Operator} {g : G2} (ho : Op2 X (binaryOp op) g) (ha : DE X EX a da) (hb : DE X EX b db) : DE X EX (.BinOp a op b pos) (sBin g da db) := by
  obtain ⟨r, hr, lift⟩ := ho
  exact PE.imp (pe_op hr ha hb) fun σ H Q h => two (ta := tE X.K X.mg EX da) lift h
theorem twoT {r : R2} {g : D → D → M → R Bool} {σ : L2.St} {H : Hp} {Q : Bool → Hp → Prop}
    (lift : ∀ (EX : Str → Hp → Prop) (W : Wd) (H : Hp) (m : M) (vx vy : V) (x y : D) (Q : VK), RM X.K X.mg W H m → RD X.K W vx x → RD X.K W vy y → post X.K X.mg W H (g x y m) (fun b W' H' _ => Q (.bl b) H') EX → r vx vy H Q)
    (h : tT X.K X.mg EX (sBinT g da db) σ H Q) : tTest (tOp r (tE X.K X.mg EX da) (tE X.K X.mg EX db)) σ H Q := by
  obtain ⟨W, ρ, m, rs, rm, h⟩ := h
  refine ⟨W, ρ, m, rs, rm, post_mono (post_bind h) fun x W1 H1 m1 e1 rm1 h1 v rv => ?_⟩
  refine ⟨W1, ρ, m1, rs.mono e1.le, rm1, post_mono (post_bind h1) fun y W2 H2 m2 e2 rm2 h2 u ru => ?_⟩
  exact lift EX W2 H2 m2 v u x y _ rm2 (rv.mono e2.le) ru (post_mono h2 fun b W3 H3 m3 e3 rm3 h3 => ⟨b, rfl, h3⟩)
theorem dt_cmp {op : CmpOp} {g : D → D → M → R Bool} (ho : Op2B X (compareOp op) g) (ha : DE X EX a da) (hb : DE X EX b db) (hm : behindInMarks op b = false := by first | exact nomark _ | rfl) : DT X EX (.Compare a [op] [b] pos) (sBinT g da db) := by
  obtain ⟨r, hr, lift⟩ := ho
  exact PT.imp (pt_cmpR hr ha hb hm) fun σ H Q h => twoT lift h
theorem de_cmp {op : CmpOp} {g : D → D → M → R Bool} (ho : Op2B X (compareOp op) g) (ha : DE X EX a da) (hb : DE X EX b db) (hm : behindInMarks op b = false := by first | exact nomark _ | rfl) : DE X EX (.Compare a [op] [b] pos) (sOfT (sBinT g da db)) := by
  obtain ⟨r, hr, lift⟩ := ho
  refine PE.imp (pe_cmpR hr ha hb hm) fun σ H Q ⟨W, ρ, m, rs, rm, h⟩ => ?_
  have h : post X.K X.mg W H (sBinT g da db ρ m) (fun b W' H' _ => Q (.bl b) H') EX := post_mono (post_bind h) fun b W1 H1 m1 e1 rm1 h1 => post_ok h1 rm1 (.bl b) (.bl b)
  refine ⟨W, ρ, m, rs, rm, post_mono (post_bind h) fun x W1 H1 m1 e1 rm1 h1 v rv => ?_⟩
  refine ⟨W1, ρ, m1, rs.mono e1.le, rm1, post_mono (post_bind h1) fun y W2 H2 m2 e2 rm2 h2 u ru => ?_⟩
  exact lift EX W2 H2 m2 v u x y _ rm2 (rv.mono e2.le) ru h2
/-- a op b op' c -/
def sChain (g g' : D → D → M → R Bool) (da db dc : SE) : SB := fun ρ m => (da ρ m).bind fun x m => (db ρ m).bind fun y m => (g x y m).bind fun k m => if k = true then (dc ρ m).bind fun z m => g' y z m else .ok false m
theorem chainR {r r' : R2} {g g' : D → D → M → R Bool} {σ : L2.St} {H : Hp} {Q : VK} {W : Wd} {ρ : En} {m : M} (rs : RS X.K W σ ρ) (rm : RM X.K X.mg W H m)
    (lift : ∀ (EX : Str → Hp → Prop) (W : Wd) (H : Hp) (m : M) (vx vy : V) (x y : D) (Q : VK), RM X.K X.mg W H m → RD X.K W vx x → RD X.K W vy y → post X.K X.mg W H (g x y m) (fun b W' H' _ => Q (.bl b) H') EX → r vx vy H Q)
    (lift' : ∀ (EX : Str → Hp → Prop) (W : Wd) (H : Hp) (m : M) (vx vy : V) (x y : D) (Q : VK), RM X.K X.mg W H m → RD X.K W vx x → RD X.K W vy y → post X.K X.mg W H (g' x y m) (fun b W' H' _ => Q (.bl b) H') EX → r' vx vy H Q)
    (h : post X.K X.mg W H (sChain g g' da db dc ρ m) (fun b W' H' _ => Q (.bl b) H') EX) : tChain r r' (tE X.K X.mg EX da) (tE X.K X.mg EX db) (tE X.K X.mg EX dc) σ H Q := by
  refine ⟨W, ρ, m, rs, rm, post_mono (post_bind h) fun x W1 H1 m1 e1 rm1 h1 v rv => ?_⟩
  refine ⟨W1, ρ, m1, rs.mono e1.le, rm1, post_mono (post_bind h1) fun y W2 H2 m2 e2 rm2 h2 u ru => ?_⟩
  refine lift EX W2 H2 m2 v u x y _ rm2 (rv.mono e2.le) ru (post_mono (post_bind h2) fun k W3 H3 m3 e3 rm3 h3 => ⟨k, rfl, ?_⟩)
  cases k with
  | false => exact post_ok h3 rm3
  | true =>
    refine ⟨W3, ρ, m3, rs.mono ((e1.trans e2).trans e3).le, rm3, post_mono (post_bind h3) fun z W4 H4 m4 e4 rm4 h4 t rt => ?_⟩
    exact lift' EX W4 H4 m4 u t y z _ rm4 (ru.mono (e3.trans e4).le) rt h4
theorem dt_chain {op op' : CmpOp} {g g' : D → D → M → R Bool} (ho : Op2B X (compareOp op) g) (ho' : Op2B X (compareOp op') g') (ha : DE X EX a da) (hb : DE X EX b db) (hc : DE X EX c dc)
    (hm : lastMarks [op, op'] [b, c] = false := by with_unfolding_all rfl) : DT X EX (.Compare a [op, op'] [b, c] pos) (sChain g g' da db dc) := by
  obtain ⟨r, hr, lift⟩ := ho
  obtain ⟨r', hr', lift'⟩ := ho'
  refine PT.imp (pt_chain hr hr' ha hb hc hm) fun σ H Q ⟨W, ρ, m, rs, rm, h⟩ => ?_
  exact chainR (Q := fun x H' => ∃ k, x = .bl k ∧ Q k H') rs rm lift lift' (post_mono h fun b W1 H1 m1 e1 rm1 h1 => ⟨b, rfl, h1⟩)
theorem de_chain {op op' : CmpOp} {g g' : D → D → M → R Bool} (ho : Op2B X (compareOp op) g) (ho' : Op2B X (compareOp op') g') (ha : DE X EX a da) (hb : DE X EX b db) (hc : DE X EX c dc)
    (hm : lastMarks [op, op'] [b, c] = false := by with_unfolding_all rfl) : DE X EX (.Compare a [op, op'] [b, c] pos) (sOfT (sChain g g' da db dc)) := by
  obtain ⟨r, hr, lift⟩ := ho
  obtain ⟨r', hr', lift'⟩ := ho'
  refine PE.imp (pe_chain hr hr' ha hb hc hm) fun σ H Q ⟨W, ρ, m, rs, rm, h⟩ => ?_
  exact chainR rs rm lift lift' (post_mono (post_bind h) fun b W1 H1 m1 e1 rm1 h1 => post_ok h1 rm1 (.bl b) (.bl b))

/-! ### tests -/
def sAnd (t u : SB) : SB := fun ρ m => (t ρ m).bind fun k m => if k = true then u ρ m else .ok false m
def sOr (t u : SB) : SB := fun ρ m => (t ρ m).bind fun k m => if k = true then .ok true m else u ρ m
def sNot (t : SB) : SB := fun ρ m => (t ρ m).bind fun k m => .ok (!k) m
variable {t u : SB} {rest : List Expr}
theorem dw_and1 (ha : DT X EX a t) : DW X EX (.BoolOp .And [a] pos) t := pw_and1 ha
theorem dw_or1 (ha : DT X EX a t) : DW X EX (.BoolOp .Or [a] pos) t := pw_or1 ha
theorem dw_and (ha : DT X EX a t) (hb : DW X EX (.BoolOp .And (b :: rest) pos) u) : DW X EX (.BoolOp .And (a :: b :: rest) pos) (sAnd t u) :=
  PW.imp (pw_and ha hb) fun σ H Q ⟨W, ρ, m, rs, rm, h⟩ => ⟨W, ρ, m, rs, rm, post_mono (post_bind h) fun k W1 H1 m1 e1 rm1 h1 => by
    cases k with
    | true => exact ⟨W1, ρ, m1, rs.mono e1.le, rm1, h1⟩
    | false => exact post_ok h1 rm1⟩
theorem dw_or (ha : DT X EX a t) (hb : DW X EX (.BoolOp .Or (b :: rest) pos) u) : DW X EX (.BoolOp .Or (a :: b :: rest) pos) (sOr t u) :=
  PW.imp (pw_or ha hb) fun σ H Q ⟨W, ρ, m, rs, rm, h⟩ => ⟨W, ρ, m, rs, rm, post_mono (post_bind h) fun k W1 H1 m1 e1 rm1 h1 => by
    cases k with
    | true => exact post_ok h1 rm1
    | false => exact ⟨W1, ρ, m1, rs.mono e1.le, rm1, h1⟩⟩
theorem dt_w (h : DW X EX e t) : DT X EX e t := h.pt
theorem dt_not (ha : DT X EX a t) : DT X EX (.UnaryOp .Not a pos) (sNot t) :=
  PT.imp (pt_not ha) fun σ H Q ⟨W, ρ, m, rs, rm, h⟩ => ⟨W, ρ, m, rs, rm, post_mono (post_bind h) fun k W1 H1 m1 e1 rm1 h1 => post_ok h1 rm1⟩
/-- a value that is a truth, as a test -/
def sTB (d : SE) : SB := fun ρ m => (d ρ m).bind fun x m => match x with
  | .bl b => .ok b m
  | _ => .bad
theorem dt_bl (h : DE X EX e da) (he : ∀ whole, isTrue e X.env whole = (do let v ← whole; standAt e.pos; holding [v] (truthy v)) := by intro _; rfl) : DT X EX e (sTB da) :=
  PT.imp (pt_val h he) fun σ H Q ⟨W, ρ, m, rs, rm, h⟩ => ⟨W, ρ, m, rs, rm, post_mono (post_bind h) fun x W1 H1 m1 e1 rm1 h1 v rv => by
    cases x with
    | bl b => cases rv; exact ⟨b, rfl, post_ok h1 rm1⟩
    | _ => exact h1.elim⟩
/-- and, or, not, .. if .. else .. as values -/
def sAndV (da db : SE) : SE := fun ρ m => (sTB da ρ m).bind fun k m => if k = true then db ρ m else .ok (.bl false) m
def sOrV (da db : SE) : SE := fun ρ m => (sTB da ρ m).bind fun k m => if k = true then .ok (.bl true) m else db ρ m
def sIf (t : SB) (da db : SE) : SE := fun ρ m => (t ρ m).bind fun k m => if k = true then da ρ m else db ρ m
theorem de_one {op} (h : DE X EX a da) : DE X EX (.BoolOp op [a] pos) da := pe_one h
theorem tb_of {σ : L2.St} {H : Hp} {W : Wd} {ρ : En} {m : M} {f : Bool → M → R D} {Q : D → Wd → Hp → M → Prop} (h : post X.K X.mg W H ((sTB da ρ m).bind f) Q EX) :
    post X.K X.mg W H (da ρ m) (fun x W1 H1 m1 => ∃ k, x = .bl k ∧ post X.K X.mg W1 H1 (f k m1) Q EX) EX := by
  refine post_mono (post_bind (post_bind h)) fun x W1 H1 m1 e1 rm1 h1 => ?_
  cases x with
  | bl b => exact ⟨b, rfl, post_ok h1 rm1⟩
  | _ => exact h1.elim
theorem de_and (ha : DE X EX a da) (hb : DE X EX (.BoolOp .And (b :: rest) pos) db) : DE X EX (.BoolOp .And (a :: b :: rest) pos) (sAndV da db) :=
  PE.imp (pe_and ha hb) fun σ H Q ⟨W, ρ, m, rs, rm, h⟩ => ⟨W, ρ, m, rs, rm, post_mono (tb_of (σ := σ) h) fun x W1 H1 m1 e1 rm1 ⟨k, hk, h1⟩ v rv => by
    subst hk
    cases rv
    refine ⟨k, rfl, ?_⟩
    cases k with
    | true => exact ⟨W1, ρ, m1, rs.mono e1.le, rm1, h1⟩
    | false => exact post_ok h1 rm1 _ (.bl _)⟩
theorem de_or (ha : DE X EX a da) (hb : DE X EX (.BoolOp .Or (b :: rest) pos) db) : DE X EX (.BoolOp .Or (a :: b :: rest) pos) (sOrV da db) :=
  PE.imp (pe_or ha hb) fun σ H Q ⟨W, ρ, m, rs, rm, h⟩ => ⟨W, ρ, m, rs, rm, post_mono (tb_of (σ := σ) h) fun x W1 H1 m1 e1 rm1 ⟨k, hk, h1⟩ v rv => by
    subst hk
    cases rv
    refine ⟨k, rfl, ?_⟩
    cases k with
    | true => exact post_ok h1 rm1 _ (.bl _)
    | false => exact ⟨W1, ρ, m1, rs.mono e1.le, rm1, h1⟩⟩
def sNotV (da : SE) : SE := sOfT (sNot (sTB da))
theorem de_not (ha : DE X EX a da) : DE X EX (.UnaryOp .Not a pos) (sNotV da) :=
  PE.imp (pe_not ha) fun σ H Q ⟨W, ρ, m, rs, rm, h⟩ => ⟨W, ρ, m, rs, rm, post_mono (post_bind (post_bind (post_bind h))) fun x W1 H1 m1 e1 rm1 h1 v rv => by
    cases x with
    | bl b =>
      cases rv
      exact ⟨b, rfl, post_ok (post_ok (post_ok h1 rm1) rm1) rm1 _ (.bl _)⟩
    | _ => exact h1.elim⟩
theorem de_if (hc : DT X EX c t) (ha : DE X EX a da) (hb : DE X EX b db) : DE X EX (.IfExp c a b pos) (sIf t da db) :=
  PE.imp (pe_ifExp hc ha hb) fun σ H Q ⟨W, ρ, m, rs, rm, h⟩ => ⟨W, ρ, m, rs, rm, post_mono (post_bind h) fun k W1 H1 m1 e1 rm1 h1 => by
    cases k with
    | true => exact ⟨W1, ρ, m1, rs.mono e1.le, rm1, h1⟩
    | false => exact ⟨W1, ρ, m1, rs.mono e1.le, rm1, h1⟩⟩
/-- a value's truth -/
def truth : D → M → R Bool
  | .non, m => .ok false m
  | .bl b, m => .ok b m
  | .int i, m => .ok (i != 0) m
  | .str x, m => if x.length ≤ sizeLine then .ok ((x.length : Int) != 0) m else .bad
  | .tup xs, m => .ok (!xs.isEmpty) m
  | .lst xs, m => .ok (!xs.isEmpty) m
  | .frz xs, m => .ok (!xs.isEmpty) m
  | .ref n, m => match m[n]? with
    | some (.lst xs) => .ok (!xs.isEmpty) m
    | _ => .bad
def sTru (d : SE) : SB := fun ρ m => (d ρ m).bind truth
theorem RDs.isEmpty {K : PySem.W.Frag} {W : Wd} {vs : List V} {ds : List D} (h : RDs K W vs ds) : vs.isEmpty = ds.isEmpty := by cases h <;> rfl
theorem dt_tru (h : DE X EX e da) (he : ∀ whole, isTrue e X.env whole = (do let v ← whole; standAt e.pos; holding [v] (truthy v)) := by intro _; rfl) : DT X EX e (sTru da) :=
  PT.imp (pt_truth h he) fun σ H Q ⟨W, ρ, m, rs, rm, h⟩ => ⟨W, ρ, m, rs, rm, post_mono (post_bind h) fun x W1 H1 m1 e1 rm1 h1 v rv => by
    cases rv with
    | non => exact ⟨_, rfl, post_ok h1 rm1⟩
    | bl b => exact ⟨_, rfl, post_ok h1 rm1⟩
    | int i => exact ⟨_, rfl, post_ok h1 rm1⟩
    | str x =>
      dsimp only [truth] at h1
      split at h1
      · exact ⟨_, ⟨by assumption, rfl⟩, post_ok h1 rm1⟩
      · exact h1.elim
    | tup ht hn r => exact ⟨_, .inr (.inl ⟨_, same_T rm1.sub ht, rfl⟩), by rw [r.isEmpty]; exact post_ok h1 rm1⟩
    | lst hl r => exact ⟨_, .inl ⟨_, .inl (.inl (rm1.sub _ _ hl)), rfl⟩, by rw [r.isEmpty]; exact post_ok h1 rm1⟩
    | frz hl r => exact ⟨_, .inl ⟨_, rm1.sub.seq hl, rfl⟩, by rw [r.isEmpty]; exact post_ok h1 rm1⟩
    | @ref n a hn =>
      dsimp only [truth] at h1
      split at h1
      · rename_i xs hx
        obtain ⟨o, ho, ⟨vs, rfl, r⟩, _⟩ := rm1.get hn hx (by simp)
        exact ⟨_, .inl ⟨_, .inl (.inl ho), rfl⟩, by rw [r.isEmpty]; exact post_ok h1 rm1⟩
      · exact h1.elim⟩
end

/-! ### ints, texts, tuples: + - * // % ** -/
def gI (C : Int → Int → Bool) (f : Int → Int → Int) : G2 := fun x y m => match x, y with
  | .int i, .int j => if C i j = true then .ok (.int (f i j)) m else .bad
  | _, _ => .bad
theorem op2_I {X : Cx} {g : Value → Value → Sem Value} {P : Int → Int → Prop} {C : Int → Int → Bool} {f : Int → Int → Int} (h : OpR X g (rI P fun i j => .int (f i j))) (hc : ∀ i j, C i j = true → P i j) : Op2 X g (gI C f) :=
  ⟨_, h, fun EX W H m vx vy x y Q rm rx ry hp => by
    unfold gI at hp
    split at hp
    · split at hp
      · rename_i i j hC
        cases rx; cases ry
        exact ⟨i, j, rfl, rfl, hc i j hC, post_ok hp rm _ (.int _)⟩
      · exact hp.elim
    · exact hp.elim⟩
theorem op2_I0 {X : Cx} {g : Value → Value → Sem Value} {f : Int → Int → Int} (h : OpR X g (rI0 fun i j => .int (f i j))) : Op2 X g (gI (fun _ _ => true) f) :=
  ⟨_, h, fun EX W H m vx vy x y Q rm rx ry hp => by
    unfold gI at hp
    split at hp
    · split at hp
      · rename_i i j hC
        cases rx; cases ry
        exact ⟨i, j, rfl, rfl, post_ok hp rm _ (.int _)⟩
      · exact hp.elim
    · exact hp.elim⟩
def gAdd : G2 := gI (fun _ _ => true) fun i j => i + j
def gSub : G2 := gI (fun _ _ => true) fun i j => i - j
def gMul : G2 := gI (fun i j => decide (i.natAbs.log2 + j.natAbs.log2 < 1000000)) fun i j => i * j
def gDiv : G2 := gI (fun _ j => decide (0 < j) && decide (j.natAbs.log2 < 9000)) fun i j => i / j
def gMod : G2 := gI (fun _ j => decide (0 < j)) fun i j => i % j
def gPow : G2 := gI (fun i j => decide (0 ≤ j) && decide (j ≤ 1000000) && decide (i.natAbs < 2 ^ 64)) fun i j => i ^ j.toNat
section
variable {X : Cx}
theorem o_add : Op2 X (binaryOp .Add) gAdd := op2_I0 op_add
theorem o_sub : Op2 X (binaryOp .Sub) gSub := op2_I0 op_sub
theorem o_mul : Op2 X (binaryOp .Mult) gMul := op2_I op_mulW fun i j h => show i.natAbs.log2 + j.natAbs.log2 < 1000000 from of_decide_eq_true h
theorem o_div : Op2 X (binaryOp .FloorDiv) gDiv := op2_I op_fdivW fun i j h => by
  rw [Bool.and_eq_true] at h
  exact ⟨of_decide_eq_true h.1, of_decide_eq_true h.2⟩
theorem o_mod : Op2 X (binaryOp .Mod) gMod := op2_I op_mod fun _ _ h => of_decide_eq_true h
theorem o_pow : Op2 X (binaryOp .Pow) gPow := op2_I op_pow fun i j h => by
  rw [Bool.and_eq_true, Bool.and_eq_true] at h
  exact ⟨of_decide_eq_true h.1.1, of_decide_eq_true h.1.2, of_decide_eq_true h.2⟩
/-! in place -/
theorem io_add : Op2 X (inplaceOp .Add) gAdd := op2_I0 iop_add
theorem io_sub : Op2 X (inplaceOp .Sub) gSub := op2_I0 iop_sub
def gMul' : G2 := gI (fun i j => decide (-(2 ^ 64) < i ∧ i < 2 ^ 64) || decide (-(2 ^ 64) < j ∧ j < 2 ^ 64)) fun i j => i * j
theorem io_mul : Op2 X (inplaceOp .Mult) gMul' := op2_I iop_mul fun i j h => by
  rw [Bool.or_eq_true] at h
  rcases h with h | h
  · exact .inl (of_decide_eq_true h)
  · exact .inr (of_decide_eq_true h)
end
/-- a truth as a number -/
def dB (k : Bool) : Int := if k then 1 else 0
def gI1 (f : Int → Int) : D → M → R D := fun x m => match x with
  | .int i => .ok (.int (f i)) m
  | _ => .bad
def sUn (g : D → M → R D) (d : SE) : SE := fun ρ m => (d ρ m).bind g
theorem de_neg {X : Cx} {EX : Str → Hp → Prop} {a : Expr} {da : SE} {pos : Pos} (ha : DE X EX a da) : DE X EX (.UnaryOp .USub a pos) (sUn (gI1 fun i => -i) da) :=
  PE.imp (pe_un un_neg ha) fun σ H Q ⟨W, ρ, m, rs, rm, h⟩ => ⟨W, ρ, m, rs, rm, post_mono (post_bind h) fun x W1 H1 m1 e1 rm1 h1 v rv => by
    cases x with
    | int i => cases rv; exact ⟨i, rfl, post_ok h1 rm1 _ (.int _)⟩
    | _ => exact h1.elim⟩

/-! ### comparisons of ints -/
def gC (f : Int → Int → Bool) : D → D → M → R Bool := fun x y m => match x, y with
  | .int i, .int j => .ok (f i j) m
  | _, _ => .bad
theorem op2_C {X : Cx} {g : Value → Value → Sem Value} {f : Int → Int → Bool} (h : OpR X g (rI0 fun i j => .bl (f i j))) : Op2B X g (gC f) :=
  ⟨_, h, fun EX W H m vx vy x y Q rm rx ry hp => by
    unfold gC at hp
    split at hp
    · rename_i i j
      cases rx; cases ry
      exact ⟨i, j, rfl, rfl, post_ok hp rm⟩
    · exact hp.elim⟩
def gLt := gC fun i j => decide (i < j)
def gLe := gC fun i j => decide (i ≤ j)
def gGt := gC fun i j => decide (j < i)
def gGe := gC fun i j => decide (j ≤ i)
section
variable {X : Cx}
theorem o_lt : Op2B X (compareOp .Lt) gLt := op2_C op_lt
theorem o_le : Op2B X (compareOp .LtE) gLe := op2_C op_le
theorem o_gt : Op2B X (compareOp .Gt) gGt := op2_C op_gt
theorem o_ge : Op2B X (compareOp .GtE) gGe := op2_C op_ge
def isNon : D → Bool
  | .non => true
  | _ => false
def gIsN : D → D → M → R Bool := fun x y m => match y with
  | .non => .ok (isNon x) m
  | _ => .bad
def gNotN : D → D → M → R Bool := fun x y m => match y with
  | .non => .ok (!isNon x) m
  | _ => .bad
theorem isNon_eq {K : PySem.W.Frag} {W : Wd} {v : V} {x : D} (r : RD K W v x) : decide (v = .non) = isNon x := by cases r <;> rfl
theorem o_isN : Op2B X (compareOp .Is) gIsN := ⟨_, op_isN, fun EX W H m vx vy x y Q rm rx ry hp => by
  cases ry with
  | non => exact ⟨rfl, by rw [isNon_eq rx]; exact post_ok hp rm⟩
  | _ => exact hp.elim⟩
theorem o_notN : Op2B X (compareOp .IsNot) gNotN := ⟨_, op_notN, fun EX W H m vx vy x y Q rm rx ry hp => by
  cases ry with
  | non => exact ⟨rfl, by rw [isNon_eq rx]; exact post_ok hp rm⟩
  | _ => exact hp.elim⟩
end

/-! ### == of data -/
mutual
def toPy : D → M → Option PyData
  | .non, _ => some .none
  | .bl b, _ => some (.bool b)
  | .int i, _ => some (.int i)
  | .str x, _ => some (.str x)
  | .tup xs, m => (toPys xs m).map .tuple
  | .lst xs, m => (toPys xs m).map .list
  | .frz xs, m => (toPys xs m).map .list
  | .ref _, _ => none
def toPys : List D → M → Option (List PyData)
  | [], _ => some []
  | x :: xs, m => match toPy x m, toPys xs m with
    | some d, some ds => some (d :: ds)
    | _, _ => none
end
/-- a list in the memory that holds no such lists -/
def toPyR (x : D) (m : M) : Option PyData := match x with
  | .ref n => match m[n]? with
    | some (.lst xs) => (toPys xs m).map .list
    | _ => none
  | x => toPy x m
section
variable {K : PySem.W.Frag} {mg : Str → Option Value} {W : Wd} {H : Hp} {m : M}
mutual
theorem dp_of (sub : Same W.I H) : ∀ {v : V} {x : D} {d : PyData}, RD K W v x → toPy x m = some d → Dp K H v d
  | _, _, _, .non, e => by simp only [toPy, Option.some.injEq] at e; subst e; exact .non
  | _, _, _, .bl b, e => by simp only [toPy, Option.some.injEq] at e; subst e; exact .bl b
  | _, _, _, .int i, e => by simp only [toPy, Option.some.injEq] at e; subst e; exact .int i
  | _, _, _, .str x, e => by simp only [toPy, Option.some.injEq] at e; subst e; exact .str x
  | _, _, _, .tup h n r, e => by
    simp only [toPy, Option.map_eq_some_iff] at e
    obtain ⟨ds, e, rfl⟩ := e
    exact .tup (same_T sub h) (dps_of sub r e)
  | _, _, _, .lst h r, e => by
    simp only [toPy, Option.map_eq_some_iff] at e
    obtain ⟨ds, e, rfl⟩ := e
    exact .lst (.inl (.inl (sub _ _ h))) (dps_of sub r e)
  | _, _, _, .frz h r, e => by
    simp only [toPy, Option.map_eq_some_iff] at e
    obtain ⟨ds, e, rfl⟩ := e
    exact .lst (sub.seq h) (dps_of sub r e)
  | _, _, _, .ref h, e => by simp [toPy] at e
theorem dps_of (sub : Same W.I H) : ∀ {vs : List V} {xs : List D} {ds : List PyData}, RDs K W vs xs → toPys xs m = some ds → DpAll K H vs ds
  | _, _, _, .nil, e => by simp only [toPys, Option.some.injEq] at e; subst e; exact .nil
  | _, _, _, .cons r t, e => by
    simp only [toPys] at e
    split at e
    · rename_i d ds e1 e2
      cases e
      exact .cons (dp_of sub r e1) (dps_of sub t e2)
    · cases e
end
theorem dpR_of (rm : RM K mg W H m) {v : V} {x : D} {d : PyData} (r : RD K W v x) (e : toPyR x m = some d) : Dp K H v d := by
  cases r with
  | @ref n a hn =>
    simp only [toPyR] at e
    split at e
    · rename_i xs hx
      rw [Option.map_eq_some_iff] at e
      obtain ⟨ds, e, rfl⟩ := e
      obtain ⟨o, ho, ⟨vs, rfl, r⟩, _⟩ := rm.get hn hx (by simp)
      exact .lst (.inl (.inl ho)) (dps_of rm.sub r e)
    · cases e
  | non => exact dp_of (m := m) rm.sub .non e
  | bl b => exact dp_of (m := m) rm.sub (.bl b) e
  | int i => exact dp_of (m := m) rm.sub (.int i) e
  | str x => exact dp_of (m := m) rm.sub (.str x) e
  | tup h n r => exact dp_of (m := m) rm.sub (.tup h n r) e
  | lst h r => exact dp_of (m := m) rm.sub (.lst h r) e
  | frz h r => exact dp_of (m := m) rm.sub (.frz h r) e
end
def gEqD : D → D → M → R Bool := fun x y m => match toPyR x m, toPyR y m with
  | some d, some e => if SeqAt.shaped d = true then if SeqAt.shaped e = true then .ok (PyData.eqv d e) m else .bad else .bad
  | _, _ => .bad
def gNeD : D → D → M → R Bool := fun x y m => match toPyR x m, toPyR y m with
  | some d, some e => if SeqAt.shaped d = true then if SeqAt.shaped e = true then .ok (!PyData.eqv d e) m else .bad else .bad
  | _, _ => .bad
theorem o_eqD {X : Cx} (hu : X.A.units + 64 < cLine) : Op2B X (compareOp .Eq) gEqD := ⟨_, op_eqD hu, fun EX W H m vx vy x y Q rm rx ry hp => by
  unfold gEqD at hp
  split at hp
  · rename_i d e h1 h2
    split at hp
    · split at hp
      · exact ⟨d, e, dpR_of rm rx h1, dpR_of rm ry h2, by assumption, by assumption, post_ok hp rm⟩
      · exact hp.elim
    · exact hp.elim
  · exact hp.elim⟩
theorem o_neD {X : Cx} (hu : X.A.units + 64 < cLine) : Op2B X (compareOp .NotEq) gNeD := ⟨_, op_neD hu, fun EX W H m vx vy x y Q rm rx ry hp => by
  unfold gNeD at hp
  split at hp
  · rename_i d e h1 h2
    split at hp
    · split at hp
      · exact ⟨d, e, dpR_of rm rx h1, dpR_of rm ry h2, by assumption, by assumption, post_ok hp rm⟩
      · exact hp.elim
    · exact hp.elim
  · exact hp.elim⟩
/-- .. texts by their signs -/
def gEq : D → D → M → R Bool := fun x y m => match x, y with
  | .str a, .str b => .ok (a == b) m
  | x, y => gEqD x y m
def gNe : D → D → M → R Bool := fun x y m => match x, y with
  | .str a, .str b => .ok (!(a == b)) m
  | x, y => gNeD x y m
theorem o_eq {X : Cx} (hu : X.A.units + 64 < cLine) : Op2B X (compareOp .Eq) gEq := by
  obtain ⟨r, hr, lr⟩ := o_eqD hu
  refine ⟨_, op_eq.or hr, fun EX W H m vx vy x y Q rm rx ry hp => ?_⟩
  unfold gEq at hp
  split at hp
  · cases rx; cases ry
    refine .inl ⟨rfl, ?_⟩
    rw [dec_str]
    exact post_ok hp rm
  · exact .inr (lr EX W H m vx vy _ _ Q rm rx ry hp)
theorem o_ne {X : Cx} (hu : X.A.units + 64 < cLine) : Op2B X (compareOp .NotEq) gNe := by
  obtain ⟨r, hr, lr⟩ := o_neD hu
  refine ⟨_, op_ne.or hr, fun EX W H m vx vy x y Q rm rx ry hp => ?_⟩
  unfold gNe at hp
  split at hp
  · cases rx; cases ry
    refine .inl ⟨rfl, ?_⟩
    rw [dec_str]
    exact post_ok hp rm
  · exact .inr (lr EX W H m vx vy _ _ Q rm rx ry hp)
end Vi

set_option Elab.async false
set_option linter.all false
set_option maxRecDepth 100000
set_option maxHeartbeats 4000000
namespace Vi
open PySem PySem.Spec PyProof.Rows L2

abbrev big : Nat := 16777216
theorem big_eq : sizeLine = big := sizeLine_eq

/-! ### arguments, displays -/
def sNil : SA := fun _ m => .ok [] m
def sCons (d : SE) (ds : SA) : SA := fun ρ m => (d ρ m).bind fun x m => (ds ρ m).bind fun xs m => .ok (x :: xs) m
def sTup (ds : SA) : SE := fun ρ m => (ds ρ m).bind fun xs m => if xs.length ≤ big then .ok (.tup xs) m else .bad
def sLst (ds : SA) : SA := fun ρ m => (ds ρ m).bind fun xs m => if xs.length ≤ big then .ok xs m else .bad
def sFrz (ds : SA) : SE := fun ρ m => (ds ρ m).bind fun xs m => .ok (.lst xs) m
def sNew (ds : SA) : SE := fun ρ m => (ds ρ m).bind fun xs m => .ok (.ref m.length) (m ++ [.lst xs])
section
variable {X : Cx} {EX : Str → Hp → Prop} {a b c e : Expr} {es : List Expr} {d da db dc : SE} {ds : SA} {pos : Pos}
theorem da_nil : DA X EX [] sNil := PA.imp pa_nil fun σ H Q ⟨W, ρ, m, rs, rm, h⟩ => post_ok h rm _ .nil
theorem da_cons (ha : DE X EX e d) (hr : DA X EX es ds) (hs : starEach (e :: es) X.env = (false, eval e X.env) :: starEach es X.env := by rfl) : DA X EX (e :: es) (sCons d ds) :=
  PA.imp (pa_cons ha hr hs) fun σ H Q ⟨W, ρ, m, rs, rm, h⟩ => ⟨W, ρ, m, rs, rm, post_mono (post_bind h) fun x W1 H1 m1 e1 rm1 h1 v rv =>
    ⟨W1, ρ, m1, rs.mono e1.le, rm1, post_mono (post_bind h1) fun xs W2 H2 m2 e2 rm2 h2 vs rvs => post_ok h2 rm2 _ (.cons (rv.mono e2.le) rvs)⟩⟩
/-- a new tuple, its object told -/
def tTupS (t : TA) : TE := fun σ H Q => t σ H fun xs H1 => xs.length ≤ sizeLine ∧ ∀ p o, H1 p = none → o.dict = none → Q (.ref p) (upd H1 p (.frz o (.tup xs)))
theorem pe_tupS {t : TA} {x1} (h : PA X es t) : PE X (.Tuple es x1 pos) (tTupS t) := by
  refine ⟨fun pins s σ H Q I hq => wpAny_Tuple_spliced (thn (h.run pos pins s σ H _ I hq) ?_)⟩
  rintro us s1 ⟨xs, H1, I1, r, z, q⟩
  have J := I1.laid (o := .frz _ (.tup xs)) (t' := s1.toks) (fun _ _ e => Heap.get?_push_of_some _ e) (Nat.le_refl _) ⟨Heap.get?_push_size _ rfl, z, us, r, IsTup.new _ _⟩
  exact ⟨by rw [← r.length]; exact z, .ref _, _, J, rfl, q _ _ I1.fresh rfl⟩
theorem de_tup {x1} (h : DA X EX es ds) : DE X EX (.Tuple es x1 pos) (sTup ds) :=
  PE.imp (pe_tupS h) fun σ H Q ⟨W, ρ, m, rs, rm, h⟩ => ⟨W, ρ, m, rs, rm, post_mono (post_bind h) fun xs W1 H1 m1 e1 rm1 h1 vs rvs => by
    split at h1
    · rename_i hz
      refine ⟨by rw [rvs.length, big_eq]; exact hz, fun p o hp ho => ?_⟩
      obtain ⟨e2, rm2, r2⟩ := new_tup rm1 hp ho rvs
      exact h1 _ _ e2 rm2 _ r2
    · exact h1.elim⟩
/-- what was made: told as a new list -/
theorem fresh_ok {W : Wd} {H : Hp} {m : M} {p : Addr} {vs : List V} {xs : List D} (rm : RM X.K X.mg W H m) (hp : H p = none) (r : RDs X.K W vs xs) :
    Ex W H W (upd H p (.lst vs)) ∧ RM X.K X.mg W (upd H p (.lst vs)) m ∧ p ∉ W.φ ∧ W.I p = none := by
  refine ⟨⟨Same.refl _, ⟨[], by simp, by simp⟩, fun b u e _ => upd_ne' hp e, fun b e => ?_, fun _ _ z => .inl z⟩, ⟨fun b u e => upd_ne' hp (rm.sub b u e), rm.len, rm.nd, fun b hb => ?_, fun i a c h1 h2 h3 => ?_, rm.off⟩, rm.nin hp, rm.nI hp⟩
  · unfold upd; split
    · simp
    · exact e
  · unfold upd; split
    · simp
    · exact rm.al b hb
  · obtain ⟨u, e, q⟩ := rm.obj i a c h1 h2 h3
    exact ⟨u, upd_ne' hp e, q⟩
/-- the way every rule for new lists ends -/
theorem fresh_post {W W0 : Wd} {H H0 : Hp} {m : M} {p : Addr} {vs : List V} {xs : List D} {Q : VK} (e0 : Ex W0 H0 W H) (rm : RM X.K X.mg W H m) (hp : H p = none) (r : RDs X.K W vs xs)
    (h : post X.K X.mg W H (.ok xs m) (fun xs W' H' _ => ∀ p vs, H0 p = none → p ∉ W'.φ → W'.I p = none → H' p = some (.lst vs) → RDs X.K W' vs xs → Q (.ref p) H') EX) : Q (.ref p) (upd H p (.lst vs)) := by
  obtain ⟨e1, rm1, n1, n2⟩ := fresh_ok rm hp r
  have h0 : H0 p = none := by
    cases q : H0 p with
    | none => rfl
    | some o => exact absurd hp (e0.al p (by rw [q]; simp))
  exact h _ _ e1 rm1 p vs h0 n1 n2 upd_same r
theorem dl_lst (h : DA X EX es ds) : DL X EX (.List es pos) (sLst ds) :=
  PE.imp (pe_lst h) fun σ H Q ⟨W, ρ, m, rs, rm, h⟩ => ⟨W, ρ, m, rs, rm, post_mono (post_bind h) fun xs W1 H1 m1 e1 rm1 h1 vs rvs => by
    split at h1
    · rename_i hz
      exact ⟨by rw [rvs.length, big_eq]; exact hz, fun p hp => fresh_post e1 rm1 hp rvs h1⟩
    · exact h1.elim⟩
/-- a new list that isn't changed any more -/
theorem frz_imp {σ : L2.St} {H : Hp} {Q : VK} (h : tE X.K X.mg EX (sFrz ds) σ H Q) : tL X.K X.mg EX ds σ H Q :=
  let ⟨W, ρ, m, rs, rm, h⟩ := h; ⟨W, ρ, m, rs, rm, by
    unfold sFrz at h
    generalize ds ρ m = r at h ⊢
    cases r with
    | ok xs m1 =>
      intro W1 H1 e1 rm1 p vs h0 hφ hI hp r
      have le : Le W1 ⟨upd W1.I p (.lst vs), W1.φ⟩ := ⟨fun b u e => upd_ne' hI e, [], by simp⟩
      refine h ⟨upd W1.I p (.lst vs), W1.φ⟩ H1 ⟨e1.I.trans le.I, e1.φ, e1.fr, e1.al, fun b u e => ?_⟩ ⟨fun b u e => ?_, rm1.len, rm1.nd, rm1.al, fun i a c q1 q2 q3 => ?_, fun i a c q1 q2 q3 => ?_⟩ _ (.lst upd_same (r.mono le))
      · by_cases hb : b = p
        · subst hb; exact .inr (.inl h0)
        · have e' : upd W1.I p (.lst vs) b = some u := e
          rw [upd_ne hb] at e'; exact e1.nw b u e'
      · by_cases hb : b = p
        · subst hb
          have e' : upd W1.I b (.lst vs) b = some u := e
          rw [upd_same] at e'; rw [hp]; exact e'
        · have e' : upd W1.I p (.lst vs) b = some u := e
          rw [upd_ne hb] at e'; exact rm1.sub b u e'
      · obtain ⟨u, e, q⟩ := rm1.obj i a c q1 q2 q3
        exact ⟨u, e, q.mono le⟩
      · have : a ≠ p := fun z => hφ (z ▸ List.mem_of_getElem? q1)
        show upd W1.I p _ a = none
        rw [upd_ne this]; exact rm1.off i a c q1 q2 q3
    | exn c m1 => exact h
    | bad => exact h⟩
/-- a new list that will be changed -/
theorem new_imp {σ : L2.St} {H : Hp} {Q : VK} (h : tE X.K X.mg EX (sNew ds) σ H Q) : tL X.K X.mg EX ds σ H Q :=
  let ⟨W, ρ, m, rs, rm, h⟩ := h; ⟨W, ρ, m, rs, rm, by
    unfold sNew at h
    generalize ds ρ m = r at h ⊢
    cases r with
    | ok xs m1 =>
      intro W1 H1 e1 rm1 p vs h0 hφ hI hp r
      obtain ⟨le, rm2⟩ := adopt (c := .lst xs) rm1 hp hI hφ ⟨vs, rfl, r⟩
      obtain ⟨ψ, eψ, nψ⟩ := e1.φ
      have e2 : Ex W H ⟨W1.I, W1.φ ++ [p]⟩ H1 := ⟨e1.I, ⟨ψ ++ [p], by rw [eψ, List.append_assoc], fun a ha => by
        rcases List.mem_append.mp ha with z | z
        · exact nψ a z
        · simp at z; subst z; exact h0⟩, e1.fr, e1.al, e1.nw⟩
      exact h _ _ e2 rm2 _ (.ref (by rw [← rm1.len]; simp))
    | exn c m1 => exact h
    | bad => exact h⟩

theorem de_frz (h : DL X EX e ds) : DE X EX e (sFrz ds) := PE.imp h fun _ _ _ => frz_imp
theorem de_new (h : DL X EX e ds) : DE X EX e (sNew ds) := PE.imp h fun _ _ _ => new_imp

/-! ### lists and tuples that are read -/
def asSeq : D → M → Option (List D)
  | .tup xs, _ => some xs
  | .lst xs, _ => some xs
  | .frz xs, _ => some xs
  | .ref n, m => match m[n]? with
    | some (.lst xs) => some xs
    | _ => none
  | _, _ => none
def asList : D → M → Option (List D)
  | .lst xs, _ => some xs
  | .frz xs, _ => some xs
  | .ref n, m => match m[n]? with
    | some (.lst xs) => some xs
    | _ => none
  | _, _ => none
/-- a list that is tracked as one -/
def asLst : D → M → Option (List D)
  | .lst xs, _ => some xs
  | .ref n, m => match m[n]? with
    | some (.lst xs) => some xs
    | _ => none
  | _, _ => none
theorem list_of {W : Wd} {H : Hp} {m : M} {v : V} {x : D} {xs : List D} (rm : RM X.K X.mg W H m) (r : RD X.K W v x) (h : asList x m = some xs) : ∃ a vs, v = .ref a ∧ SqL X.K H a vs ∧ RDs X.K W vs xs := by
  cases r with
  | lst q r => cases h; exact ⟨_, _, rfl, .inl (.inl (rm.sub _ _ q)), r⟩
  | frz q r => cases h; exact ⟨_, _, rfl, rm.sub.seq q, r⟩
  | ref q =>
    dsimp only [asList] at h
    split at h
    · rename_i ys hy
      cases h
      obtain ⟨o, ho, ⟨vs, rfl, r⟩, _⟩ := rm.get q hy (by simp)
      exact ⟨_, _, rfl, .inl (.inl ho), r⟩
    · cases h
  | _ => cases h
theorem lst_of {W : Wd} {H : Hp} {m : M} {v : V} {x : D} {xs : List D} (rm : RM X.K X.mg W H m) (r : RD X.K W v x) (h : asLst x m = some xs) : ∃ a vs, v = .ref a ∧ H a = some (.lst vs) ∧ RDs X.K W vs xs := by
  cases r with
  | lst q r => cases h; exact ⟨_, _, rfl, rm.sub _ _ q, r⟩
  | ref q =>
    dsimp only [asLst] at h
    split at h
    · rename_i ys hy
      cases h
      obtain ⟨o, ho, ⟨vs, rfl, r⟩, _⟩ := rm.get q hy (by simp)
      exact ⟨_, _, rfl, ho, r⟩
    · cases h
  | _ => cases h
theorem seq_of {W : Wd} {H : Hp} {m : M} {v : V} {x : D} {xs : List D} (rm : RM X.K X.mg W H m) (r : RD X.K W v x) (h : asSeq x m = some xs) : ∃ a vs, v = .ref a ∧ (SqL X.K H a vs ∨ SqT X.K H a vs) ∧ RDs X.K W vs xs := by
  cases r with
  | tup q n r => cases h; exact ⟨_, _, rfl, .inr (same_T rm.sub q), r⟩
  | lst q r => cases h; exact ⟨_, _, rfl, .inl (.inl (.inl (rm.sub _ _ q))), r⟩
  | frz q r => cases h; exact ⟨_, _, rfl, .inl (rm.sub.seq q), r⟩
  | ref q =>
    dsimp only [asSeq] at h
    split at h
    · rename_i ys hy
      cases h
      obtain ⟨o, ho, ⟨vs, rfl, r⟩, _⟩ := rm.get q hy (by simp)
      exact ⟨_, _, rfl, .inl (.inl (.inl ho)), r⟩
    · cases h
  | _ => cases h

/-! ### subscripts -/
theorem atI_len {α β : Type} {xs : List α} {ys : List β} (h : xs.length = ys.length) {i : Int} : (atI xs i = none ↔ atI ys i = none) := by
  unfold atI
  rw [h]
  cases q : ixN ys.length i with
  | none => simp
  | some j => simp [h]
theorem atI_rel {K : PySem.W.Frag} {W : Wd} {vs : List V} {ds : List D} (r : RDs K W vs ds) {i : Int} {d : D} (h : atI ds i = some d) : ∃ v, atI vs i = some v ∧ RD K W v d := by
  unfold atI at h ⊢
  rw [r.length]
  cases q : ixN ds.length i with
  | none => rw [q] at h; cases h
  | some j =>
    rw [q] at h
    exact r.get h
def gIx : G2 := fun x y m => match x, y with
  | .str z, .int i => if z.length ≤ big then match atI z.cps.toList i with
    | some c => .ok (.str ⟨#[c]⟩) m
    | none => .bad
    else .bad
  | x, .int i => match asSeq x m with
    | some xs => match atI xs i with
      | some d => .ok d m
      | none => .bad
    | none => .bad
  | _, _ => .bad
theorem gIx_ok {W : Wd} {H : Hp} {m : M} {vx vy : V} {x y : D} {Q : VK} (rm : RM X.K X.mg W H m) (rx : RD X.K W vx x) (ry : RD X.K W vy y) (hp : post X.K X.mg W H (gIx x y m) (fun z W' H' _ => ∀ v, RD X.K W' v z → Q v H') EX) : rIx X.K vx vy H Q := by
  unfold gIx at hp
  split at hp
  · rename_i z i
    cases rx; cases ry
    split at hp
    · split at hp
      · rename_i hz _ c hc
        exact .inr (.inr ⟨z, i, c, rfl, rfl, by rw [big_eq]; exact hz, hc, post_ok hp rm _ (.str _)⟩)
      · exact hp.elim
    · exact hp.elim
  · rename_i x' i _
    cases ry
    split at hp
    · rename_i xs hx
      split at hp
      · rename_i d hd
        obtain ⟨a, vs, rfl, hs, r⟩ := seq_of rm rx hx
        obtain ⟨v, hv, rv⟩ := atI_rel r hd
        rcases hs with hs | hs
        · exact .inl ⟨a, vs, i, v, rfl, rfl, hs, hv, post_ok hp rm _ rv⟩
        · exact .inr (.inl ⟨a, vs, i, v, rfl, rfl, hs, hv, post_ok hp rm _ rv⟩)
      · exact hp.elim
    · exact hp.elim
  · exact hp.elim
theorem de_ix (ha : DE X EX a da) (hb : DE X EX b db) (hs : PlainIx b := by exact fun _ _ => rfl) : DE X EX (.Subscript a b pos) (sBin gIx da db) :=
  PE.imp (pe_ix ix_seq ha hb hs) fun σ H Q h => two (ta := tE X.K X.mg EX da) (fun _ _ _ _ _ _ _ _ _ rm rx ry hp => gIx_ok rm rx ry hp) h

/-! ### slices -/
abbrev SO := En → M → R (Option Int)
def tO (K : PySem.W.Frag) (mg : Str → Option Value) (EX : Str → Hp → Prop) (d : SO) : TO := fun σ H Q => ∃ W ρ m, RS K W σ ρ ∧ RM K mg W H m ∧ post K mg W H (d ρ m) (fun o _ H' _ => Q o H') EX
def DO (X : Cx) (EX : Str → Hp → Prop) (e : Option Expr) (d : SO) : Prop := PO X e (tO X.K X.mg EX d)
def sNo : SO := fun _ m => .ok none m
def sSome (d : SE) : SO := fun ρ m => (d ρ m).bind fun x m => match x with
  | .int i => .ok (some i) m
  | _ => .bad
theorem PO.imp {e : Option Expr} {t t' : TO} (h : PO X e t) (hi : ∀ σ H Q, t' σ H Q → t σ H Q) : PO X e t' := ⟨fun pins s σ H Q I q => h.run pins s σ H Q I (hi σ H Q q)⟩
theorem do_none : DO X EX none sNo := PO.imp po_none fun σ H Q ⟨W, ρ, m, rs, rm, h⟩ => post_ok h rm
theorem do_some (h : DE X EX e d) : DO X EX (some e) (sSome d) :=
  PO.imp (po_some h) fun σ H Q ⟨W, ρ, m, rs, rm, h⟩ => ⟨W, ρ, m, rs, rm, post_mono (post_bind h) fun x W1 H1 m1 e1 rm1 h1 v rv => by
    cases x with
    | int i => cases rv; exact ⟨i, rfl, post_ok h1 rm1⟩
    | _ => exact h1.elim⟩
/-- xs[lo:hi] -/
def cutD (xs : List D) (lo hi : Option Int) : List D := (xs.drop (HT.sIx xs.length 0 lo)).take (HT.sIx xs.length xs.length hi - HT.sIx xs.length 0 lo)
theorem cut_rel {K : PySem.W.Frag} {W : Wd} {vs : List V} {ds : List D} (r : RDs K W vs ds) (lo hi : Option Int) : RDs K W (cutV vs lo hi) (cutD ds lo hi) := by
  unfold cutV cutD
  rw [r.length]
  exact (r.drop _).take _
def sCutL (da : SE) (dl dh : SO) : SA := fun ρ m => (da ρ m).bind fun x m => (dl ρ m).bind fun lo m => (dh ρ m).bind fun hi m => match asList x m with
  | some xs => .ok (cutD xs lo hi) m
  | none => .bad
theorem dl_cut {lo hi : Option Expr} {dl dh : SO} {p2 : Pos} (ha : DE X EX a da) (hl : DO X EX lo dl) (hh : DO X EX hi dh) : DL X EX (.Subscript a (.Slice lo hi none p2) pos) (sCutL da dl dh) :=
  PE.imp (pe_slice sl_list ha hl hh) fun σ H Q ⟨W, ρ, m, rs, rm, h⟩ => ⟨W, ρ, m, rs, rm, post_mono (post_bind h) fun x W1 H1 m1 e1 rm1 h1 v rv =>
    ⟨W1, ρ, m1, rs.mono e1.le, rm1, post_mono (post_bind h1) fun l W2 H2 m2 e2 rm2 h2 =>
      ⟨W2, ρ, m2, rs.mono (e1.trans e2).le, rm2, post_mono (post_bind h2) fun u W3 H3 m3 e3 rm3 h3 => by
        split at h3
        · rename_i xs hx
          obtain ⟨a, vs, rfl, hs, r⟩ := list_of rm3 (rv.mono (e2.trans e3).le) hx
          exact ⟨a, vs, rfl, hs, fun p hp => fresh_post ((e1.trans e2).trans e3) rm3 hp (cut_rel r l u) h3⟩
        · exact h3.elim⟩⟩⟩
/-- a tuple's slice, its object told -/
def rSlS (K : PySem.W.Frag) : V → Option Int → Option Int → Hp → VK → Prop := fun x lo hi H Q => ∃ a xs, x = .ref a ∧ SqT K H a xs ∧
  (HT.sIx xs.length 0 lo = 0 ∧ HT.sIx xs.length xs.length hi = xs.length → Q (.ref a) H) ∧
  (¬ (HT.sIx xs.length 0 lo = 0 ∧ HT.sIx xs.length xs.length hi = xs.length) → ∀ p o, H p = none → o.dict = none → Q (.ref p) (upd H p (.frz o (.tup (cutV xs lo hi)))))
theorem sl_tupS : SlR X (rSlS X.K) := by
  intro pins s σ H x v vl vu lo hi sl Q I rx hsl pl pu ⟨a, xs, hxa, hx, q1, q2⟩
  subst hxa
  cases rx
  obtain ⟨its, r, ht, hz⟩ := I.tuple hx
  have hlen : its.toArray.size = xs.length := by rw [List.size_toArray, ← r.length]
  refine ⟨"tuple", _, PyProof.Rows.slot_tuple_getitem.lookup, ht.typeIs, ?_⟩
  by_cases hw : HT.sIx xs.length 0 lo = 0 ∧ HT.sIx xs.length xs.length hi = xs.length
  · exact getItem_tuple_whole ht hsl pl pu (by rw [hlen]; exact hw) ⟨.ref _, H, I, rfl, q1 hw⟩
  · refine HT.getItem_tuple_cut ht hsl pl pu (by rw [hlen]; exact hw) ?_ (by rw [hlen]; exact hz)
    have r' : Vals (cutV xs lo hi) ((its.drop (HT.sIx its.toArray.size 0 lo)).take (HT.sIx its.toArray.size its.toArray.size hi - HT.sIx its.toArray.size 0 lo)) := by
      unfold cutV
      rw [hlen]
      exact Vals.take _ (Vals.drop _ r)
    have J := I.laid (o := .frz _ (.tup (cutV xs lo hi))) (t' := s.toks) (fun _ _ e => Heap.get?_push_of_some _ e) (Nat.le_refl _) ⟨Heap.get?_push_size _ rfl, Nat.le_trans (cutV_length xs lo hi) hz, _, r', IsTup.new _ _⟩
    exact ⟨.ref _, _, J, rfl, q2 hw _ _ I.fresh rfl⟩
def sCutT (da : SE) (dl dh : SO) : SE := fun ρ m => (da ρ m).bind fun x m => (dl ρ m).bind fun lo m => (dh ρ m).bind fun hi m => match x with
  | .tup xs => .ok (.tup (cutD xs lo hi)) m
  | _ => .bad
theorem cutD_whole {xs : List D} {lo hi : Option Int} (h : HT.sIx xs.length 0 lo = 0 ∧ HT.sIx xs.length xs.length hi = xs.length) : cutD xs lo hi = xs := by
  unfold cutD
  rw [h.1, h.2]
  simp
theorem de_cut {lo hi : Option Expr} {dl dh : SO} {p2 : Pos} (ha : DE X EX a da) (hl : DO X EX lo dl) (hh : DO X EX hi dh) : DE X EX (.Subscript a (.Slice lo hi none p2) pos) (sCutT da dl dh) :=
  PE.imp (pe_slice sl_tupS ha hl hh) fun σ H Q ⟨W, ρ, m, rs, rm, h⟩ => ⟨W, ρ, m, rs, rm, post_mono (post_bind h) fun x W1 H1 m1 e1 rm1 h1 v rv =>
    ⟨W1, ρ, m1, rs.mono e1.le, rm1, post_mono (post_bind h1) fun l W2 H2 m2 e2 rm2 h2 =>
      ⟨W2, ρ, m2, rs.mono (e1.trans e2).le, rm2, post_mono (post_bind h2) fun u W3 H3 m3 e3 rm3 h3 => by
        cases x with
        | tup xs =>
          have rv3 := rv.mono (e2.trans e3).le
          cases rv3 with
          | tup hT hN r =>
            refine ⟨_, _, rfl, same_T rm3.sub hT, fun hw => ?_, fun hw p o hp ho => ?_⟩
            · refine post_ok h3 rm3 _ ?_
              rw [cutD_whole (by rw [← r.length]; exact hw)]
              exact .tup hT hN r
            · obtain ⟨e4, rm4, r4⟩ := new_tup rm3 hp ho (cut_rel r l u)
              exact h3 _ _ e4 rm4 _ r4
        | _ => exact h3.elim⟩⟩⟩
/-- xs[::-1] of a list -/
def sRev (da : SE) : SA := fun ρ m => (da ρ m).bind fun x m => match asList x m with
  | some xs => .ok xs.reverse m
  | none => .bad
theorem dl_rev {k : Nat} {p1 p2 p3 : Pos} (ha : DE X EX a da) : DL X EX (.Subscript a (.Slice none none (some (.UnaryOp .USub (.Constant (.int 1) k p1) p2)) p3) pos) (sRev da) :=
  PE.imp (pe_revL ha) fun σ H Q ⟨W, ρ, m, rs, rm, h⟩ => ⟨W, ρ, m, rs, rm, post_mono (post_bind h) fun x W1 H1 m1 e1 rm1 h1 v rv => by
    split at h1
    · rename_i xs hx
      obtain ⟨a, vs, rfl, hs, r⟩ := list_of rm1 rv hx
      exact ⟨a, vs, rfl, hs, fun p hp => fresh_post e1 rm1 hp r.reverse h1⟩
    · exact h1.elim⟩

/-! ### + and * of lists and tuples -/
def sCatL (da db : SE) : SA := fun ρ m => (da ρ m).bind fun x m => (db ρ m).bind fun y m => match asLst x m, asLst y m with
  | some xs, some ys => if xs.length + ys.length ≤ big then .ok (xs ++ ys) m else .bad
  | _, _ => .bad
theorem dl_cat (ha : DE X EX a da) (hb : DE X EX b db) : DL X EX (.BinOp a .Add b pos) (sCatL da db) :=
  PE.imp (pe_op op_cat ha hb) fun σ H Q ⟨W, ρ, m, rs, rm, h⟩ => ⟨W, ρ, m, rs, rm, post_mono (post_bind h) fun x W1 H1 m1 e1 rm1 h1 v rv =>
    ⟨W1, ρ, m1, rs.mono e1.le, rm1, post_mono (post_bind h1) fun y W2 H2 m2 e2 rm2 h2 u ru => by
      split at h2
      · rename_i xs ys hx hy
        split at h2
        · rename_i hz
          obtain ⟨p, vs, rfl, h5, r5⟩ := lst_of rm2 (rv.mono e2.le) hx
          obtain ⟨q, us, rfl, h6, r6⟩ := lst_of rm2 ru hy
          exact ⟨p, q, vs, us, rfl, rfl, h5, h6, by rw [r5.length, r6.length, big_eq]; exact hz, fun l hl => fresh_post (e1.trans e2) rm2 hl (r5.append r6) h2⟩
        · exact h2.elim
      · exact h2.elim⟩⟩
def repD (xs : List D) (k : Int) : List D := (List.replicate k.toNat xs).flatten
def sRepL (da db : SE) : SA := fun ρ m => (da ρ m).bind fun x m => (db ρ m).bind fun y m => match asLst x m, y with
  | some xs, .int k => if (-(2 ^ 63) ≤ k ∧ k < 2 ^ 63) ∧ xs.length * k.toNat ≤ big then .ok (repD xs k) m else .bad
  | _, _ => .bad
theorem dl_rep (ha : DE X EX a da) (hb : DE X EX b db) : DL X EX (.BinOp a .Mult b pos) (sRepL da db) :=
  PE.imp (pe_op op_rep ha hb) fun σ H Q ⟨W, ρ, m, rs, rm, h⟩ => ⟨W, ρ, m, rs, rm, post_mono (post_bind h) fun x W1 H1 m1 e1 rm1 h1 v rv =>
    ⟨W1, ρ, m1, rs.mono e1.le, rm1, post_mono (post_bind h1) fun y W2 H2 m2 e2 rm2 h2 u ru => by
      split at h2
      · rename_i xs k hx
        split at h2
        · rename_i hz
          obtain ⟨p, vs, rfl, h5, r5⟩ := lst_of rm2 (rv.mono e2.le) hx
          cases ru
          exact ⟨p, k, vs, rfl, rfl, h5, hz.1.1, hz.1.2, by rw [r5.length, big_eq]; exact hz.2, fun l hl => fresh_post (e1.trans e2) rm2 hl (r5.rep _) h2⟩
        · exact h2.elim
      · exact h2.elim⟩⟩
end
section
variable {X : Cx}
/-- t + u, the new object told -/
def rCatS (K : PySem.W.Frag) : R2 := fun x y H Q => ∃ a b xs ys, x = .ref a ∧ y = .ref b ∧ SqT K H a xs ∧ SqT K H b ys ∧ xs.length + ys.length ≤ sizeLine ∧
  (xs = [] → Q (.ref b) H) ∧ (xs ≠ [] → ys = [] → Q (.ref a) H) ∧ (xs ≠ [] → ys ≠ [] → ∀ p o, H p = none → o.dict = none → Q (.ref p) (upd H p (.frz o (.tup (xs ++ ys)))))
theorem op_catS : OpR X (binaryOp .Add) (rCatS X.K) := by
  intro pins s σ H x y v u Q I rx ry ⟨a, b, xs, ys, hxa, hyb, ha, hb, hz, q0, q1, q2⟩
  subst hxa; subst hyb
  cases rx; cases ry
  obtain ⟨its, r1, p1, z1⟩ := I.tuple ha
  obtain ⟨jts, r2, p2, z2⟩ := I.tuple hb
  by_cases hx : xs = []
  · subst hx
    cases r1
    exact cat_tup0 p1 p2 ⟨.ref _, H, I, rfl, q0 rfl⟩
  · have hi : its ≠ [] := fun e => hx (r1.nil_iff.mp e)
    refine HT.cat_tup p1 p2 hi (fun e => ⟨.ref _, H, I, rfl, q1 hx (r2.nil_iff.mp e)⟩) (fun e => ?_) (by rw [← r1.length, ← r2.length]; exact hz)
    have J := I.laid (o := .frz _ (.tup (xs ++ ys))) (t' := s.toks) (fun _ _ e => Heap.get?_push_of_some _ e) (Nat.le_refl _) ⟨Heap.get?_push_size _ rfl, by rw [List.length_append]; exact hz, _, r1.append r2, IsTup.new _ _⟩
    exact ⟨.ref _, _, J, rfl, q2 hx (fun z => e (r2.nil_iff.mpr z)) _ _ I.fresh rfl⟩
def gCatT : G2 := fun x y m => match x, y with
  | .tup xs, .tup ys => if xs.length + ys.length ≤ big then .ok (.tup (xs ++ ys)) m else .bad
  | _, _ => .bad
theorem o_catT : Op2 X (binaryOp .Add) gCatT := ⟨_, op_catS, fun EX W H m vx vy x y Q rm rx ry hp => by
  unfold gCatT at hp
  split at hp
  · rename_i xs ys
    split at hp
    · rename_i hz
      cases rx with
      | tup h1 n1 r1 =>
        cases ry with
        | tup h2 n2 r2 =>
          refine ⟨_, _, _, _, rfl, rfl, same_T rm.sub h1, same_T rm.sub h2, by rw [r1.length, r2.length, big_eq]; exact hz, fun e => ?_, fun e1 e => ?_, fun e1 e2 p o hp' ho => ?_⟩
          · subst e; cases r1
            exact post_ok hp rm _ (.tup h2 n2 r2)
          · subst e; cases r2
            exact post_ok hp rm _ (by rw [List.append_nil]; exact .tup h1 n1 r1)
          · obtain ⟨e4, rm4, r4⟩ := new_tup rm hp' ho (r1.append r2)
            exact hp _ _ e4 rm4 _ r4
    · exact hp.elim
  · exact hp.elim⟩
/-- texts -/
def gCatS : G2 := fun x y m => match x, y with
  | .str i, .str j => if i.length + j.length ≤ big then .ok (.str (i ++ j)) m else .bad
  | _, _ => .bad
theorem o_catS : Op2 X (binaryOp .Add) gCatS := ⟨_, op_add_str, fun EX W H m vx vy x y Q rm rx ry hp => by
  unfold gCatS at hp
  split at hp
  · split at hp
    · rename_i hz
      cases rx; cases ry
      exact ⟨_, _, rfl, rfl, by rw [big_eq]; exact hz, post_ok hp rm _ (.str _)⟩
    · exact hp.elim
  · exact hp.elim⟩
theorem tuple_mul_same (l : Addr) (items : Array Value) (n : Nat) (sl : Array (Option Value)) (dd : Option Addr) (x : Int) (u : Tok) (c0 : (decide (x < -(2 ^ 63)) || decide (x ≥ 2 ^ 63)) = false) (c1 : (items.isEmpty || x == 1) = true) :
    Meets (Builtin.«tuple.__mul__» ⟨[.ref l, .int x u], []⟩) (fun _ R s => s.heap.get? l = some { cls := .type "tuple", dict := dd, data := .seq items n, slots := sl } ∧ R (.ok (.ret (.ref l))) s) :=
  .of_wp fun prog w A R s h => by
    obtain ⟨hp, g, d, tk, os⟩ := s
    obtain ⟨hl, h⟩ := h
    have f1 := AutoSeq1.idx_int
    have hT : Shared.TypeIs ⟨hp, g, d, tk, os⟩ (.ref l) "tuple" := ⟨_, hl, rfl⟩
    wp_walk using wpAny_loadPart' hl, wpAny_typeOf hT
    repeat (first
      | (refine wpAny_ite_false (decide_eq_false (by rw [c0]; exact Bool.false_ne_true)) ?_; wp_walk using wpAny_loadPart' hl, wpAny_typeOf hT)
      | (refine wpAny_ite_true (by rw [c1]; rfl) ?_; wp_walk using wpAny_loadPart' hl, wpAny_typeOf hT))
    exact ⟨_, rfl, h⟩
theorem tuple_mul_none (l : Addr) (items : Array Value) (n : Nat) (sl : Array (Option Value)) (dd : Option Addr) (x : Int) (u : Tok) (c0 : (decide (x < -(2 ^ 63)) || decide (x ≥ 2 ^ 63)) = false) (c1 : (items.isEmpty || x == 1) = false)
    (c2 : (decide (x ≤ 0) || items.isEmpty) = true) :
    Meets (Builtin.«tuple.__mul__» ⟨[.ref l, .int x u], []⟩) (fun _ R s => s.heap.get? l = some { cls := .type "tuple", dict := dd, data := .seq items n, slots := sl } ∧
      R (.ok (.ret (.ref s.heap.objs.size))) { s with heap := s.heap.push { cls := .type "tuple", data := .seq #[] }, toks := s.toks }) :=
  .of_wp fun prog w A R s h => by
    obtain ⟨hp, g, d, tk, os⟩ := s
    obtain ⟨hl, h⟩ := h
    have f1 := AutoSeq1.idx_int
    have hT : Shared.TypeIs ⟨hp, g, d, tk, os⟩ (.ref l) "tuple" := ⟨_, hl, rfl⟩
    wp_walk using wpAny_loadPart' hl, wpAny_typeOf hT
    repeat (first
      | (refine wpAny_ite_false (decide_eq_false (by rw [c0]; exact Bool.false_ne_true)) ?_; wp_walk using wpAny_loadPart' hl, wpAny_typeOf hT)
      | (refine wpAny_ite_false (decide_eq_false (by rw [c1]; exact Bool.false_ne_true)) ?_; wp_walk using wpAny_loadPart' hl, wpAny_typeOf hT)
      | (refine wpAny_ite_true (by rw [c2]; rfl) ?_; wp_walk using wpAny_loadPart' hl, wpAny_typeOf hT))
    exact ⟨_, rfl, h⟩
/-- t * k -/
def rRepS (K : PySem.W.Frag) : R2 := fun x y H Q => ∃ l k xs, x = .ref l ∧ y = .int k ∧ SqT K H l xs ∧ (-(2 ^ 63) ≤ k ∧ k < 2 ^ 63) ∧ xs.length * k.toNat ≤ sizeLine ∧
  ((xs = [] ∨ k = 1) → Q (.ref l) H) ∧ (¬ (xs = [] ∨ k = 1) → ∀ p o, H p = none → o.dict = none → Q (.ref p) (upd H p (.frz o (.tup (List.replicate k.toNat xs).flatten))))
theorem op_repS : OpR X (binaryOp .Mult) (rRepS X.K) := by
  intro pins s σ H x y v u Q I rx ry ⟨l, k, xs, hxa, hyk, hT, ⟨b1, b2⟩, hz, q1, q2⟩
  subst hxa; subst hyk
  cases rx
  obtain ⟨t, rfl⟩ := ry
  obtain ⟨its, r, ⟨⟨cls, dd, data, sl⟩, ho, hc, n, hd⟩, hs⟩ := I.tuple hT
  simp only at hc hd
  subst hc hd
  have hle : its.toArray.size = xs.length := by rw [List.size_toArray, ← r.length]
  have c0 : (decide (k < -(2 ^ 63)) || decide (k ≥ 2 ^ 63)) = false := by
    rw [decide_eq_false (by omega), decide_eq_false (by omega)]; rfl
  have ty := fun s' => typeIs_int s' k t
  have road := fun {Q' : Value → Shared → Prop} (hc : wpAny (model X.prog X.w) X.A (call (.builtin "tuple.__mul__") [.ref l, .int k t]) Q' X.xe s) =>
    wpAny_binaryOp_repeat_ref (s := s) (A := X.A) (E := X.xe) (M := model X.prog X.w) (a := .ref l) (n := .int k t) (T := "tuple") (U := "int") (Q := Q') (by decide) ⟨_, ho, rfl⟩ ty noFill_tuple_mul F.fills_int_mul F.slot_int_rmul repeat_tuple F.slot_int_index.lookup
      (call_meets F.slot_int_rmul (ty s) F.entry_int_rmul (F.args_int_rmul_2 _ _) (int_rmul_tuple k t l its.toArray n dd sl) ⟨ho, rfl, ⟨_, ho, rfl⟩, hc⟩)
  have emp : its.toArray.isEmpty = xs.isEmpty := by
    cases r <;> rfl
  by_cases h1 : xs = [] ∨ k = 1
  · refine road (call_meets F.slot_tuple_mul ⟨_, ho, rfl⟩ F.entry_tuple_mul (F.args_tuple_mul_2 _ _) (tuple_mul_same l its.toArray n sl dd k t c0 ?_) ⟨ho, .ref _, H, I, rfl, q1 h1⟩)
    rw [emp]
    rcases h1 with h1 | h1
    · subst h1; rfl
    · subst h1; simp
  · have c1 : (its.toArray.isEmpty || k == 1) = false := by
      rw [emp]
      cases xs with
      | nil => exact absurd (.inl rfl) h1
      | cons a b => simpa using fun e => h1 (.inr e)
    have q2 := q2 h1
    by_cases h2 : k ≤ 0
    · have e0 : k.toNat = 0 := by omega
      refine road (call_meets F.slot_tuple_mul ⟨_, ho, rfl⟩ F.entry_tuple_mul (F.args_tuple_mul_2 _ _) (tuple_mul_none l its.toArray n sl dd k t c0 c1 (by rw [decide_eq_true h2]; rfl)) ⟨ho, ?_⟩)
      rw [e0] at q2
      have J := I.laid (o := .frz _ (.tup [])) (t' := s.toks) (fun _ _ e => Heap.get?_push_of_some _ e) (Nat.le_refl _) ⟨Heap.get?_push_size _ rfl, Nat.zero_le _, [], .nil, IsTup.new _ _⟩
      exact ⟨.ref _, _, J, rfl, q2 _ _ I.fresh rfl⟩
    · have c2 : (decide (k ≤ 0) || its.toArray.isEmpty) = false := by
        rw [decide_eq_false h2, Bool.false_or]
        exact (Bool.or_eq_false_iff.mp c1).1
      have hsz : ((its.toArray.size : Nat) : Int) * k = ((xs.length * k.toNat : Nat) : Int) := by
        rw [hle, Int.natCast_mul, Int.toNat_of_nonneg (by omega)]
      have hz' : xs.length * k.toNat ≤ 16777216 := by rw [← sizeLine_eq]; exact hz
      have flen : (List.replicate k.toNat its).flatten.length ≤ sizeLine := by
        rw [PyProof.Rows.lm_len_rep_flat, ← r.length, Nat.mul_comm]; exact hz
      refine road (call_meets F.slot_tuple_mul ⟨_, ho, rfl⟩ F.entry_tuple_mul (F.args_tuple_mul_2 _ _) (tuple_mulW l its.toArray n dd sl k t c0 c1 c2 ?_ ?_ (by rw [size_rep, List.size_toArray]; exact flen)) ⟨ho, ?_⟩)
      · rw [hsz]; omega
      · unfold Builtin.Tuple.tupleTooMany
        rw [sizeLine_eq, hsz]
        exact decide_eq_false (by omega)
      · rw [size_rep]
        have J := I.laid (o := .frz _ (.tup (List.replicate k.toNat xs).flatten)) (t' := s.toks) (fun _ _ e => Heap.get?_push_of_some _ e) (Nat.le_refl _)
          ⟨Heap.get?_push_size _ rfl, by rw [PyProof.Rows.lm_len_rep_flat, Nat.mul_comm]; exact hz, _, r.rep k.toNat, IsTup.new _ _⟩
        exact ⟨.ref _, _, J, rfl, q2 _ _ I.fresh rfl⟩
def gRepT : G2 := fun x y m => match x, y with
  | .tup xs, .int k => if (-(2 ^ 63) ≤ k ∧ k < 2 ^ 63) ∧ xs.length * k.toNat ≤ big then .ok (.tup (repD xs k)) m else .bad
  | _, _ => .bad
theorem o_repT : Op2 X (binaryOp .Mult) gRepT := ⟨_, op_repS, fun EX W H m vx vy x y Q rm rx ry hp => by
  unfold gRepT at hp
  split at hp
  · rename_i xs k
    split at hp
    · rename_i hz
      cases ry
      cases rx with
      | tup h1 n1 r1 =>
        refine ⟨_, k, _, rfl, rfl, same_T rm.sub h1, hz.1, by rw [r1.length, big_eq]; exact hz.2, fun e => ?_, fun _ p o hp' ho => ?_⟩
        · refine post_ok hp rm _ ?_
          have : repD xs k = xs := by
            unfold repD
            rcases e with e | e
            · subst e; cases r1; simp
            · subst e; simp
          rw [this]
          exact .tup h1 n1 r1
        · obtain ⟨e4, rm4, r4⟩ := new_tup rm hp' ho (r1.rep k.toNat)
          exact hp _ _ e4 rm4 _ r4
    · exact hp.elim
  · exact hp.elim⟩
end
end Vi

set_option Elab.async false
set_option linter.all false
set_option maxRecDepth 100000
set_option maxHeartbeats 4000000
namespace Vi
open PySem PySem.Spec PyProof.Rows L2

/-! ### statements -/
inductive O where
  | nx (ρ : En) (m : M) | bk (ρ : En) (m : M) | ct (ρ : En) (m : M) | rt (x : D) (m : M) | exn (c : Str) (m : M) | bad
abbrev SS := En → M → O
def postS (K : PySem.W.Frag) (mg : Str → Option Value) (W : Wd) (H : Hp) (o : O) (Dn : Ends) (EX : Str → Hp → Prop) : Prop :=
  match o with
  | .nx ρ m => ∀ W' H' σ, Ex W H W' H' → RM K mg W' H' m → RS K W' σ ρ → Dn.nx σ H'
  | .bk ρ m => ∀ W' H' σ, Ex W H W' H' → RM K mg W' H' m → RS K W' σ ρ → Dn.bk σ H'
  | .ct ρ m => ∀ W' H' σ, Ex W H W' H' → RM K mg W' H' m → RS K W' σ ρ → Dn.ct σ H'
  | .rt x m => ∀ W' H' v, Ex W H W' H' → RM K mg W' H' m → RD K W' v x → Dn.rt v H'
  | .exn c m => ∀ W' H', Ex W H W' H' → RM K mg W' H' m → EX c H'
  | .bad => False
def tS (K : PySem.W.Frag) (mg : Str → Option Value) (EX : Str → Hp → Prop) (d : SS) : TS := fun Dn σ H => ∃ W ρ m, RS K W σ ρ ∧ RM K mg W H m ∧ postS K mg W H (d ρ m) Dn EX
abbrev DS (X : Cx) (EX : Str → Hp → Prop) (s : Stmt) (d : SS) : Prop := PS X s (tS X.K X.mg EX d)
abbrev DSs (X : Cx) (EX : Str → Hp → Prop) (s : List Stmt) (d : SS) : Prop := PSs X s (tS X.K X.mg EX d)
def O.then (o : O) (f : En → M → O) : O := match o with
  | .nx ρ m => f ρ m
  | o => o
def R.toO {α : Type} (r : R α) (f : α → M → O) : O := match r with
  | .ok x m => f x m
  | .exn c m => .exn c m
  | .bad => .bad
@[simp] theorem toO_ok {α : Type} (x : α) (m : M) (f : α → M → O) : (R.ok x m).toO f = f x m := rfl
@[simp] theorem toO_exn {α : Type} (c : Str) (m : M) (f : α → M → O) : (R.exn c m : R α).toO f = .exn c m := rfl
@[simp] theorem toO_bad {α : Type} (f : α → M → O) : (R.bad : R α).toO f = .bad := rfl
@[simp] theorem then_nx (ρ : En) (m : M) (f : En → M → O) : (O.nx ρ m).then f = f ρ m := rfl
@[simp] theorem then_rt (x : D) (m : M) (f : En → M → O) : (O.rt x m).then f = .rt x m := rfl
@[simp] theorem then_bk (ρ : En) (m : M) (f : En → M → O) : (O.bk ρ m).then f = .bk ρ m := rfl
@[simp] theorem then_ct (ρ : En) (m : M) (f : En → M → O) : (O.ct ρ m).then f = .ct ρ m := rfl
@[simp] theorem then_exn (c : Str) (m : M) (f : En → M → O) : (O.exn c m).then f = .exn c m := rfl
section
variable {K : PySem.W.Frag} {mg : Str → Option Value} {W W1 : Wd} {H H1 : Hp} {EX : Str → Hp → Prop} {Dn : Ends} {α : Type}
theorem postS_shift {o : O} (h : postS K mg W H o Dn EX) (e : Ex W H W1 H1) : postS K mg W1 H1 o Dn EX := by
  cases o with
  | nx ρ m => exact fun W2 H2 σ e2 => h W2 H2 σ (e.trans e2)
  | bk ρ m => exact fun W2 H2 σ e2 => h W2 H2 σ (e.trans e2)
  | ct ρ m => exact fun W2 H2 σ e2 => h W2 H2 σ (e.trans e2)
  | rt x m => exact fun W2 H2 v e2 => h W2 H2 v (e.trans e2)
  | exn c m => exact fun W2 H2 e2 => h W2 H2 (e.trans e2)
  | bad => exact h
theorem post_toO {r : R α} {f : α → M → O} (h : postS K mg W H (r.toO f) Dn EX) : post K mg W H r (fun x W1 H1 m1 => postS K mg W1 H1 (f x m1) Dn EX) EX := by
  cases r with
  | ok x m => exact fun W1 H1 e rm => postS_shift h e
  | exn c m => exact h
  | bad => exact h
theorem postS_then {o : O} {f : En → M → O} (h : postS K mg W H (o.then f) Dn EX) :
    postS K mg W H o { Dn with nx := fun σ H' => ∃ W1 ρ m, RS K W1 σ ρ ∧ RM K mg W1 H' m ∧ postS K mg W1 H' (f ρ m) Dn EX } EX := by
  cases o with
  | nx ρ m => exact fun W1 H1 σ e rm rs => ⟨W1, ρ, m, rs, rm, postS_shift h e⟩
  | bk ρ m => exact h
  | ct ρ m => exact h
  | rt x m => exact h
  | exn c m => exact h
  | bad => exact h
end
def sPass : SS := fun ρ m => .nx ρ m
def sBreak : SS := fun ρ m => .bk ρ m
def sCont : SS := fun ρ m => .ct ρ m
def sSeq (a b : SS) : SS := fun ρ m => (a ρ m).then b
def sDrop (d : SE) : SS := fun ρ m => (d ρ m).toO fun _ m => .nx ρ m
def sRet (d : SE) : SS := fun ρ m => (d ρ m).toO fun x m => .rt x m
def sRetN : SS := fun _ m => .rt .non m
def sIfS (t : SB) (a b : SS) : SS := fun ρ m => (t ρ m).toO fun k m => if k = true then a ρ m else b ρ m
section
variable {X : Cx} {EX : Str → Hp → Prop} {st : Stmt} {rest : List Stmt} {a b : SS} {e : Expr} {d : SE} {pos : Pos} {t : SB}
theorem dss_nil : DSs X EX [] sPass := PSs.imp pss_nil fun D σ H ⟨W, ρ, m, rs, rm, h⟩ => h W H σ Ex.refl rm rs
theorem dss_one (h : DS X EX st a) : DSs X EX [st] a := pss_one h
theorem dss_cons (h : DS X EX st a) (hr : DSs X EX rest b) : DSs X EX (st :: rest) (sSeq a b) :=
  PSs.imp (pss_cons h hr) fun D σ H ⟨W, ρ, m, rs, rm, h⟩ => ⟨W, ρ, m, rs, rm, postS_then h⟩
theorem ds_pass : DS X EX (.Pass pos) sPass := PS.imp ps_pass fun D σ H ⟨W, ρ, m, rs, rm, h⟩ => h W H σ Ex.refl rm rs
theorem ds_break : DS X EX (.Break pos) sBreak := PS.imp ps_break fun D σ H ⟨W, ρ, m, rs, rm, h⟩ => h W H σ Ex.refl rm rs
theorem ds_continue : DS X EX (.Continue pos) sCont := PS.imp ps_continue fun D σ H ⟨W, ρ, m, rs, rm, h⟩ => h W H σ Ex.refl rm rs
theorem ds_doc {x j pos pos'} : DS X EX (.Expr (.Constant (.str x) j pos) pos') sPass := PS.imp ps_doc fun D σ H ⟨W, ρ, m, rs, rm, h⟩ => h W H σ Ex.refl rm rs
theorem ds_expr (he : DE X EX e d) (hs : swapsWith e none pos.line X.env = pure false := by rfl) : DS X EX (.Expr e pos) (sDrop d) :=
  PS.imp (ps_expr he hs) fun D σ H ⟨W, ρ, m, rs, rm, h⟩ => ⟨W, ρ, m, rs, rm, post_mono (post_toO h) fun x W1 H1 m1 e1 rm1 h1 v rv => h1 W1 H1 σ Ex.refl rm1 (rs.mono e1.le)⟩
theorem ds_ret (he : DE X EX e d) : DS X EX (.Return (some e) pos) (sRet d) :=
  PS.imp (ps_ret he) fun D σ H ⟨W, ρ, m, rs, rm, h⟩ => ⟨W, ρ, m, rs, rm, post_mono (post_toO h) fun x W1 H1 m1 e1 rm1 h1 v rv => h1 W1 H1 v Ex.refl rm1 rv⟩
theorem ds_retN : DS X EX (.Return none pos) sRetN := PS.imp ps_retN fun D σ H ⟨W, ρ, m, rs, rm, h⟩ => h W H _ Ex.refl rm .non
theorem ds_if {c : Expr} {xs ys : List Stmt} (hc : DT X EX c t) (ha : DSs X EX xs a) (hb : DSs X EX ys b) : DS X EX (.If c xs ys pos) (sIfS t a b) :=
  PS.imp (ps_if hc ha hb) fun D σ H ⟨W, ρ, m, rs, rm, h⟩ => ⟨W, ρ, m, rs, rm, post_mono (post_toO h) fun k W1 H1 m1 e1 rm1 h1 => by
    cases k with
    | true => exact ⟨W1, ρ, m1, rs.mono e1.le, rm1, h1⟩
    | false => exact ⟨W1, ρ, m1, rs.mono e1.le, rm1, h1⟩⟩
/-- a statement that is never come to -/
def sNever : SS := fun _ _ => .bad
theorem ds_never : DS X EX st sNever := PS.imp ps_never fun D σ H ⟨W, ρ, m, rs, rm, h⟩ => h.elim
end

/-! ### targets -/
abbrev SG := D → En → M → R En
abbrev SGs := List D → En → M → R En
/-- a value; a value or a tuple of values, whatever its object -/
def RW (K : PySem.W.Frag) (W : Wd) (v : V) (x : D) : Prop := RD K W v x ∨ ∃ a xs ds, v = .ref a ∧ x = .tup ds ∧ SqT K W.I a xs ∧ RDs K W xs ds
abbrev RelT := PySem.W.Frag → Wd → V → D → Prop
def tG (K : PySem.W.Frag) (mg : Str → Option Value) (EX : Str → Hp → Prop) (Rl : RelT) (g : SG) : TG := fun v σ H Q => ∃ W ρ m x, RS K W σ ρ ∧ RM K mg W H m ∧ Rl K W v x ∧ post K mg W H (g x ρ m) (fun ρ' W' H' _ => ∀ σ', RS K W' σ' ρ' → Q σ' H') EX
def tGs (K : PySem.W.Frag) (mg : Str → Option Value) (EX : Str → Hp → Prop) (g : SGs) : TGs := fun vs σ H Q => ∃ W ρ m xs, RS K W σ ρ ∧ RM K mg W H m ∧ RDs K W vs xs ∧ post K mg W H (g xs ρ m) (fun ρ' W' H' _ => ∀ σ', RS K W' σ' ρ' → Q σ' H') EX
abbrev DG (X : Cx) (EX : Str → Hp → Prop) (Rl : RelT) (tg : Expr) (g : SG) : Prop := PG X tg (tG X.K X.mg EX Rl g)
abbrev DGs (X : Cx) (EX : Str → Hp → Prop) (tg : List Expr) (g : SGs) : Prop := PGs X tg (tGs X.K X.mg EX g)
theorem PG.imp {X : Cx} {e : Expr} {t t' : TG} (h : PG X e t) (hi : ∀ v σ H Q, t' v σ H Q → t v σ H Q) : PG X e t' := ⟨fun pins s σ H v u Q I r q => h.run pins s σ H v u Q I r (hi v σ H Q q)⟩
theorem PGs.imp {X : Cx} {e : List Expr} {t t' : TGs} (h : PGs X e t) (hi : ∀ v σ H Q, t' v σ H Q → t v σ H Q) : PGs X e t' := ⟨fun pins s σ H v u Q I r q => h.run pins s σ H v u Q I r (hi v σ H Q q)⟩
def gNm (i : Nat) : SG := fun x ρ m => .ok (ρ.set i (some x)) m
def gsNil : SGs := fun xs ρ m => match xs with
  | [] => .ok ρ m
  | _ => .bad
def gsCons (g : SG) (gs : SGs) : SGs := fun xs ρ m => match xs with
  | x :: xs => (g x ρ m).bind fun ρ m => gs xs ρ m
  | [] => .bad
def gTp (n : Nat) (gs : SGs) : SG := fun x ρ m => match x with
  | .tup xs => if xs.length = n then gs xs ρ m else .bad
  | _ => .bad
/-- o[i] = x of a list -/
def setIt (o i x : D) (m : M) : R Unit := match o, i with
  | .ref n, .int k => match m[n]? with
    | some (.lst xs) => match ixN xs.length k with
      | some j => .ok () (m.set n (.lst (xs.set j x)))
      | none => .bad
    | _ => .bad
  | _, _ => .bad
def gSb (do_ di : SE) : SG := fun x ρ m => (do_ ρ m).bind fun o m => (di ρ m).bind fun i m => (setIt o i x m).bind fun _ m => .ok ρ m
section
variable {X : Cx} {EX : Str → Hp → Prop} {pos : Pos} {tg e o i : Expr} {es : List Expr} {g : SG} {gs : SGs} {do_ di d : SE}
theorem dg_name {j : Nat} {x : Str} (hN : X.N.Nodup) (hi : X.N[j]? = some x := by rfl) (hx : Loc X.env.scope x := by first | exact .inl rfl | exact .inr rfl) (hf : X.fn x = true ∨ X.env.scope.names.lookup x = some .local := by first | exact .inl rfl | exact .inr rfl) :
    DG X EX RD (.Name x pos) (gNm j) := PG.imp (pg_name hN hi hx hf) fun v σ H Q ⟨W, ρ, m, x, rs, rm, rv, h⟩ => post_ok h rm _ (rs.set j rv)
theorem dgs_nil : DGs X EX [] gsNil := PGs.imp pgs_nil fun vs σ H Q ⟨W, ρ, m, xs, rs, rm, rv, h⟩ => by
  cases rv with
  | nil => exact ⟨rfl, post_ok h rm _ rs⟩
  | cons a b => exact h.elim
theorem dgs_cons (h1 : DG X EX RD e g) (h2 : DGs X EX es gs) (hs : (assignEach (e :: es) X.env).map (·.2) = assign e X.env :: (assignEach es X.env).map (·.2) := by rfl) : DGs X EX (e :: es) (gsCons g gs) :=
  PGs.imp (pgs_cons h1 h2 hs) fun vs σ H Q ⟨W, ρ, m, xs, rs, rm, rv, h⟩ => by
    cases rv with
    | nil => exact h.elim
    | @cons v vs d ds a b =>
      exact ⟨v, vs, rfl, W, ρ, m, d, rs, rm, a, post_mono (post_bind h) fun ρ1 W1 H1 m1 e1 rm1 h1 σ1 rs1 => ⟨W1, ρ1, m1, ds, rs1, rm1, b.mono e1.le, h1⟩⟩
theorem dg_tup {k : Nat} {n : Nat} (hc : X.calm = true) (h : DGs X EX es gs) (hn : (assignEach es X.env).length = n := by rfl) (hst : (assignEach es X.env).findIdx? (·.1) = none := by rfl) : DG X EX RW (.Tuple es k pos) (gTp n gs) :=
  PG.imp (pg_tup hc h hn hst) fun v σ H Q ⟨W, ρ, m, x, rs, rm, rv, h⟩ => by
    have key : ∃ a xs ds, v = .ref a ∧ x = .tup ds ∧ SqT X.K W.I a xs ∧ RDs X.K W xs ds := by
      rcases rv with rv | rv
      · cases rv with
        | tup hT hN r => exact ⟨_, _, _, rfl, rfl, hT, r⟩
        | _ => exact h.elim
      · exact rv
    obtain ⟨a, xs, ds, rfl, rfl, hT, r⟩ := key
    dsimp only [gTp] at h
    split at h
    · rename_i hz
      exact ⟨a, xs, rfl, same_T rm.sub hT, by rw [r.length]; exact hz, W, ρ, m, ds, rs, rm, r, h⟩
    · exact h.elim
theorem dg_w (h : DG X EX RW tg g) : DG X EX RD tg g := PG.imp h fun v σ H Q ⟨W, ρ, m, x, rs, rm, rv, h⟩ => ⟨W, ρ, m, x, rs, rm, .inl rv, h⟩
theorem dg_sub (ho : DE X EX o do_) (hi : DE X EX i di)
    (ha : ∀ v, assign (.Subscript o i pos) X.env v = (do
      let ov ← holding [v] (eval o X.env)
      let iv ← holding [v, ov] (eval i X.env)
      standAt pos
      holding [v, ov, iv] (setItem ov iv v)
      release [v, ov, iv] []) := by intro _; rfl) : DG X EX RD (.Subscript o i pos) (gSb do_ di) :=
  PG.imp (pg_sub ho hi set_list ha) fun v σ H Q ⟨W, ρ, m, x, rs, rm, rv, h⟩ => ⟨W, ρ, m, rs, rm, post_mono (post_bind h) fun ox W1 H1 m1 e1 rm1 h1 vo ro =>
    ⟨W1, ρ, m1, rs.mono e1.le, rm1, post_mono (post_bind h1) fun ix W2 H2 m2 e2 rm2 h2 vi ri => by
      unfold setIt at h2
      split at h2
      · rename_i n k
        split at h2
        · rename_i xs hx
          split at h2
          · rename_i j hj
            cases ri
            have ro2 := ro.mono e2.le
            cases ro2 with
            | ref q =>
              obtain ⟨u, hu, ⟨vs, rfl, r⟩, _⟩ := rm2.get q hx (by simp)
              refine ⟨_, vs, k, j, rfl, rfl, hu, by rw [r.length]; exact hj, ?_⟩
              obtain ⟨e3, rm3⟩ := set_cell (c' := .lst (xs.set j x)) (o := .lst (vs.set j v)) rm2 q hx (by simp) ⟨_, rfl, r.set (rv.mono (e1.trans e2).le) j⟩
              exact h2 _ _ e3 rm3 σ (rs.mono ((e1.trans e2).trans e3).le)
          · exact h2.elim
        · exact h2.elim
      · exact h2.elim⟩⟩
def sAsg (d : SE) (g : SG) : SS := fun ρ m => (d ρ m).toO fun x m => (g x ρ m).toO fun ρ m => .nx ρ m
theorem asg_imp {te : TE} {tg : TG} {D : Ends} {σ : L2.St} {H : Hp} (he : ∀ σ H Q, tE X.K X.mg EX d σ H Q → te σ H Q) (hg : ∀ v σ H Q, tG X.K X.mg EX RD g v σ H Q → tg v σ H Q) (h : tS X.K X.mg EX (sAsg d g) D σ H) : tAsg te tg D σ H := by
  obtain ⟨W, ρ, m, rs, rm, h⟩ := h
  refine he _ _ _ ⟨W, ρ, m, rs, rm, post_mono (post_toO h) fun x W1 H1 m1 e1 rm1 h1 v rv => hg _ _ _ _ ⟨W1, ρ, m1, x, rs.mono e1.le, rm1, rv, post_mono (post_toO h1) fun ρ2 W2 H2 m2 e2 rm2 h2 σ2 rs2 => h2 W2 H2 σ2 Ex.refl rm2 rs2⟩⟩
theorem ds_asg (he : DE X EX e d) (hg : DG X EX RD tg g) (hs : swapsWithSole [tg] e pos.line X.env = pure false := by rfl) (hw : swappedStores [tg] e X.env = pure none := by rfl)
    (h1 : (assignEach [tg] X.env).map (·.2) = [assign tg X.env] := by rfl) : DS X EX (.Assign [tg] e pos) (sAsg d g) :=
  PS.imp (ps_asg he hg hs hw h1) fun D σ H h => asg_imp (fun _ _ _ h => h) (fun _ _ _ _ h => h) h
/-- x, y = a, b of local names -/
def sPar (i j : Nat) (ds : SA) : SS := fun ρ m => (ds ρ m).toO fun xs m => match xs with
  | [x, y] => .nx ((ρ.set i (some x)).set j (some y)) m
  | _ => .bad
theorem ds_par {i j : Nat} {x y : Str} {a b : Expr} {ds : SA} {px py pt : Pos} {kt k2 pt2} (hc : X.calm = true) (hN : X.N.Nodup) (ha : DA X EX [a, b] ds) (hi : X.N[i]? = some x := by rfl) (hj : X.N[j]? = some y := by rfl) (hij : i ≠ j := by decide)
    (hx : X.env.scope.names.lookup x = some .local := by rfl) (hy : X.env.scope.names.lookup y = some .local := by rfl)
    (hw : swappedStores [.Tuple [.Name x px, .Name y py] kt pt] (.Tuple [a, b] k2 pt2) X.env = pure (some [x, y]) := by rfl)
    (hs : swapsWithSole [.Tuple [.Name x px, .Name y py] kt pt] (.Tuple [a, b] k2 pt2) pos.line X.env = pure false := by rfl) :
    DS X EX (.Assign [.Tuple [.Name x px, .Name y py] kt pt] (.Tuple [a, b] k2 pt2) pos) (sPar i j ds) :=
  PS.imp (ps_par hc hN hi hj hij hx hy ha hw hs) fun D σ H ⟨W, ρ, m, rs, rm, h⟩ => ⟨W, ρ, m, rs, rm, post_mono (post_toO h) fun xs W1 H1 m1 e1 rm1 h1 vs rvs => by
    cases rvs with
    | nil => exact h1.elim
    | cons r1 t1 =>
      cases t1 with
      | nil => exact h1.elim
      | cons r2 t2 =>
        cases t2 with
        | nil => exact ⟨_, _, rfl, h1 W1 H1 _ Ex.refl rm1 (((rs.mono e1.le).set i r1).set j r2)⟩
        | cons _ _ => exact h1.elim⟩
def sPar3 (i j l : Nat) (ds : SA) : SS := fun ρ m => (ds ρ m).toO fun xs m => match xs with
  | [x, y, z] => .nx (((ρ.set i (some x)).set j (some y)).set l (some z)) m
  | _ => .bad
theorem ds_par3 {i j l : Nat} {x y z : Str} {a b c : Expr} {ds : SA} {px py pz pt : Pos} {kt k2 pt2} (hc : X.calm = true) (hN : X.N.Nodup) (ha : DA X EX [a, b, c] ds) (hi : X.N[i]? = some x := by rfl) (hj : X.N[j]? = some y := by rfl) (hl : X.N[l]? = some z := by rfl)
    (hij : i ≠ j := by decide) (hil : i ≠ l := by decide) (hjl : j ≠ l := by decide)
    (hx : X.env.scope.names.lookup x = some .local := by rfl) (hy : X.env.scope.names.lookup y = some .local := by rfl) (hz : X.env.scope.names.lookup z = some .local := by rfl)
    (hw : swappedStores [.Tuple [.Name x px, .Name y py, .Name z pz] kt pt] (.Tuple [a, b, c] k2 pt2) X.env = pure (some [x, y, z]) := by rfl)
    (hs : swapsWithSole [.Tuple [.Name x px, .Name y py, .Name z pz] kt pt] (.Tuple [a, b, c] k2 pt2) pos.line X.env = pure false := by rfl) :
    DS X EX (.Assign [.Tuple [.Name x px, .Name y py, .Name z pz] kt pt] (.Tuple [a, b, c] k2 pt2) pos) (sPar3 i j l ds) :=
  PS.imp (ps_par3 hc hN hi hj hl hij hil hjl hx hy hz ha hw hs) fun D σ H ⟨W, ρ, m, rs, rm, h⟩ => ⟨W, ρ, m, rs, rm, post_mono (post_toO h) fun xs W1 H1 m1 e1 rm1 h1 vs rvs => by
    cases rvs with
    | nil => exact h1.elim
    | cons r1 t1 =>
      cases t1 with
      | nil => exact h1.elim
      | cons r2 t2 =>
        cases t2 with
        | nil => exact h1.elim
        | cons r3 t3 =>
          cases t3 with
          | nil => exact ⟨_, _, _, rfl, h1 W1 H1 _ Ex.refl rm1 ((((rs.mono e1.le).set i r1).set j r2).set l r3)⟩
          | cons _ _ => exact h1.elim⟩
/-- x op= e -/
def sAug (i : Nat) (gop : G2) (d : SE) : SS := fun ρ m => match ρ[i]? with
  | some (some x) => (d ρ m).toO fun y m => (gop x y m).toO fun z m => .nx (ρ.set i (some z)) m
  | _ => .bad
theorem ds_aug {i : Nat} {x : Str} {op : Operator} {gop : G2} {pos' : Pos} (hN : X.N.Nodup) (ho : Op2 X (inplaceOp op) gop) (he : DE X EX e d) (hi : X.N[i]? = some x := by rfl) (hx : Loc X.env.scope x := by first | exact .inl rfl | exact .inr rfl)
    (hf : X.fn x = true ∨ X.env.scope.names.lookup x = some .local := by first | exact .inl rfl | exact .inr rfl) : DS X EX (.AugAssign (.Name x pos') op e pos) (sAug i gop d) := by
  obtain ⟨r, hr, lift⟩ := ho
  refine PS.imp (ps_aug (ti := r) hN hi hx he hr hf) fun D σ H ⟨W, ρ, m, rs, rm, h⟩ => ?_
  unfold sAug at h
  split at h
  · rename_i x hx'
    obtain ⟨v, hv, rv⟩ := rs.get _ _ hx'
    refine ⟨v, hv, W, ρ, m, rs, rm, post_mono (post_toO h) fun y W1 H1 m1 e1 rm1 h1 u ru => ?_⟩
    exact lift EX W1 H1 m1 v u x y _ rm1 (rv.mono e1.le) ru (post_mono (post_toO h1) fun z W2 H2 m2 e2 rm2 h2 w rw' => h2 W2 H2 _ Ex.refl rm2 ((rs.mono (e1.trans e2).le).set i rw'))
  · exact h.elim
/-- o[i] op= e of a list -/
theorem pget_seq : PGet X (rIxL X.K) := by
  intro pins s σ H o i ov iv Q I ro ri ⟨p, xs, k, v, hop, hik, hs, hv, q⟩
  subst hop; subst hik
  cases ro
  obtain ⟨t, rfl⟩ := ri
  obtain ⟨its, r, pl, hz⟩ := I.list hs
  obtain ⟨j, h1, h2, h3, h4, h5⟩ := atI_get hv
  obtain ⟨u, hu, ru⟩ := r.get h2
  have hl := r.length
  have hn := line63
  have fin : EP X pins σ Q u s := ⟨v, H, I, ru, q⟩
  have sz : its.toArray.size = xs.length := by rw [List.size_toArray]; exact hl.symm
  by_cases h0 : 0 ≤ k
  · have e : k.toNat = j := Option.some.inj ((seqIndex_of h0 h5).symm.trans h1)
    exact wpAny_getItem_list pl.isList h0 (by omega) (by rw [e]; simpa using hu) fin
  · have e : (k + (its.toArray.size : Int)).toNat = j := by
      rw [sz]
      exact Option.some.inj ((seqIndex_neg (by omega) h4).symm.trans h1)
    exact wpAny_getItem_list_neg pl.isList (by omega) (by rw [sz]; omega) (by omega) (by rw [e]; simpa using hu) fin
def sAugS (do_ di d : SE) (gop : G2) : SS := fun ρ m => (do_ ρ m).toO fun o m => (di ρ m).toO fun i m => match asList o m, i with
  | some xs, .int k => match atI xs k with
    | some x => (d ρ m).toO fun y m => (gop x y m).toO fun z m => (setIt o i z m).toO fun _ m => .nx ρ m
    | none => .bad
  | _, _ => .bad
theorem setIt_ok {W : Wd} {H : Hp} {m : M} {vo vi v : V} {o i x : D} {Q : Hp → Prop} (rm : RM X.K X.mg W H m) (ro : RD X.K W vo o) (ri : RD X.K W vi i) (rv : RD X.K W v x)
    (h : post X.K X.mg W H (setIt o i x m) (fun _ _ H' _ => Q H') EX) : rSetL vo vi v H Q := by
  unfold setIt at h
  split at h
  · rename_i n k
    split at h
    · rename_i xs hx
      split at h
      · rename_i j hj
        cases ri
        cases ro with
        | ref q =>
          obtain ⟨u, hu, ⟨vs, rfl, r⟩, _⟩ := rm.get q hx (by simp)
          refine ⟨_, vs, k, j, rfl, rfl, hu, by rw [r.length]; exact hj, ?_⟩
          obtain ⟨e3, rm3⟩ := set_cell (c' := .lst (xs.set j x)) (o := .lst (vs.set j v)) rm q hx (by simp) ⟨_, rfl, r.set rv j⟩
          exact h _ _ e3 rm3
      · exact h.elim
    · exact h.elim
  · exact h.elim
theorem ds_augS {op : Operator} {gop : G2} {tpos : Pos} (hop : Op2 X (inplaceOp op) gop) (ho : DE X EX o do_) (hi : DE X EX i di) (he : DE X EX e d)
    (ha : ∀ ov iv new, augStore i ov iv new = (do holding [new, ov, iv] (setItem ov iv new); release [new, ov, iv] []; pure .next) := by intros; rfl) : DS X EX (.AugAssign (.Subscript o i tpos) op e pos) (sAugS do_ di d gop) := by
  obtain ⟨r, hr, lift⟩ := hop
  refine PS.imp (ps_augS (tip := r) ho hi pget_seq he hr set_list ha) fun D σ H ⟨W, ρ, m, rs, rm, h⟩ => ?_
  refine ⟨W, ρ, m, rs, rm, post_mono (post_toO h) fun ox W1 H1 m1 e1 rm1 h1 vo ro => ?_⟩
  refine ⟨W1, ρ, m1, rs.mono e1.le, rm1, post_mono (post_toO h1) fun ix W2 H2 m2 e2 rm2 h2 vi ri => ?_⟩
  split at h2
  · rename_i xs k hx
    split at h2
    · rename_i x hxk
      obtain ⟨a, vs, rfl, hs, rl⟩ := list_of rm2 (ro.mono e2.le) hx
      obtain ⟨v, hv, rv⟩ := atI_rel rl hxk
      have ri' := ri
      cases ri'
      refine ⟨a, vs, k, v, rfl, rfl, hs, hv, W2, ρ, m2, rs.mono (e1.trans e2).le, rm2, post_mono (post_toO h2) fun y W3 H3 m3 e3 rm3 h3 u ru => ?_⟩
      refine lift EX W3 H3 m3 v u x y _ rm3 (rv.mono e3.le) ru (post_mono (post_toO h3) fun z W4 H4 m4 e4 rm4 h4 w rw' => ?_)
      refine setIt_ok (EX := EX) rm4 (ro.mono ((e2.trans e3).trans e4).le) (ri.mono (e3.trans e4).le) rw' (post_mono (post_toO h4) fun _ W5 H5 m5 e5 rm5 h5 => ?_)
      exact h5 W5 H5 σ Ex.refl rm5 (rs.mono ((((e1.trans e2).trans e3).trans e4).trans e5).le)
    · exact h2.elim
  · exact h2.elim
end

/-! ### what is walked -/
structure IsIt (K : PySem.W.Frag) (mg : Str → Option Value) (Rl : RelT) (J : It) (xs : List D) (W0 : Wd) : Prop where
  stop : ∀ (W : Wd) (H : Hp) (m : M), Le W0 W → RM K mg W H m → J.stop xs.length H
  go : ∀ (i : Nat) (W : Wd) (H : Hp) (m : M), Le W0 W → RM K mg W H m → i < xs.length → J.go i H
  yld : ∀ (i : Nat) (W : Wd) (H : Hp) (m : M) (v : V) (H' : Hp) (d : D), Le W0 W → RM K mg W H m → xs[i]? = some d → J.yld i H v H' → ∃ W', Ex W H W' H' ∧ RM K mg W' H' m ∧ Rl K W' v d
def tI (K : PySem.W.Frag) (mg : Str → Option Value) (EX : Str → Hp → Prop) (Rl : RelT) (d : SA) : TI := fun σ H R => ∃ W ρ m, RS K W σ ρ ∧ RM K mg W H m ∧ post K mg W H (d ρ m) (fun xs W' H' _ => ∀ J, IsIt K mg Rl J xs W' → R J H') EX
abbrev DI (X : Cx) (EX : Str → Hp → Prop) (Rl : RelT) (tg it : Expr) (d : SA) : Prop := PI X tg it (tI X.K X.mg EX Rl d)
theorem PI.imp {X : Cx} {tg e : Expr} {t t' : TI} (h : PI X tg e t) (hi : ∀ σ H Q, t' σ H Q → t σ H Q) : PI X tg e t' := ⟨fun pins s σ H R I q => h.run pins s σ H R I (hi σ H R q)⟩
theorem Le.trans {A B C : Wd} (a : Le A B) (b : Le B C) : Le A C := ⟨a.I.trans b.I, by
  obtain ⟨p, e⟩ := a.φ
  obtain ⟨q, f⟩ := b.φ
  exact ⟨p ++ q, by rw [f, e, List.append_assoc]⟩⟩
section
variable {X : Cx} {EX : Str → Hp → Prop} {tg e : Expr} {d : SE} {ds : SA}
/-- a list that stands -/
def fixL : D → Option (List D)
  | .lst xs => some xs
  | .frz xs => some xs
  | _ => none
theorem fixL_of {K : PySem.W.Frag} {W : Wd} {v : V} {x : D} {xs : List D} (r : RD K W v x) (h : fixL x = some xs) : ∃ a vs, v = .ref a ∧ SqL K W.I a vs ∧ RDs K W vs xs := by
  cases r with
  | lst q r => cases h; exact ⟨_, _, rfl, .inl (.inl q), r⟩
  | frz q r => cases h; exact ⟨_, _, rfl, q, r⟩
  | _ => cases h
def iL (d : SE) : SA := fun ρ m => (d ρ m).bind fun x m => match fixL x with
  | some xs => .ok xs m
  | none => .bad
theorem it_list {K : PySem.W.Frag} {mg : Str → Option Value} {W : Wd} {a : Addr} {vs : List V} {xs : List D} (h : SqL K W.I a vs) (r : RDs K W vs xs) : IsIt K mg RD (Itl K a) xs W where
  stop := fun W1 H m le rm => ⟨vs, (le.I.trans rm.sub).seq h, Nat.le_of_eq r.length⟩
  go := fun i W1 H m le rm hi => by
    obtain ⟨v, hv, _⟩ := r.get (List.getElem?_eq_getElem hi)
    exact ⟨vs, v, (le.I.trans rm.sub).seq h, hv⟩
  yld := fun i W1 H m v H' d le rm hd ⟨eH, hy⟩ => by
    subst eH
    obtain ⟨u, hu, ru⟩ := r.get hd
    have := hy vs ((le.I.trans rm.sub).seq h)
    rw [hu] at this
    cases this
    exact ⟨W1, Ex.refl, rm, ru.mono le⟩
theorem di_list (h : DE X EX e d) : DI X EX RD tg e (iL d) :=
  PI.imp (pi_list h) fun σ H R ⟨W, ρ, m, rs, rm, h⟩ => ⟨W, ρ, m, rs, rm, post_mono (post_bind h) fun x W1 H1 m1 e1 rm1 h1 v rv => by
    split at h1
    · rename_i xs hx
      obtain ⟨a, vs, rfl, hs, r⟩ := fixL_of rv hx
      exact ⟨a, rfl, ⟨vs, rm1.sub.seq hs⟩, post_ok h1 rm1 _ (it_list hs r)⟩
    · exact h1.elim⟩
def iT (d : SE) : SA := fun ρ m => (d ρ m).bind fun x m => match x with
  | .tup xs => .ok xs m
  | _ => .bad
theorem it_tup {K : PySem.W.Frag} {mg : Str → Option Value} {W : Wd} {a : Addr} {vs : List V} {xs : List D} (h : SqT K W.I a vs) (r : RDs K W vs xs) : IsIt K mg RD (Itt K a) xs W where
  stop := fun W1 H m le rm => ⟨vs, same_T (le.I.trans rm.sub) h, Nat.le_of_eq r.length⟩
  go := fun i W1 H m le rm hi => by
    obtain ⟨v, hv, _⟩ := r.get (List.getElem?_eq_getElem hi)
    exact ⟨vs, v, same_T (le.I.trans rm.sub) h, hv⟩
  yld := fun i W1 H m v H' d le rm hd ⟨eH, hy⟩ => by
    subst eH
    obtain ⟨u, hu, ru⟩ := r.get hd
    have := hy vs (same_T (le.I.trans rm.sub) h)
    rw [hu] at this
    cases this
    exact ⟨W1, Ex.refl, rm, ru.mono le⟩
theorem di_tup (h : DE X EX e d) : DI X EX RD tg e (iT d) :=
  PI.imp (pi_tup h) fun σ H R ⟨W, ρ, m, rs, rm, h⟩ => ⟨W, ρ, m, rs, rm, post_mono (post_bind h) fun x W1 H1 m1 e1 rm1 h1 v rv => by
    cases x with
    | tup xs =>
      cases rv with
      | tup hT hN r => exact ⟨_, rfl, ⟨_, same_T rm1.sub hT⟩, post_ok h1 rm1 _ (it_tup hT r)⟩
    | _ => exact h1.elim⟩
/-- lo, lo + c, .. -/
def rngD (lo c : Int) (n : Nat) : List D := (List.range n).map fun (i : Nat) => .int (lo + (i : Int) * c)
theorem rngD_len (lo c : Int) (n : Nat) : (rngD lo c n).length = n := by simp [rngD]
theorem rngD_get {lo c : Int} {n i : Nat} {d : D} (h : (rngD lo c n)[i]? = some d) : d = .int (lo + (i : Int) * c) := by
  unfold rngD at h
  rw [List.getElem?_map, Option.map_eq_some_iff] at h
  obtain ⟨k, hk, rfl⟩ := h
  rw [List.getElem?_range (by
    rcases Nat.lt_or_ge i n with q | q
    · exact q
    · rw [List.getElem?_eq_none (by simpa using q)] at hk; cases hk)] at hk
  cases hk; rfl
theorem it_rng {K : PySem.W.Frag} {mg : Str → Option Value} {W : Wd} {lo : Int} {n : Nat} : IsIt K mg RD (Itr lo n) (rngD lo 1 n) W where
  stop := fun W1 H m le rm => by rw [rngD_len]; exact Nat.le_refl _
  go := fun i W1 H m le rm hi => by rw [rngD_len] at hi; exact hi
  yld := fun i W1 H m v H' d le rm hd ⟨eH, hy⟩ => by
    subst eH; subst hy
    rw [rngD_get hd, Int.mul_one]
    exact ⟨W1, Ex.refl, rm, .int _⟩
theorem it_rngC {K : PySem.W.Frag} {mg : Str → Option Value} {W : Wd} {lo c : Int} {n : Nat} : IsIt K mg RD (Itc lo c n) (rngD lo c n) W where
  stop := fun W1 H m le rm => by rw [rngD_len]; exact Nat.le_refl _
  go := fun i W1 H m le rm hi => by rw [rngD_len] at hi; exact hi
  yld := fun i W1 H m v H' d le rm hd ⟨eH, hy⟩ => by
    subst eH; subst hy
    rw [rngD_get hd]
    exact ⟨W1, Ex.refl, rm, .int _⟩
abbrev lim62 : Int := 4611686018427387904
def iR1 (ds : SA) : SA := fun ρ m => (ds ρ m).bind fun xs m => match xs with
  | [.int j] => if -lim62 ≤ j ∧ j < lim62 then .ok (rngD 0 1 j.toNat) m else .bad
  | _ => .bad
def iR2 (ds : SA) : SA := fun ρ m => (ds ρ m).bind fun xs m => match xs with
  | [.int i, .int j] => if (-lim62 ≤ i ∧ i < lim62) ∧ -lim62 ≤ j ∧ j < lim62 then .ok (rngD i 1 (j - i).toNat) m else .bad
  | _ => .bad
/-- range(i, j, c) -/
def rngN (i j c : Int) : Nat := (Builtin.Range.rangeSize i j c).toNat
def iR3 (ds : SA) : SA := fun ρ m => (ds ρ m).bind fun xs m => match xs with
  | [.int i, .int j, .int c] => if c ≠ 0 ∧ c.natAbs < 1073741824 ∧ Builtin.Range.small i j c = true ∧ 0 ≤ Builtin.Range.rangeSize i j c then .ok (rngD i c (rngN i j c)) m else .bad
  | _ => .bad
variable {a b c : Expr} {p pos : Pos}
theorem RDs.inv1 {K : PySem.W.Frag} {W : Wd} {vs : List V} {x : D} (r : RDs K W vs [x]) : ∃ v, vs = [v] ∧ RD K W v x := by
  cases r with
  | cons a t => cases t; exact ⟨_, rfl, a⟩
theorem RDs.inv2 {K : PySem.W.Frag} {W : Wd} {vs : List V} {x y : D} (r : RDs K W vs [x, y]) : ∃ v u, vs = [v, u] ∧ RD K W v x ∧ RD K W u y := by
  cases r with
  | cons a t =>
    obtain ⟨u, rfl, b⟩ := RDs.inv1 t
    exact ⟨_, u, rfl, a, b⟩
theorem RDs.inv3 {K : PySem.W.Frag} {W : Wd} {vs : List V} {x y z : D} (r : RDs K W vs [x, y, z]) : ∃ v u w, vs = [v, u, w] ∧ RD K W v x ∧ RD K W u y ∧ RD K W w z := by
  cases r with
  | cons a t =>
    obtain ⟨u, w, rfl, b, c⟩ := RDs.inv2 t
    exact ⟨_, u, w, rfl, a, b, c⟩
theorem di_range1 (hm : X.mg "range" = none) (ha : DA X EX [a] ds) (hg : Gl X "range" := by rfl) (hs : starEach [a] X.env = [(false, eval a X.env)] := by rfl) : DI X EX RD tg (.Call (.Name "range" p) [a] [] pos) (iR1 ds) :=
  PI.imp (pi_range1 hg hm ha hs) fun σ H R ⟨W, ρ, m, rs, rm, h⟩ => ⟨W, ρ, m, rs, rm, post_mono (post_bind h) fun xs W1 H1 m1 e1 rm1 h1 vs rvs => by
    split at h1
    · split at h1
      · rename_i j hz
        obtain ⟨v, rfl, r⟩ := rvs.inv1
        cases r
        exact ⟨j, rfl, hz.1, hz.2, post_ok h1 rm1 _ it_rng⟩
      · exact h1.elim
    · exact h1.elim⟩
theorem di_range2 (hm : X.mg "range" = none) (ha : DA X EX [a, b] ds) (hg : Gl X "range" := by rfl) (hs : starEach [a, b] X.env = [(false, eval a X.env), (false, eval b X.env)] := by rfl) (hs2 : starEach [b] X.env = [(false, eval b X.env)] := by rfl) :
    DI X EX RD tg (.Call (.Name "range" p) [a, b] [] pos) (iR2 ds) :=
  PI.imp (pi_range2 hg hm ha hs hs2) fun σ H R ⟨W, ρ, m, rs, rm, h⟩ => ⟨W, ρ, m, rs, rm, post_mono (post_bind h) fun xs W1 H1 m1 e1 rm1 h1 vs rvs => by
    split at h1
    · split at h1
      · rename_i i j hz
        obtain ⟨v, u, rfl, r, q⟩ := rvs.inv2
        cases r; cases q
        exact ⟨i, j, rfl, ⟨hz.1.1, hz.1.2, hz.2.1, hz.2.2⟩, post_ok h1 rm1 _ it_rng⟩
      · exact h1.elim
    · exact h1.elim⟩
theorem di_range3 (hm : X.mg "range" = none) (ha : DA X EX [a, b, c] ds) (hg : Gl X "range" := by rfl) (hs : starEach [a, b, c] X.env = (false, eval a X.env) :: starEach [b, c] X.env := by rfl) (hpl : (backTo pos (starEach [b, c] X.env)).any (·.1) = false := by rfl) :
    DI X EX RD tg (.Call (.Name "range" p) [a, b, c] [] pos) (iR3 ds) :=
  PI.imp (pi_range3 hg hm ha hs hpl) fun σ H R ⟨W, ρ, m, rs, rm, h⟩ => ⟨W, ρ, m, rs, rm, post_mono (post_bind h) fun xs W1 H1 m1 e1 rm1 h1 vs rvs => by
    split at h1
    · split at h1
      · rename_i i j c hz
        obtain ⟨v, u, w, rfl, r, q, t⟩ := rvs.inv3
        cases r; cases q; cases t
        exact ⟨i, j, c, _, rfl, ⟨hz.1, hz.2.1, hz.2.2.1, (Int.toNat_of_nonneg hz.2.2.2).symm⟩, post_ok h1 rm1 _ it_rngC⟩
      · exact h1.elim
    · exact h1.elim⟩
end

/-! ### loops -/
def forLoop (g : SG) (b : SS) : List D → En → M → O
  | [], ρ, m => .nx ρ m
  | x :: xs, ρ, m => (g x ρ m).toO fun ρ m => match b ρ m with
    | .nx ρ m => forLoop g b xs ρ m
    | .ct ρ m => forLoop g b xs ρ m
    | .bk ρ m => .nx ρ m
    | .rt x m => .rt x m
    | .exn c m => .exn c m
    | .bad => .bad
def sFor (d : SA) (g : SG) (b : SS) : SS := fun ρ m => (d ρ m).toO fun xs m => forLoop g b xs ρ m
def whLoop (t : SB) (b : SS) : Nat → En → M → O
  | 0, _, _ => .bad
  | n + 1, ρ, m => (t ρ m).toO fun k m => if k = true then (match b ρ m with
    | .nx ρ m => whLoop t b n ρ m
    | .ct ρ m => whLoop t b n ρ m
    | .bk ρ m => .nx ρ m
    | .rt x m => .rt x m
    | .exn c m => .exn c m
    | .bad => .bad) else .nx ρ m
abbrev fuelN : Nat := 1000000
def sWh (t : SB) (b : SS) : SS := fun ρ m => whLoop t b fuelN ρ m
section
variable {X : Cx} {EX : Str → Hp → Prop} {Rl : RelT} {tg it : Expr} {body : List Stmt} {d : SA} {g : SG} {b : SS} {t : SB} {pos : Pos} {c : Expr}
theorem ds_for (hp : PassesOwn (model X.prog X.w) X.A X.env X.xe) (hc : X.calm = true) (hi : DI X EX Rl tg it d) (hg : DG X EX Rl tg g) (hb : DSs X EX body b) (hs : ∀ x, foldedSetIterable it X.env x = pure x := by intro _; rfl) :
    DS X EX (.For tg it body [] pos) (sFor d g b) := by
  refine PS.imp (ps_for hp hc hi hg hb hs) fun Dn σ H ⟨W, ρ, m, rs, rm, h⟩ => ⟨W, ρ, m, rs, rm, post_mono (post_toO h) fun xs W1 H1 m1 e1 rm1 h1 J hJ => ?_⟩
  refine ⟨fun i n σ' H' => ∃ W2 ρ2 m2, Le W1 W2 ∧ RS X.K W2 σ' ρ2 ∧ RM X.K X.mg W2 H' m2 ∧ i ≤ xs.length ∧ n = xs.length - i ∧ postS X.K X.mg W2 H' (forLoop g b (xs.drop i) ρ2 m2) Dn EX,
    ⟨xs.length, W1, ρ, m1, Le.refl, rs.mono e1.le, rm1, Nat.zero_le _, rfl, h1⟩, ?_⟩
  rintro i n σ' H' ⟨W2, ρ2, m2, le2, rs2, rm2, hi2, rfl, h2⟩
  by_cases hlt : i < xs.length
  · refine .inr ⟨hJ.go i W2 H' m2 le2 rm2 hlt, fun σ3 H3 => ∃ W3 ρ3 m3, Le W1 W3 ∧ RS X.K W3 σ3 ρ3 ∧ RM X.K X.mg W3 H3 m3 ∧ postS X.K X.mg W3 H3 (forLoop g b (xs.drop (i + 1)) ρ3 m3) Dn EX, ?_, ?_⟩
    · rintro σ3 H3 ⟨W3, ρ3, m3, l3, r3, q3, p3⟩
      exact ⟨xs.length - (i + 1), by omega, W3, ρ3, m3, l3, r3, q3, hlt, rfl, p3⟩
    · intro v H3 hy
      have hd : xs[i]? = some xs[i] := List.getElem?_eq_getElem hlt
      obtain ⟨W3, e3, rm3, rl⟩ := hJ.yld i W2 H' m2 v H3 _ le2 rm2 hd hy
      rw [List.drop_eq_getElem_cons hlt] at h2
      have h3 : post X.K X.mg W3 H3 (g xs[i] ρ2 m2) _ EX := post_toO (postS_shift h2 e3)
      refine ⟨W3, ρ2, m2, xs[i], rs2.mono e3.le, rm3, rl, post_mono h3 fun ρ4 W4 H4 m4 e4 rm4 h4 σ4 rs4 => ⟨W4, ρ4, m4, rs4, rm4, ?_⟩⟩
      have l4 : Le W1 W4 := le2.trans (e3.le.trans e4.le)
      revert h4
      cases b ρ4 m4 with
      | nx ρ5 m5 => exact fun h4 W5 H5 σ5 e5 rm5 rs5 => ⟨W5, ρ5, m5, l4.trans e5.le, rs5, rm5, postS_shift h4 e5⟩
      | ct ρ5 m5 => exact fun h4 W5 H5 σ5 e5 rm5 rs5 => ⟨W5, ρ5, m5, l4.trans e5.le, rs5, rm5, postS_shift h4 e5⟩
      | bk ρ5 m5 => exact fun h4 => h4
      | rt x m5 => exact fun h4 => h4
      | exn c m5 => exact fun h4 => h4
      | bad => exact fun h4 => h4
  · have hend : i = xs.length := by omega
    subst hend
    rw [List.drop_length] at h2
    exact .inl ⟨hJ.stop W2 H' m2 le2 rm2, h2 W2 H' σ' Ex.refl rm2 rs2⟩
theorem ds_while (hp : PassesOwn (model X.prog X.w) X.A X.env X.xe) (hc : DT X EX c t) (hb : DSs X EX body b) : DS X EX (.While c body [] pos) (sWh t b) := by
  refine PS.imp (ps_while hp hc hb) fun Dn σ H ⟨W, ρ, m, rs, rm, h⟩ => ?_
  refine ⟨fun n σ' H' => ∃ W2 ρ2 m2, RS X.K W2 σ' ρ2 ∧ RM X.K X.mg W2 H' m2 ∧ postS X.K X.mg W2 H' (whLoop t b n ρ2 m2) Dn EX, ⟨fuelN, W, ρ, m, rs, rm, h⟩, ?_⟩
  rintro n σ' H' ⟨W2, ρ2, m2, rs2, rm2, h2⟩
  cases n with
  | zero => exact h2.elim
  | succ n =>
    refine ⟨W2, ρ2, m2, rs2, rm2, post_mono (post_toO h2) fun k W3 H3 m3 e3 rm3 h3 => ?_⟩
    cases k with
    | false => exact h3 W3 H3 σ' Ex.refl rm3 (rs2.mono e3.le)
    | true =>
      rw [if_pos rfl]
      refine ⟨fun σ4 H4 => ∃ W4 ρ4 m4, RS X.K W4 σ4 ρ4 ∧ RM X.K X.mg W4 H4 m4 ∧ postS X.K X.mg W4 H4 (whLoop t b n ρ4 m4) Dn EX, fun σ4 H4 h4 => ⟨n, Nat.lt_succ_self n, h4⟩, W3, ρ2, m3, rs2.mono e3.le, rm3, ?_⟩
      rw [if_pos rfl] at h3
      revert h3
      cases b ρ2 m3 with
      | nx ρ5 m5 => exact fun h4 W5 H5 σ5 e5 rm5 rs5 => ⟨W5, ρ5, m5, rs5, rm5, postS_shift h4 e5⟩
      | ct ρ5 m5 => exact fun h4 W5 H5 σ5 e5 rm5 rs5 => ⟨W5, ρ5, m5, rs5, rm5, postS_shift h4 e5⟩
      | bk ρ5 m5 => exact fun h4 => h4
      | rt x m5 => exact fun h4 => h4
      | exn c m5 => exact fun h4 => h4
      | bad => exact fun h4 => h4
end
end Vi

set_option Elab.async false
set_option linter.all false
set_option maxRecDepth 100000
set_option maxHeartbeats 4000000
namespace Vi
open PySem PySem.Spec PyProof.Rows L2

/-! ### list comprehensions -/
def compL (g : SG) (t : SB) (el : SE) (ρw : En) : List D → M → R (List D)
  | [], m => .ok [] m
  | x :: xs, m => (g x ρw m).bind fun ρ m => (t ρ m).bind fun k m => if k = true then (el ρ m).bind fun y m => (compL g t el ρw xs m).bind fun ys m => .ok (y :: ys) m else compL g t el ρw xs m
theorem compL_cons {α : Type} (g : SG) (t : SB) (el : SE) (ρw : En) (x : D) (xs : List D) (m : M) (k : List D → M → R α) : (compL g t el ρw (x :: xs) m).bind k =
    (g x ρw m).bind fun ρ m => (t ρ m).bind fun b m => if b = true then (el ρ m).bind fun y m => (compL g t el ρw xs m).bind fun ys m => k (y :: ys) m else (compL g t el ρw xs m).bind k := by
  rw [compL]
  cases g x ρw m with
  | ok ρ m1 =>
    show ((t ρ m1).bind _).bind k = (t ρ m1).bind _
    cases t ρ m1 with
    | ok b m2 =>
      show (ite _ _ _ : R (List D)).bind k = ite _ _ _
      cases b with
      | false => rfl
      | true =>
        rw [if_pos rfl, if_pos rfl]
        cases el ρ m2 with
        | ok y m3 =>
          show ((compL g t el ρw xs m3).bind _).bind k = (compL g t el ρw xs m3).bind _
          cases compL g t el ρw xs m3 <;> rfl
        | exn c m3 => rfl
        | bad => rfl
    | exn c m2 => rfl
    | bad => rfl
  | exn c m1 => rfl
  | bad => rfl
def noexn {α : Type} : R α → R α
  | .exn _ _ => .bad
  | r => r
def sComp (own : List Nat) (src : SA) (g : SG) (t : SB) (el : SE) : SA := fun ρ m => (src ρ m).bind fun xs m => if xs.length ≤ big then noexn (compL g t el (wipeE ρ own) xs m) else .bad
def tYs : SB := fun _ m => .ok true m
/-- a target that stores own names alone -/
def tGo (K : PySem.W.Frag) (mg : Str → Option Value) (Rl : RelT) (own : List Nat) (g : SG) : TG := fun v σ H Q => ∃ W ρ m x, RS K W σ ρ ∧ RM K mg W H m ∧ Rl K W v x ∧ post K mg W H (g x ρ m) (fun ρ' W' H' _ => ∀ σ', RS K W' σ' ρ' → wipe σ' own = wipe σ own → Q σ' H') fun _ _ => False
def tGso (K : PySem.W.Frag) (mg : Str → Option Value) (own : List Nat) (g : SGs) : TGs := fun vs σ H Q => ∃ W ρ m xs, RS K W σ ρ ∧ RM K mg W H m ∧ RDs K W vs xs ∧ post K mg W H (g xs ρ m) (fun ρ' W' H' _ => ∀ σ', RS K W' σ' ρ' → wipe σ' own = wipe σ own → Q σ' H') fun _ _ => False
abbrev DGo (X : Cx) (Rl : RelT) (own : List Nat) (tg : Expr) (g : SG) : Prop := PG X tg (tGo X.K X.mg Rl own g)
abbrev DGso (X : Cx) (own : List Nat) (tg : List Expr) (g : SGs) : Prop := PGs X tg (tGso X.K X.mg own g)
theorem wipe_get (σ : L2.St) : ∀ (own : List Nat) (i : Nat), (wipe σ own)[i]? = if i ∈ own ∧ i < σ.length then some none else σ[i]?
  | [], i => by simp [wipe]
  | v :: vs, i => by
    show ((wipe σ vs).set v none)[i]? = _
    rw [List.getElem?_set, wipe_length]
    by_cases h : v = i
    · subst h
      by_cases hl : v < σ.length
      · simp [hl]
      · simp [hl]
    · rw [if_neg h, wipe_get σ vs i]
      have : (i ∈ v :: vs) ↔ i ∈ vs := by simp; exact fun e => absurd e.symm h
      simp [this]
theorem wipe_set {σ : L2.St} {own : List Nat} {i : Nat} {v : Option V} (h : i ∈ own) : wipe (σ.set i v) own = wipe σ own := by
  apply List.ext_getElem?
  intro j
  rw [wipe_get, wipe_get, List.length_set, List.getElem?_set]
  by_cases hj : i = j
  · subst hj
    by_cases hl : i < σ.length
    · simp [h, hl]
    · simp [hl]
  · simp [hj]
section
variable {X : Cx} {EX : Str → Hp → Prop} {pos : Pos} {tg e : Expr} {es : List Expr} {g : SG} {gs : SGs} {own : List Nat}
theorem dgo_name {j : Nat} {x : Str} (hN : X.N.Nodup) (hi : X.N[j]? = some x := by rfl) (hx : Loc X.env.scope x := by first | exact .inl rfl | exact .inr rfl) (hf : X.fn x = true ∨ X.env.scope.names.lookup x = some .local := by first | exact .inl rfl | exact .inr rfl) (ho : j ∈ own := by decide) :
    DGo X RD own (.Name x pos) (gNm j) := PG.imp (pg_name hN hi hx hf) fun v σ H Q ⟨W, ρ, m, x, rs, rm, rv, h⟩ => post_ok h rm _ (rs.set j rv) (wipe_set ho)
theorem dgso_nil : DGso X own [] gsNil := PGs.imp pgs_nil fun vs σ H Q ⟨W, ρ, m, xs, rs, rm, rv, h⟩ => by
  cases rv with
  | nil => exact ⟨rfl, post_ok h rm _ rs rfl⟩
  | cons a b => exact h.elim
theorem dgso_cons (h1 : DGo X RD own e g) (h2 : DGso X own es gs) (hs : (assignEach (e :: es) X.env).map (·.2) = assign e X.env :: (assignEach es X.env).map (·.2) := by rfl) : DGso X own (e :: es) (gsCons g gs) :=
  PGs.imp (pgs_cons h1 h2 hs) fun vs σ H Q ⟨W, ρ, m, xs, rs, rm, rv, h⟩ => by
    cases rv with
    | nil => exact h.elim
    | @cons v vs d ds a b =>
      exact ⟨v, vs, rfl, W, ρ, m, d, rs, rm, a, post_mono (post_bind h) fun ρ1 W1 H1 m1 e1 rm1 h1 σ1 rs1 w1 => ⟨W1, ρ1, m1, ds, rs1, rm1, b.mono e1.le, post_mono h1 fun ρ2 W2 H2 m2 e2 rm2 h2 σ2 rs2 w2 => h2 σ2 rs2 (w2.trans w1)⟩⟩
theorem dgo_tup {k : Nat} {n : Nat} (hc : X.calm = true) (h : DGso X own es gs) (hn : (assignEach es X.env).length = n := by rfl) (hst : (assignEach es X.env).findIdx? (·.1) = none := by rfl) : DGo X RW own (.Tuple es k pos) (gTp n gs) :=
  PG.imp (pg_tup hc h hn hst) fun v σ H Q ⟨W, ρ, m, x, rs, rm, rv, h⟩ => by
    have key : ∃ a xs ds, v = .ref a ∧ x = .tup ds ∧ SqT X.K W.I a xs ∧ RDs X.K W xs ds := by
      rcases rv with rv | rv
      · cases rv with
        | tup hT hN r => exact ⟨_, _, _, rfl, rfl, hT, r⟩
        | _ => exact h.elim
      · exact rv
    obtain ⟨a, xs, ds, rfl, rfl, hT, r⟩ := key
    dsimp only [gTp] at h
    split at h
    · rename_i hz
      exact ⟨a, xs, rfl, same_T rm.sub hT, by rw [r.length]; exact hz, W, ρ, m, ds, rs, rm, r, h⟩
    · exact h.elim
theorem dgo_w (h : DGo X RW own tg g) : DGo X RD own tg g := PG.imp h fun v σ H Q ⟨W, ρ, m, x, rs, rm, rv, h⟩ => ⟨W, ρ, m, x, rs, rm, .inl rv, h⟩
abbrev EX0 : Str → Hp → Prop := fun _ _ => False
abbrev DTs (X : Cx) (ifs : List Expr) (t : SB) : Prop := PTs X ifs (tT X.K X.mg EX0 t)
theorem PTs.imp {ifs : List Expr} {t t' : TT} (h : PTs X ifs t) (hi : ∀ σ H Q, t' σ H Q → t σ H Q) : PTs X ifs t' := ⟨fun pins s σ H R I q => h.run pins s σ H R I (hi σ H R q)⟩
theorem dts_nil : DTs X [] tYs := PTs.imp pts_nil fun σ H Q ⟨W, ρ, m, rs, rm, h⟩ => post_ok h rm
theorem dts_one {c : Expr} {t : SB} (h : DT X EX0 c t) : DTs X [c] t := pts_one h
/-- an item put to the list that is being made -/
theorem put_new {K : PySem.W.Frag} {mg : Str → Option Value} {W1 W : Wd} {H1 H : Hp} {m : M} {D0 : Addr} {o : HO} (e : Ex W1 H1 W H) (h1 : H1 D0 = none) (rm : RM K mg W H m) (hφ : D0 ∉ W.φ) (hI : W.I D0 = none) :
    Ex W1 H1 W (upd H D0 o) ∧ RM K mg W (upd H D0 o) m := by
  refine ⟨⟨e.I, e.φ, fun a u ha hn => ?_, fun a ha => ?_, e.nw⟩, ⟨fun a u ha => ?_, rm.len, rm.nd, fun a ha => ?_, fun i a c q1 q2 q3 => ?_, rm.off⟩⟩
  · rw [upd_ne (ne_of_none ha h1)]; exact e.fr a u ha hn
  · unfold upd; split
    · simp
    · exact e.al a ha
  · rw [upd_ne (ne_of_none ha hI)]; exact rm.sub a u ha
  · unfold upd; split
    · simp
    · exact rm.al a ha
  · obtain ⟨u, hu, q⟩ := rm.obj i a c q1 q2 q3
    have : a ≠ D0 := fun z => hφ (z ▸ List.mem_of_getElem? q1)
    exact ⟨u, by rw [upd_ne this]; exact hu, q⟩
/-- .. stays there while something runs -/
theorem stays {W W' : Wd} {H H' : Hp} {D0 : Addr} {o : HO} (e : Ex W H W' H') (h : H D0 = some o) (hφ : D0 ∉ W.φ) (hI : W.I D0 = none) : H' D0 = some o ∧ D0 ∉ W'.φ ∧ W'.I D0 = none := by
  obtain ⟨ψ, e1, n⟩ := e.φ
  refine ⟨e.fr _ _ h hφ, ?_, ?_⟩
  · rw [e1]
    intro q
    rcases List.mem_append.mp q with q | q
    · exact hφ q
    · rw [n _ q] at h; cases h
  · cases q : W'.I D0 with
    | none => rfl
    | some u =>
      rcases e.nw _ _ q with z | z | z
      · rw [hI] at z; cases z
      · rw [h] at z; cases z
      · exact absurd z hφ
theorem post_bind0 {K : PySem.W.Frag} {mg : Str → Option Value} {W : Wd} {H : Hp} {α β : Type} {r : R α} {f : α → M → R β} {Q : β → Wd → Hp → M → Prop} {EX : Str → Hp → Prop} (h : post K mg W H (r.bind f) Q EX) :
    post K mg W H r (fun x _ _ m1 => post K mg W H (f x m1) Q EX) EX := by
  cases r with
  | ok x m => exact fun _ _ _ _ => h
  | exn c m => exact h
  | bad => exact h
theorem noexn_post {K : PySem.W.Frag} {mg : Str → Option Value} {W : Wd} {H : Hp} {α : Type} {r : R α} {Q : α → Wd → Hp → M → Prop} {EX : Str → Hp → Prop} (h : post K mg W H (noexn r) Q EX) : post K mg W H r Q EX0 := by
  cases r with
  | ok x m => exact h
  | exn c m => exact h.elim
  | bad => exact h
theorem comp_imp {Rl : RelT} {wi : TI} {src : SA} {t : SB} {el : SE} {σ : L2.St} {H : Hp} {Q : VK} (hw : ∀ σ H R, tI X.K X.mg EX Rl src σ H R → wi σ H R) (h : tL X.K X.mg EX (sComp own src g t el) σ H Q) :
    tLc wi (tGo X.K X.mg Rl own g) (tT X.K X.mg EX0 t) (tE X.K X.mg EX0 el) own σ H Q := by
  obtain ⟨W, ρ, m, rs, rm, h⟩ := h
  refine hw _ _ _ ⟨W, ρ, m, rs, rm, post_mono (post_bind h) fun xs W1 H1 m1 e1 rm1 h1 J hJ D0 hD => ?_⟩
  split at h1
  · rename_i hbig
    have h1 := noexn_post h1
    have hD0 : H D0 = none := by
      cases q : H D0 with
      | none => rfl
      | some o => exact absurd hD (e1.al D0 (by rw [q]; simp))
    -- the turn's state
    refine ⟨fun i n H2 => ∃ W2 m2 acc vs, Ex W1 H1 W2 H2 ∧ RM X.K X.mg W2 H2 m2 ∧ H2 D0 = some (.lst vs) ∧ D0 ∉ W2.φ ∧ W2.I D0 = none ∧ RDs X.K W2 vs acc ∧ acc.length ≤ i ∧ i ≤ xs.length ∧ n = xs.length - i ∧
      post X.K X.mg W1 H1 ((compL g t el (wipeE ρ own) (xs.drop i) m2).bind fun ys m => .ok (acc ++ ys) m) (fun xs W' H' _ => ∀ p vs, H p = none → p ∉ W'.φ → W'.I p = none → H' p = some (.lst vs) → RDs X.K W' vs xs → Q (.ref p) H') EX0,
      ⟨xs.length, W1, m1, [], [], ?_⟩, ?_⟩
    · obtain ⟨eu, ru⟩ := put_new (o := .lst []) Ex.refl hD rm1 (rm1.nin hD) (rm1.nI hD)
      refine ⟨eu, ru, upd_same, rm1.nin hD, rm1.nI hD, .nil, Nat.zero_le _, Nat.zero_le _, rfl, ?_⟩
      rw [List.drop_zero]
      revert h1
      cases compL g t el (wipeE ρ own) xs m1 with
      | ok ys m2 => exact fun h1 => h1
      | exn c m2 => exact fun h1 => h1
      | bad => exact fun h1 => h1
    · rintro i n H2 ⟨W2, m2, acc, vs, e2, rm2, hl, hφ, hI, rv, hacc, hi, rfl, h2⟩
      by_cases hlt : i < xs.length
      · refine .inr ⟨hJ.go i W2 H2 m2 e2.le rm2 hlt, fun H3 => ∃ W3 m3 acc vs, Ex W1 H1 W3 H3 ∧ RM X.K X.mg W3 H3 m3 ∧ H3 D0 = some (.lst vs) ∧ D0 ∉ W3.φ ∧ W3.I D0 = none ∧ RDs X.K W3 vs acc ∧ acc.length ≤ i + 1 ∧
          post X.K X.mg W1 H1 ((compL g t el (wipeE ρ own) (xs.drop (i + 1)) m3).bind fun ys m => .ok (acc ++ ys) m) (fun xs W' H' _ => ∀ p vs, H p = none → p ∉ W'.φ → W'.I p = none → H' p = some (.lst vs) → RDs X.K W' vs xs → Q (.ref p) H') EX0, ?_, ?_⟩
        · rintro H3 ⟨W3, m3, acc3, vs3, a1, a2, a3, a4, a5, a6, a7, a8⟩
          exact ⟨xs.length - (i + 1), by omega, W3, m3, acc3, vs3, a1, a2, a3, a4, a5, a6, a7, hlt, rfl, a8⟩
        · intro v H3 hy
          obtain ⟨W3, e3, rm3, rl⟩ := hJ.yld i W2 H2 m2 v H3 _ e2.le rm2 (List.getElem?_eq_getElem hlt) hy
          obtain ⟨hl3, hφ3, hI3⟩ := stays e3 hl hφ hI
          rw [List.drop_eq_getElem_cons hlt, compL_cons] at h2
          have h3 := post_shift (post_bind0 h2) (e2.trans e3)
          have rsw : RS X.K W3 (wipe σ own) (wipeE ρ own) := (rs.mono (e1.trans (e2.trans e3)).le).wipe own
          refine ⟨W3, wipeE ρ own, m2, xs[i], rsw, rm3, rl, post_mono h3 fun ρ4 W4 H4 m4 e4 rm4 h4 σ4 rs4 w4 => ⟨?_, ?_⟩⟩
          · rw [w4]
            apply List.ext_getElem?
            intro j
            rw [wipe_get, wipe_get, wipe_length]
            by_cases hj : j ∈ own ∧ j < σ.length <;> simp [hj]
          · obtain ⟨hl4, hφ4, hI4⟩ := stays e4 hl3 hφ3 hI3
            refine ⟨W4, ρ4, m4, rs4, rm4, post_mono (post_shift (post_bind0 h4) ((e2.trans e3).trans e4)) fun k W5 H5 m5 e5 rm5 h5 => ?_⟩
            obtain ⟨hl5, hφ5, hI5⟩ := stays e5 hl4 hφ4 hI4
            have E5 : Ex W1 H1 W5 H5 := (e2.trans e3).trans (e4.trans e5)
            cases k with
            | false => exact ⟨W5, m5, acc, vs, E5, rm5, hl5, hφ5, hI5, rv.mono (e3.trans (e4.trans e5)).le, by omega, h5⟩
            | true =>
              rw [if_pos rfl] at h5 ⊢
              refine ⟨W5, ρ4, m5, rs4.mono e5.le, rm5, post_mono (post_shift (post_bind0 h5) E5) fun y W6 H6 m6 e6 rm6 h6 u ru => ?_⟩
              obtain ⟨hl6, hφ6, hI6⟩ := stays e6 hl5 hφ5 hI5
              have rv6 := rv.mono (e3.trans (e4.trans (e5.trans e6))).le
              refine ⟨vs, hl6, ?_, ?_⟩
              · rw [rv6.length, big_eq]; omega
              · obtain ⟨eu, ru6⟩ := put_new (o := .lst (vs ++ [u])) (E5.trans e6) hD rm6 hφ6 hI6
                refine ⟨W6, m6, acc ++ [y], vs ++ [u], eu, ru6, upd_same, hφ6, hI6, rv6.append (.cons ru .nil), by simp; omega, ?_⟩
                have : (fun (ys : List D) (m : M) => (R.ok (acc ++ [y] ++ ys) m : R (List D))) = fun ys m => R.ok (acc ++ y :: ys) m := by
                  funext ys m; rw [List.append_assoc]; rfl
                rw [this]; exact h6
      · have hend : i = xs.length := by omega
        subst hend
        rw [List.drop_length] at h2
        refine .inl ⟨hJ.stop W2 H2 m2 e2.le rm2, ?_⟩
        have := h2 W2 H2 e2 rm2 D0 vs hD0 hφ hI hl
        rw [List.append_nil] at this
        exact this rv
  · exact h1.elim
/-- a comprehension as a value -/
theorem dl_comp {Rl : RelT} {elt it : Expr} {ifs : List Expr} {scope : Scope} {ow : List (Str × Nat)} {src : SA} {t : SB} {el : SE} (hc : X.calm = true) (hN : X.N.Nodup) (hi : DI X EX Rl tg it src) (ok : BlkOk X.N X.env.scope scope ow)
    (hg : ∀ (s : Shared) (H : Hp) (C : Addr) (cl : List (Str × Addr)) (fp : List Addr), DGo (X.blk s H scope (compEnvC scope cl C X.env) fp) Rl (ow.map (·.2)) tg g)
    (ht : ∀ (s : Shared) (H : Hp) (C : Addr) (cl : List (Str × Addr)) (fp : List Addr), DTs (X.blk s H scope (compEnvC scope cl C X.env) fp) ifs t)
    (he : ∀ (s : Shared) (H : Hp) (C : Addr) (cl : List (Str × Addr)) (fp : List Addr), DE (X.blk s H scope (compEnvC scope cl C X.env) fp) EX0 elt el) (hs : ∀ x, foldedSetIterable it X.env x = pure x := by intro _; rfl) :
    DL X EX (.ListComp elt [⟨tg, it, ifs, 0⟩] scope pos) (sComp (ow.map (·.2)) src g t el) :=
  PE.imp (pe_lc hc hN hi ok hg ht he hs) fun σ H Q h => comp_imp (fun _ _ _ h => h) h
/-- x = [..]: kept as it is, or to be changed -/
theorem ds_compF {Rl : RelT} {j : Nat} {y : Str} {py : Pos} {elt it : Expr} {ifs : List Expr} {scope : Scope} {ow : List (Str × Nat)} {src : SA} {t : SB} {el : SE} {spos : Pos} (hc : X.calm = true) (hN : X.N.Nodup) (hi : DI X EX Rl tg it src) (ok : BlkOk X.N X.env.scope scope ow)
    (hg : ∀ (s : Shared) (H : Hp) (C : Addr) (cl : List (Str × Addr)) (fp : List Addr), DGo (X.blk s H scope (compEnvC scope cl C X.env) fp) Rl (ow.map (·.2)) tg g)
    (ht : ∀ (s : Shared) (H : Hp) (C : Addr) (cl : List (Str × Addr)) (fp : List Addr), DTs (X.blk s H scope (compEnvC scope cl C X.env) fp) ifs t)
    (he : ∀ (s : Shared) (H : Hp) (C : Addr) (cl : List (Str × Addr)) (fp : List Addr), DE (X.blk s H scope (compEnvC scope cl C X.env) fp) EX0 elt el)
    (hy : X.N[j]? = some y := by rfl) (hyl : X.env.scope.names.lookup y = some .local := by rfl)
    (hsw : swapsWith (.ListComp elt [⟨tg, it, ifs, 0⟩] scope pos) (some (.Name y py)) spos.line X.env = pure true := by exact sw_true rfl rfl rfl (by decide +kernel)) (hs : ∀ x, foldedSetIterable it X.env x = pure x := by intro _; rfl) :
    DS X EX (.Assign [.Name y py] (.ListComp elt [⟨tg, it, ifs, 0⟩] scope pos) spos) (sAsg (sFrz (sComp (ow.map (·.2)) src g t el)) (gNm j)) :=
  PS.imp (ps_setLc hc hN hy hyl hsw hi ok hg ht he hs) fun Dn σ H h => asg_imp (fun _ _ _ h => comp_imp (fun _ _ _ h => h) (frz_imp h)) (fun v σ H Q ⟨W, ρ, m, x, rs, rm, rv, h⟩ => post_ok h rm _ (rs.set j rv)) h
theorem ds_compN {Rl : RelT} {j : Nat} {y : Str} {py : Pos} {elt it : Expr} {ifs : List Expr} {scope : Scope} {ow : List (Str × Nat)} {src : SA} {t : SB} {el : SE} {spos : Pos} (hc : X.calm = true) (hN : X.N.Nodup) (hi : DI X EX Rl tg it src) (ok : BlkOk X.N X.env.scope scope ow)
    (hg : ∀ (s : Shared) (H : Hp) (C : Addr) (cl : List (Str × Addr)) (fp : List Addr), DGo (X.blk s H scope (compEnvC scope cl C X.env) fp) Rl (ow.map (·.2)) tg g)
    (ht : ∀ (s : Shared) (H : Hp) (C : Addr) (cl : List (Str × Addr)) (fp : List Addr), DTs (X.blk s H scope (compEnvC scope cl C X.env) fp) ifs t)
    (he : ∀ (s : Shared) (H : Hp) (C : Addr) (cl : List (Str × Addr)) (fp : List Addr), DE (X.blk s H scope (compEnvC scope cl C X.env) fp) EX0 elt el)
    (hy : X.N[j]? = some y := by rfl) (hyl : X.env.scope.names.lookup y = some .local := by rfl)
    (hsw : swapsWith (.ListComp elt [⟨tg, it, ifs, 0⟩] scope pos) (some (.Name y py)) spos.line X.env = pure true := by exact sw_true rfl rfl rfl (by decide +kernel)) (hs : ∀ x, foldedSetIterable it X.env x = pure x := by intro _; rfl) :
    DS X EX (.Assign [.Name y py] (.ListComp elt [⟨tg, it, ifs, 0⟩] scope pos) spos) (sAsg (sNew (sComp (ow.map (·.2)) src g t el)) (gNm j)) :=
  PS.imp (ps_setLc hc hN hy hyl hsw hi ok hg ht he hs) fun Dn σ H h => asg_imp (fun _ _ _ h => comp_imp (fun _ _ _ h => h) (new_imp h)) (fun v σ H Q ⟨W, ρ, m, x, rs, rm, rv, h⟩ => post_ok h rm _ (rs.set j rv)) h
end
end Vi

set_option Elab.async false
set_option linter.all false
set_option maxRecDepth 100000
set_option maxHeartbeats 4000000
namespace Vi
open PySem PySem.Spec PyProof.Rows L2

/-! ### defs -/
abbrev Fn := List D → M → R D
def exOf (mg : Str → Option Value) (E : XK) : Str → Hp → Prop := fun c H' => ∀ a, mg c = some (.ref a) → E (.ref a) none H'
def spOf (K : PySem.W.Frag) (mg : Str → Option Value) (n : Nat) (F : Fn) : Sp := fun vs H Q E => vs.length = n ∧ ∃ W m ds, RM K mg W H m ∧ RDs K W vs ds ∧
  post K mg W H (F ds m) (fun x W' H' _ => ∀ v, RD K W' v x → Q v H') (exOf mg E)
/-- the def at f is F (no repr is under way around it) -/
def FnG (P : Program) (w : World) (K : PySem.W.Frag) (mg : Str → Option Value) (base : Heap) (k : Nat) (f : Addr) (fd : FuncData) (ps : List Str) (F : Fn) : Prop :=
  ∀ (A : Around) (outer : List Env) (s : Shared) (H : Hp) (args : Args) (us : List Value) (vs : List V) (Q : VK) (E : XK), Room k A → A.guards = some [] → Env0 P w K mg base A outer s H →
    BindsTo s fd args (ps.zip us) → Vals vs us → spOf K mg ps.length F vs H Q E → codeAny (model P w) A (.call (.ref f) args) (CR (L2.CX P w) outer P w H s Q E) s
theorem FnG.mono {P : Program} {w : World} {K : PySem.W.Frag} {mg : Str → Option Value} {base : Heap} {j k : Nat} {f : Addr} {fd : FuncData} {ps : List Str} {F : Fn} (h : FnG P w K mg base j f fd ps F) (hk : j ≤ k) : FnG P w K mg base k f fd ps F :=
  fun A outer s H args us vs Q E hr => h A outer s H args us vs Q E (hr.mono hk)
def runDef (n : Nat) (d : SS) : Fn := fun ds m => match d (ds.map some ++ List.replicate (n - ds.length) none) m with
  | .rt x m => .ok x m
  | .nx _ m => .ok .non m
  | .exn c m => .exn c m
  | _ => .bad
/-- how what leaves a callee goes on -/
def PassX (X : Cx) (EX : Str → Hp → Prop) : Prop := ∃ E : XK, Passes (L2.CX X.prog X.w) X E ∧ ∀ c H', EX c H' → exOf X.mg E c H'
theorem passX0 {X : Cx} : PassX X EX0 := ⟨E0, passL, fun _ _ h => h.elim⟩
structure BodyCx (X : Cx) (k : Nat) (EX : Str → Hp → Prop) : Prop where
  room : Room k X.A
  gd : X.A.guards = some []
  own : PassesOwn (model X.prog X.w) X.A X.env X.xe
  pass : PassX X EX
theorem deeper_guards {A : Around} {env : Env} (h : A.guards = some []) : (A.deeper env).guards = some [] := h
section
variable {P : Program} {w : World} {K : PySem.W.Frag} {mg : Str → Option Value} {base : Heap}
theorem start_rs {W : Wd} {vs : List V} {ds : List D} (r : RDs K W vs ds) (N : List Str) : RS K W (L2.start N vs) (ds.map some ++ List.replicate (N.length - ds.length) none) := by
  refine ⟨by simp [L2.start, r.length], fun i x h => ?_⟩
  rcases Nat.lt_or_ge i ds.length with q | q
  · rw [List.getElem?_append_left (by simpa using q), List.getElem?_map, Option.map_eq_some_iff] at h
    obtain ⟨d, hd, e⟩ := h
    cases e
    obtain ⟨v, hv, rv⟩ := r.get hd
    refine ⟨v, ?_, rv⟩
    unfold L2.start
    rw [List.getElem?_append_left (by rw [List.length_map, r.length]; exact q), List.getElem?_map, hv]
    rfl
  · rw [List.getElem?_append_right (by simpa using q), List.getElem?_replicate] at h
    split at h <;> cases h
theorem fn_ok {x qual : Str} {st : Stmt} {f : Addr} {fd : FuncData} {N ps : List Str} {k : Nat} {d : SS} (F : Fun K x qual st f fd) (S : FnScope N ps (defScope st))
    (hb : ∀ (cdv : Value) (A : Around) (outer : List Env) (s : Shared) (H : Hp) (E : XK), BodyCx (cxOf (L2.CX P w) P w K mg base N qual (defScope st) f cdv A outer s H E) k (exOf mg E) →
      DSs (cxOf (L2.CX P w) P w K mg base N qual (defScope st) f cdv A outer s H E) (exOf mg E) (defBody st) d) : FnG P w K mg base (k + 1) f fd ps (runDef N.length d) := by
  obtain ⟨oc, od, kV, doc, pm, an, cdv, ct, osl, rfl, lk, hcd⟩ := F.ex
  intro A outer s H args us vs Q E hr hg e0 bind rel ⟨hl, W, m, ds, rm, rds, hp⟩
  have stand : ∀ b o, base.get? b = some o → s.heap.get? b = some o := fun b o e => (e0.bs b o e).1
  have KX := e0.mod.kin.keeps stand
  have lim := e0.mod.nolimit.keeps stand
  refine codeAny_call_function hr.depth (KX _ _ lk) rfl S.co S.gen rfl (PySem.W.codeRec_of KX hcd) (bind _ _ _ _ (wpAny_newFunctionEnv_cells S.kind ?_ ?_))
  · rintro ⟨n, v⟩ hy
    have hn := (List.of_mem_zip hy).1
    exact (S.par n hn).imp id fun q => ⟨q, PySem.W.cellsFrom_some _ _ _ (.inl q)⟩
  · intro env he s1 x1
    subst he
    refine ⟨lim.keeps x1.toInCall.keep, codeAny_func ?_⟩
    have B : BodyCx (cxOf (L2.CX P w) P w K mg base N qual (defScope st) f cdv A outer s H E) k (exOf mg E) := ⟨hr.deeper _, hg, passes_of rfl, E, passes_call (takes_of rfl rfl rfl rfl) fun _ _ _ _ h => h, fun _ _ h => h⟩
    have I := inv_start (CX := L2.CX P w) (P := P) (w := w) (mg := mg) (base := base) (f := f) (qual := qual) (E := E) S hr.hd e0 hl rel x1
    have done : tS K mg (exOf mg E) d { nx := fun _ H' => Q .non H', rt := Q } (L2.start N vs) H := by
      refine ⟨W, _, m, start_rs rds N, rm, ?_⟩
      revert hp
      unfold runDef
      cases d (ds.map some ++ List.replicate (N.length - ds.length) none) m with
      | nx ρ m1 => exact fun hp W1 H1 σ e1 rm1 rs1 => hp W1 H1 e1 rm1 _ .non
      | rt y m1 => exact fun hp W1 H1 v e1 rm1 rv => hp W1 H1 e1 rm1 v rv
      | exn c m1 => exact fun hp => hp
      | bk ρ m1 => exact fun hp => hp.elim
      | ct ρ m1 => exact fun hp => hp.elim
      | bad => exact fun hp => hp.elim
    refine wpAny_mono ((hb cdv A outer s H E B).run [] s1 _ H _ I done) (fun fl s2 hs => ?_) fun _ _ h => h
    cases fl with
    | next => obtain ⟨σ1, H1, J, q⟩ := hs; exact ⟨.non, H1, J.os, J.bare, J.base, J.hok, rfl, q⟩
    | ret u => obtain ⟨v, σ1, H1, J, rv, q⟩ := hs; exact ⟨v, H1, J.os, J.bare, J.base, J.hok, rv, q⟩
    | brk => obtain ⟨_, _, _, q⟩ := hs; exact q.elim
    | cont => obtain ⟨_, _, _, q⟩ := hs; exact q.elim
end
def sCall (F : Fn) (ds : SA) : SE := fun ρ m => (ds ρ m).bind F
section
variable {X : Cx} {EX : Str → Hp → Prop} {k : Nat} {f : Addr} {fd : FuncData} {ps : List Str} {F : Fn} {x : Str} {p pos : Pos} {e : Expr} {es : List Expr} {ds : SA}
theorem run_G {E : XK} {pins : List (Addr × Obj)} {σ : L2.St} {H : Hp} {s : Shared} {Q : VK} {us : List Value} {vs : List V} (G : FnG X.prog X.w X.K X.mg X.base k f fd ps F) (hr : Room k X.A) (hg : X.A.guards = some []) (hb : Binds X.K fd ps []) (hx : Passes (L2.CX X.prog X.w) X E)
    (I : Inv X pins σ H s) (r : Vals vs us) (h : spOf X.K X.mg ps.length F vs H Q E) : wpAny (model X.prog X.w) X.A (call (.ref f) us) (EP X pins σ Q) X.xe s := by
  have hl : us.length = ps.length := by rw [← r.length]; exact h.1
  have hb' := hb s us I.kIn (by rw [List.append_nil]; exact hl)
  rw [List.append_nil] at hb'
  refine wpAny_call (codeAny_mono (G X.A X.stack s H ⟨us, []⟩ us vs Q E hr hg I.env0 hb' r h) fun z s1 hz => ?_)
  rcases z with e | fl
  · exact hx pins σ H s e s1 I hz
  · cases fl with
    | ret u => exact I.after hz
    | next => exact hz.elim
    | brk => exact hz.elim
    | cont => exact hz.elim
theorem call_imp {E : XK} {n : Nat} (hx : ∀ c H', EX c H' → exOf X.mg E c H') (hn : ∀ ρ m xs m', ds ρ m = .ok xs m' → xs.length = n) {σ : L2.St} {H : Hp} {Q : VK} (h : tE X.K X.mg EX (sCall F ds) σ H Q) :
    tAs X.K X.mg EX ds σ H fun vs H1 => spOf X.K X.mg n F vs H1 Q E := by
  obtain ⟨W, ρ, m, rs, rm, h⟩ := h
  have h' := post_bind h
  refine ⟨W, ρ, m, rs, rm, ?_⟩
  revert h'
  cases q : ds ρ m with
  | ok xs m1 =>
    intro h' W1 H1 e1 rm1 vs rvs
    refine ⟨rvs.length.trans (hn _ _ _ _ q), W1, m1, xs, rm1, rvs, ?_⟩
    have h2 : post X.K X.mg W1 H1 (F xs m1) _ EX := h' W1 H1 e1 rm1
    revert h2
    cases F xs m1 with
    | ok y m2 => exact fun h2 => h2
    | exn c m2 => exact fun h2 W2 H2 e2 rm2 => hx c H2 (h2 W2 H2 e2 rm2)
    | bad => exact fun h2 => h2
  | exn c m1 => exact fun h' => h'
  | bad => exact fun h' => h'
/-- as many as are written -/
theorem len_cons {d : SE} {n : Nat} (h : ∀ ρ m xs m', ds ρ m = .ok xs m' → xs.length = n) : ∀ ρ m xs m', sCons d ds ρ m = .ok xs m' → xs.length = n + 1 := by
  intro ρ m xs m' e
  unfold sCons at e
  cases q : d ρ m with
  | ok x m1 =>
    rw [q, bind_ok] at e
    cases q2 : ds ρ m1 with
    | ok ys m2 =>
      rw [q2, bind_ok] at e
      cases e
      simp [h _ _ _ _ q2]
    | exn c m2 => rw [q2] at e; cases e
    | bad => rw [q2] at e; cases e
  | exn c m1 => rw [q] at e; cases e
  | bad => rw [q] at e; cases e
theorem len_nil : ∀ (ρ : En) (m : M) (xs : List D) (m' : M), sNil ρ m = .ok xs m' → xs.length = 0 := by
  intro ρ m xs m' e
  cases e; rfl
theorem de_call (G : FnG X.prog X.w X.K X.mg X.base k f fd ps F) (hr : Room k X.A) (hgd : X.A.guards = some []) (px : PassX X EX) (hm : X.mg x = some (.ref f)) (hk : PySem.W.keepIn X.K (.ref f) = true) (hb : Binds X.K fd ps [])
    (ha : DA X EX (e :: es) ds) (hn : ∀ ρ m xs m', ds ρ m = .ok xs m' → xs.length = ps.length) (hg : Gl X x := by rfl) (hdb : (x == ("__debug__" : Str)) = false := by decide)
    (he : starEach (e :: es) X.env = (false, eval e X.env) :: starEach es X.env := by rfl) (hpl : (backTo pos (starEach es X.env)).any (·.1) = false := by rfl) : DE X EX (.Call (.Name x p) (e :: es) [] pos) (sCall F ds) := by
  obtain ⟨E, pE, hE⟩ := px
  refine ⟨fun pins s σ H Q I h => wpAny_Call_Name_kw (ld_glob I hg hm ?_ hdb)⟩
  have q := ha.run pos pins s σ H _ I (call_imp hE hn h)
  refine PySem.W.callWith_K (h₀ := X.base) I.ok.mod.kin hk (thn q ?_) he hpl
  rintro us s1 ⟨vs, H1, I1, r, q⟩
  exact ⟨I1.kIn, run_G G hr hgd hb pE I1 r q⟩
theorem de_call0 (G : FnG X.prog X.w X.K X.mg X.base k f fd [] F) (hr : Room k X.A) (hgd : X.A.guards = some []) (px : PassX X EX) (hm : X.mg x = some (.ref f)) (hk : PySem.W.keepIn X.K (.ref f) = true) (hb : Binds X.K fd [] [])
    (hg : Gl X x := by rfl) (hdb : (x == ("__debug__" : Str)) = false := by decide) : DE X EX (.Call (.Name x p) [] [] pos) (sCall F sNil) := by
  obtain ⟨E, pE, hE⟩ := px
  refine ⟨fun pins s σ H Q I h => wpAny_Call_Name_kw (ld_glob I hg hm ?_ hdb)⟩
  obtain ⟨W, ρ, m, rs, rm, h⟩ := call_imp (n := 0) hE len_nil h
  have h2 := h W H Ex.refl rm [] .nil
  exact PySem.W.callWith_K0 I.kIn hk (run_G (us := []) G hr hgd hb pE I .nil h2)
end
end Vi

set_option Elab.async false
set_option linter.all false
set_option maxRecDepth 100000
set_option maxHeartbeats 4000000
namespace Vi
open PySem PySem.Spec PyProof.Rows L2

/-! ### the end of a law -/
/-- the script alone is known, or nothing -/
structure OneH (H : Hp) (h : Heap) (a : Addr) : Prop where
  at_ : ∀ b u, H b = some u → b = a ∧ ∃ o xs, u = .frz o (.lst xs) ∧ h.get? b = some o ∧ (o.data matches .seq _ _) = true
section
variable {P : Program} {w : World} {K : PySem.W.Frag} {mg mb : Str → Option Value} {k : Nat} {fa a : Addr} {fd : FuncData} {x : Str} {F : Fn} {s₁ : Shared} {vs : List Value} {ns : List Int}
theorem one_base {H : Hp} {h : Heap} (one : OneH H h a) {b : Addr} {m : Str → Option Value} (n : h.Ns b m) : (hidT h H).Ns b m := by
  obtain ⟨o, es, ep, e, d, r⟩ := n
  refine ⟨o, es, ep, hidT_get e ?_, d, r⟩
  cases q : H b with
  | none => rfl
  | some u =>
    obtain ⟨_, o2, xs, _, e2, hd⟩ := one.at_ b u q
    rw [e] at e2; cases e2
    rw [d] at hd; cases hd
theorem ints_rel {K : PySem.W.Frag} {W : Wd} : ∀ ns : List Int, RDs K W (ns.map V.int) (ns.map D.int)
  | [] => .nil
  | n :: ns => .cons (.int n) (ints_rel ns)
theorem law_core {H : Hp} (one : OneH H s₁.heap a) (hS : SqL K H a (ns.map V.int)) (hok : HOk P w H s₁.heap) (hKa : H a ≠ none → K.lookup a = none)
    (KX : K.In s₁.heap) (hns : s₁.heap.Ns mainGlobals mg) (hb : s₁.heap.Ns builtinsNs mb) (hbb : ∀ x : Str, x ≠ "__name__" → mb x = bootBuiltins x) (hlim : s₁.heap.NoLimit) (hg : s₁.gens = #[]) (hr : Room k callerA)
    (G : ∀ base : Heap, K.In base → base.Ns mainGlobals mg → FnG P w K mg base k fa fd [x] F) (hbind : ∀ (s : Shared) (u : Value), BindsTo s fd ⟨[u], []⟩ [(x, u)])
    (law : ∃ m, F [.frz (ns.map D.int)] [] = .ok (.bl true) m) :
    codeAny (model P w) callerA (.call (.ref fa) ⟨[.ref a], []⟩) (fun r s' => r = .ok (.ret (.bool true)) ∧ OldK s₁.heap s'.heap ∧ s'.os = s₁.os ∧ AllBare s'.gens) s₁ := by
  have kb : K.In (hidT s₁.heap H) := fun b o e => hidT_get (KX b o e) (by
    cases q : H b with
    | none => rfl
    | some u =>
      obtain ⟨eb, _⟩ := one.at_ b u q
      subst eb
      rw [hKa (by rw [q]; simp)] at e; cases e)
  have hM : Mod K mg (hidT s₁.heap H) := by
    refine ⟨kb, one_base one hns, ⟨mb, one_base one hb, hbb⟩, ?_⟩
    obtain ⟨mc, h1, h2⟩ := hlim
    exact ⟨mc, one_base one h1, h2⟩
  have e0 : Env0 P w K mg (hidT s₁.heap H) callerA [] s₁ H :=
    ⟨rfl, hM, fun _ _ e => of_hidT e, Nat.le_of_eq (hidT_size _ _), trivial, fun b hb => (by cases hb), hok, .of_eq hg⟩
  have sp : spOf K mg 1 F [.ref a] H (fun v _ => v = .bl true) (fun _ _ _ => False) := by
    obtain ⟨m, hm⟩ := law
    refine ⟨rfl, ⟨H, []⟩, [], [.frz (ns.map D.int)], ⟨Same.refl _, rfl, List.nodup_nil, fun _ h => (by cases h), fun _ _ _ h => (by simp at h), fun _ _ _ h => (by simp at h)⟩, .cons (.frz hS (ints_rel ns)) .nil, ?_⟩
    rw [hm]
    intro W' H' e rm v rv
    cases rv
    rfl
  refine codeAny_mono (G _ kb (one_base one hns) callerA [] s₁ H ⟨[.ref a], []⟩ [.ref a] [.ref a] _ _ hr rfl e0 (hbind s₁ (.ref a)) (.cons rfl .nil) sp) fun z s2 hz => ?_
  rcases z with e | fl
  · obtain ⟨_, _, _, _, _, _, _, _, _, _, _, _, bad⟩ := hz
    exact bad.elim
  · cases fl with
    | next => exact hz.elim
    | brk => exact hz.elim
    | cont => exact hz.elim
    | ret u =>
      obtain ⟨v, H2, os, bare, un, hok2, rv, q⟩ := hz
      cases q
      cases rv
      refine ⟨rfl, OldK.of_keep fun b o e => ?_, os, bare⟩
      cases q : H b with
      | none => exact un.keep b o e q (fun z => by cases z) (fun z => by cases z)
      | some u =>
        obtain ⟨_, o2, xs, rfl, e2, _⟩ := one.at_ b u q
        rw [e] at e2; cases e2
        exact (hok2 b _ (un.frzs b o _ q)).1
theorem law_G (KX : K.In s₁.heap) (hns : s₁.heap.Ns mainGlobals mg) (hb : s₁.heap.Ns builtinsNs mb) (hbb : ∀ x : Str, x ≠ "__name__" → mb x = bootBuiltins x) (hlim : s₁.heap.NoLimit) (hg : s₁.gens = #[])
    (ha : s₁.heap.get? a = some { cls := .type "list", data := .seq vs.toArray }) (hi : IntsAre vs ns) (hl : ns.length ≤ sizeLine) (hr : Room k callerA)
    (G : ∀ base : Heap, K.In base → base.Ns mainGlobals mg → FnG P w K mg base k fa fd [x] F) (hbind : ∀ (s : Shared) (u : Value), BindsTo s fd ⟨[u], []⟩ [(x, u)])
    (law : ∃ m, F [.frz (ns.map D.int)] [] = .ok (.bl true) m) :
    codeAny (model P w) callerA (.call (.ref fa) ⟨[.ref a], []⟩) (fun r s' => r = .ok (.ret (.bool true)) ∧ OldK s₁.heap s'.heap ∧ s'.os = s₁.os ∧ AllBare s'.gens) s₁ := by
  have rv := vals_ints hi
  have lv := hi.length
  cases hk : K.lookup a with
  | none =>
    refine law_core (H := fun b => if b = a then some (.frz { cls := .type "list", data := .seq vs.toArray } (.lst (ns.map V.int))) else none) ⟨fun b u q => ?_⟩ (.inl (.inr ⟨_, if_pos rfl⟩)) (fun b u q => ?_) (fun _ => hk) KX hns hb hbb hlim hg hr G hbind law
    · split at q
      · rename_i hba
        cases q; subst hba
        exact ⟨rfl, _, _, rfl, ha, rfl⟩
      · cases q
    · dsimp only at q
      split at q
      · rename_i hba
        cases q; subst hba
        exact ⟨ha, by rw [List.length_map]; exact hl, vs, _, rv, ha⟩
      · cases q
  | some o =>
    have e := KX a o hk
    rw [ha] at e
    cases e
    refine law_core (H := fun _ => none) ⟨fun b u q => by cases q⟩ (.inr ⟨_, vs.toArray, _, hk, rfl, rfl, rfl, by rw [List.size_toArray, lv]; exact hl, rv⟩) (fun b u q => by cases q) (fun z => absurd rfl z) KX hns hb hbb hlim hg hr G hbind law
theorem walk_G {l : PySem.W.OpenLaw} {n k : Nat} {q : Program} {loose : List Str} {XP : (Str → Option Value) → Heap → Prop} {YP : World → Heap → Prop} {d : DefRec} {K : Params → PySem.W.Frag} {x : Str} {F : Fn}
    (hn : l.most = some n) (hn2 : n ≤ sizeLine) (hdf : d.params.defaults = []) (hr : Room k callerA) (hY : ∀ (w : World) (h : Heap), YP w h → (K w.params).In h)
    (G : ∀ (w : World) (mg : Str → Option Value) (fa : Addr) (h : Heap), (K w.params).In h → h.Ns mainGlobals mg → mg d.name = some (.ref fa) →
      ∃ fd : FuncData, (∀ (s : Shared) (u : Value), BindsTo s fd ⟨[u], []⟩ [(x, u)]) ∧ ∀ base : Heap, (K w.params).In base → base.Ns mainGlobals mg → FnG l.prog w (K w.params) mg base k fa fd [x] F)
    (law : ∀ ns : List Int, ns.length ≤ n → ∃ m, F [.frz (ns.map D.int)] [] = .ok (.bl true) m) :
    PySem.W.WalkO q loose XP YP l.row.toRowW d [] (fun f vs => PySem.call f vs) := by
  refine Att.attach_call hn hdf ?_
  intro w s0 s1 mg mb fa o pm cd doc a vs ns Gr Y ho hd hcd hmg hobj hints hlen hg
  obtain ⟨fd, hb, hF⟩ := G w mg fa _ (hY w _ Y) Gr.T.g hmg
  exact law_G (hY w _ Y) Gr.T.g Gr.T.b Gr.T.builtins Gr.T.nolimit hg hobj hints (Nat.le_trans hlen hn2) hr hF hb (law ns hlen)
end
end Vi

set_option Elab.async false
set_option linter.all false
set_option maxRecDepth 100000
set_option maxHeartbeats 4000000
namespace Vi
open PySem PySem.Spec PyProof.Rows L2

/-! ### calls of what is built in -/
def CallD (X : Cx) (fv : Value) (g : List D → M → R D) : Prop :=
  ∃ r, CallR X fv r ∧ ∀ (EX : Str → Hp → Prop) (W : Wd) (H : Hp) (m : M) (vs : List V) (xs : List D) (Q : VK), RM X.K X.mg W H m → RDs X.K W vs xs →
    post X.K X.mg W H (g xs m) (fun z W' H' _ => ∀ v, RD X.K W' v z → Q v H') EX → r vs H Q
/-- .. of what makes a new list -/
def CallL (X : Cx) (fv : Value) (g : List D → M → R (List D)) : Prop :=
  ∃ r, CallR X fv r ∧ ∀ (EX : Str → Hp → Prop) (W0 W : Wd) (H0 H : Hp) (m : M) (vs : List V) (xs : List D) (Q : VK), Ex W0 H0 W H → RM X.K X.mg W H m → RDs X.K W vs xs →
    post X.K X.mg W H (g xs m) (fun zs W' H' _ => ∀ p us, H0 p = none → p ∉ W'.φ → W'.I p = none → H' p = some (.lst us) → RDs X.K W' us zs → Q (.ref p) H') EX → r vs H Q
def sCallL (g : List D → M → R (List D)) (ds : SA) : SA := fun ρ m => (ds ρ m).bind g
section
variable {X : Cx} {EX : Str → Hp → Prop} {x : Str} {p pos : Pos} {e : Expr} {es : List Expr} {ds : SA} {id T : String} {g : List D → M → R D} {gl : List D → M → R (List D)}
theorem de_callB (hc : CallD X (.builtin id) g) (hm : X.mg x = none) (ha : DA X EX (e :: es) ds) (hg : Gl X x := by rfl) (hv : bootBuiltins x = some (.builtin id) := by decide +kernel) (hn : x ≠ "__name__" := by decide) (hdb : (x == ("__debug__" : Str)) = false := by decide)
    (he : starEach (e :: es) X.env = (false, eval e X.env) :: starEach es X.env := by rfl) (hpl : (backTo pos (starEach es X.env)).any (·.1) = false := by rfl) : DE X EX (.Call (.Name x p) (e :: es) [] pos) (sCall g ds) := by
  obtain ⟨r, hr, lift⟩ := hc
  exact PE.imp (pe_callB hr hg hm hv ha hn hdb he hpl) fun σ H Q ⟨W, ρ, m, rs, rm, h⟩ => ⟨W, ρ, m, rs, rm, post_mono (post_bind h) fun xs W1 H1 m1 e1 rm1 h1 vs rvs => lift EX W1 H1 m1 vs xs Q rm1 rvs h1⟩
theorem de_callT (hc : CallD X (.type T) g) (hm : X.mg x = none) (ha : DA X EX (e :: es) ds) (hg : Gl X x := by rfl) (hv : bootBuiltins x = some (.type T) := by decide +kernel) (hn : x ≠ "__name__" := by decide) (hdb : (x == ("__debug__" : Str)) = false := by decide)
    (he : starEach (e :: es) X.env = (false, eval e X.env) :: starEach es X.env := by rfl) (hpl : (backTo pos (starEach es X.env)).any (·.1) = false := by rfl) : DE X EX (.Call (.Name x p) (e :: es) [] pos) (sCall g ds) := by
  obtain ⟨r, hr, lift⟩ := hc
  exact PE.imp (pe_callTy hr hg hm hv ha hn hdb he hpl) fun σ H Q ⟨W, ρ, m, rs, rm, h⟩ => ⟨W, ρ, m, rs, rm, post_mono (post_bind h) fun xs W1 H1 m1 e1 rm1 h1 vs rvs => lift EX W1 H1 m1 vs xs Q rm1 rvs h1⟩
theorem dl_callB (hc : CallL X (.builtin id) gl) (hm : X.mg x = none) (ha : DA X EX (e :: es) ds) (hg : Gl X x := by rfl) (hv : bootBuiltins x = some (.builtin id) := by decide +kernel) (hn : x ≠ "__name__" := by decide) (hdb : (x == ("__debug__" : Str)) = false := by decide)
    (he : starEach (e :: es) X.env = (false, eval e X.env) :: starEach es X.env := by rfl) (hpl : (backTo pos (starEach es X.env)).any (·.1) = false := by rfl) : DL X EX (.Call (.Name x p) (e :: es) [] pos) (sCallL gl ds) := by
  obtain ⟨r, hr, lift⟩ := hc
  exact PE.imp (pe_callB hr hg hm hv ha hn hdb he hpl) fun σ H Q ⟨W, ρ, m, rs, rm, h⟩ => ⟨W, ρ, m, rs, rm, post_mono (post_bind h) fun xs W1 H1 m1 e1 rm1 h1 vs rvs => lift EX W W1 H H1 m1 vs xs Q e1 rm1 rvs h1⟩
theorem dl_callT (hc : CallL X (.type T) gl) (hm : X.mg x = none) (ha : DA X EX (e :: es) ds) (hg : Gl X x := by rfl) (hv : bootBuiltins x = some (.type T) := by decide +kernel) (hn : x ≠ "__name__" := by decide) (hdb : (x == ("__debug__" : Str)) = false := by decide)
    (he : starEach (e :: es) X.env = (false, eval e X.env) :: starEach es X.env := by rfl) (hpl : (backTo pos (starEach es X.env)).any (·.1) = false := by rfl) : DL X EX (.Call (.Name x p) (e :: es) [] pos) (sCallL gl ds) := by
  obtain ⟨r, hr, lift⟩ := hc
  exact PE.imp (pe_callTy hr hg hm hv ha hn hdb he hpl) fun σ H Q ⟨W, ρ, m, rs, rm, h⟩ => ⟨W, ρ, m, rs, rm, post_mono (post_bind h) fun xs W1 H1 m1 e1 rm1 h1 vs rvs => lift EX W W1 H H1 m1 vs xs Q e1 rm1 rvs h1⟩
end

/-! ### repr -/
def gRepr : List D → M → R D := fun xs m => match xs with
  | [x] => match toPyR x m with
    | some d => if (SeqAt.shaped d = true ∧ d.showable = true) ∧ d.shown.length ≤ big then .ok (.str d.shown) m else .bad
    | none => .bad
  | _ => .bad
theorem call_reprD {X : Cx} (hgd : X.A.guards = some []) (hu : X.A.units + 100 < cLine) : CallR X (.builtin "repr") (fun xs H Q => ∃ x d, xs = [x] ∧ Dp X.K H x d ∧ SeqAt.shaped d = true ∧ d.showable = true ∧ d.shown.length ≤ sizeLine ∧ Q (.str d.shown) H) := by
  intro pins s σ H xs us Q I r ⟨x, d, hx, dp, sh, sw, hz, q⟩
  subst hx
  obtain ⟨u, rfl, rx⟩ := vals1 r
  obtain ⟨as, rd⟩ := Dp.reads I d x u dp rx
  have hnd : d.hasDict = false := PyData.hasDict_of_canLay d (SeqAt.canLay_of_shaped sh)
  have fin : ∀ (h' : Heap) (t : Tok) (tk : Nat), (∀ b o, s.heap.get? b = some o → h'.get? b = some o) → EP X pins σ Q (.str d.shown t) { s with heap := h', toks := tk } := fun h' t tk hk => ⟨.str _, H, I.kept hk, ⟨_, rfl⟩, q⟩
  have key : ∀ a, u = .ref a → wpAny (model X.prog X.w) X.A (call (.builtin "repr") [u]) (EP X pins σ Q) X.xe s := by
    intro a ea
    subst ea
    have hd := SeqAt.depth_of_shaped sh
    exact repr_of_reads' rd sw (by rw [hnd]; intro z; cases z) hgd (by omega) (fun _ _ e => e) (fun h' t tk hk => fin h' t tk hk) hz
  cases dp with
  | non => cases rx; exact P.repr_of_none (fin s.heap _ _ fun _ _ e => e)
  | bl b => cases rx; exact P.repr_of_bool (by have := fin s.heap s.toks (s.toks + 1) fun _ _ e => e; simpa only [PyData.shown] using this)
  | int i => obtain ⟨t, rfl⟩ := rx; exact P.repr_of_int (by simpa [PyData.showable] using sw) (fin s.heap _ _ fun _ _ e => e)
  | str x => obtain ⟨t, rfl⟩ := rx; exact P.repr_of_str (fin s.heap _ _ fun _ _ e => e) hz
  | lst h1 h2 => cases rx; exact key _ rfl
  | tup h1 h2 => cases rx; exact key _ rfl
theorem c_repr {X : Cx} (hgd : X.A.guards = some []) (hu : X.A.units + 100 < cLine) : CallD X (.builtin "repr") gRepr := ⟨_, call_reprD hgd hu, fun EX W H m vs xs Q rm r hp => by
  unfold gRepr at hp
  split at hp
  · rename_i x
    obtain ⟨v, rfl, rv⟩ := RDs.inv1 r
    split at hp
    · rename_i d hd
      split at hp
      · rename_i hz
        exact ⟨v, d, rfl, dpR_of rm rv hd, hz.1.1, hz.1.2, by rw [big_eq]; exact hz.2, post_ok hp rm _ (.str _)⟩
      · exact hp.elim
    · exact hp.elim
  · exact hp.elim⟩

/-! ### len, tuple, list, sum, all, any, abs, int, str, min, max -/
def gLen : List D → M → R D := fun xs m => match xs with
  | [.str z] => if z.length ≤ big then .ok (.int z.length) m else .bad
  | [x] => match asSeq x m with
    | some ys => .ok (.int ys.length) m
    | none => .bad
  | _ => .bad
theorem c_len {X : Cx} : CallD X (.builtin "len") gLen := ⟨_, call_len, fun EX W H m vs xs Q rm r hp => by
  unfold gLen at hp
  split at hp
  · rename_i z
    obtain ⟨v, rfl, rv⟩ := RDs.inv1 r
    cases rv
    split at hp
    · rename_i hz
      exact ⟨_, z.length, rfl, ⟨by rw [big_eq]; exact hz, rfl⟩, post_ok hp rm _ (.int _)⟩
    · exact hp.elim
  · rename_i x _
    obtain ⟨v, rfl, rv⟩ := RDs.inv1 r
    split at hp
    · rename_i ys hy
      obtain ⟨a, us, rfl, hs, r2⟩ := seq_of rm rv hy
      refine ⟨_, ys.length, rfl, ?_, post_ok hp rm _ (.int _)⟩
      rcases hs with hs | hs
      · exact .inl ⟨us, hs, r2.length.symm⟩
      · exact .inr ⟨us, hs, r2.length.symm⟩
    · exact hp.elim
  · exact hp.elim⟩
/-- tuple(xs), its object told -/
theorem call_tupleS {X : Cx} : CallR X (.type "tuple") (fun xs H Q => ∃ p ys, xs = [.ref p] ∧ ((SqL X.K H p ys ∧ ∀ l o, H l = none → o.dict = none → Q (.ref l) (upd H l (.frz o (.tup ys)))) ∨ (SqT X.K H p ys ∧ Q (.ref p) H))) := by
  intro pins s σ H xs us Q I r ⟨p, ys, hx, h⟩
  subst hx
  obtain ⟨u, rfl, rx⟩ := vals1 r
  cases rx
  rcases h with ⟨hq, q⟩ | ⟨hq, q⟩
  · obtain ⟨its, r', pl, hz⟩ := I.list hq
    refine call_tuple_list pl.isList (fun h' kp => ?_) (by rw [List.size_toArray, ← r'.length]; exact hz)
    have I1 : Inv X pins σ H { s with heap := h' } := I.kept (t' := s.toks) kp
    have J := I1.laid (o := .frz _ (.tup ys)) (t' := s.toks) (fun _ _ e => Heap.get?_push_of_some _ e) (Nat.le_refl _) ⟨Heap.get?_push_size _ rfl, hz, its, r', IsTup.new _ _⟩
    exact ⟨.ref _, _, J, rfl, q _ _ I1.fresh rfl⟩
  · obtain ⟨its, r', pl, hz⟩ := I.tuple hq
    exact call_tuple_same pl ⟨.ref p, H, I, rfl, q⟩
def gTuple : List D → M → R D := fun xs m => match xs with
  | [.tup ys] => .ok (.tup ys) m
  | [x] => match asList x m with
    | some ys => .ok (.tup ys) m
    | none => .bad
  | _ => .bad
theorem c_tuple {X : Cx} : CallD X (.type "tuple") gTuple := ⟨_, call_tupleS, fun EX W H m vs xs Q rm r hp => by
  unfold gTuple at hp
  split at hp
  · obtain ⟨v, rfl, rv⟩ := RDs.inv1 r
    cases rv with
    | tup hT hN r2 => exact ⟨_, _, rfl, .inr ⟨same_T rm.sub hT, post_ok hp rm _ (.tup hT hN r2)⟩⟩
  · obtain ⟨v, rfl, rv⟩ := RDs.inv1 r
    split at hp
    · rename_i ys hy
      obtain ⟨a, us, rfl, hs, r2⟩ := list_of rm rv hy
      refine ⟨a, us, rfl, .inl ⟨hs, fun l o hl ho => ?_⟩⟩
      obtain ⟨e4, rm4, r4⟩ := new_tup rm hl ho r2
      exact hp _ _ e4 rm4 _ r4
    · exact hp.elim
  · exact hp.elim⟩
def gList : List D → M → R (List D) := fun xs m => match xs with
  | [x] => match asSeq x m with
    | some ys => .ok ys m
    | none => .bad
  | _ => .bad
theorem c_list {X : Cx} : CallL X (.type "list") gList := ⟨_, call_list_of, fun EX W0 W H0 H m vs xs Q e0 rm r hp => by
  unfold gList at hp
  split at hp
  · obtain ⟨v, rfl, rv⟩ := RDs.inv1 r
    split at hp
    · rename_i ys hy
      obtain ⟨a, us, rfl, hs, r2⟩ := seq_of rm rv hy
      exact ⟨a, us, rfl, hs, fun l hl => fresh_post e0 rm hl r2 hp⟩
    · exact hp.elim
  · exact hp.elim⟩
/-- a list of ints -/
def intsD : List D → Option (List Int)
  | [] => some []
  | .int i :: xs => (intsD xs).map (i :: ·)
  | _ :: _ => none
theorem intsD_of {K : PySem.W.Frag} {W : Wd} : ∀ {vs : List V} {ds : List D} {ns : List Int}, RDs K W vs ds → intsD ds = some ns → vs = ns.map V.int
  | _, _, _, .nil, e => by cases e; rfl
  | _, _, _, .cons r t, e => by
    cases r with
    | int i =>
      simp only [intsD, Option.map_eq_some_iff] at e
      obtain ⟨ms, h1, rfl⟩ := e
      rw [intsD_of t h1]; rfl
    | _ => simp [intsD] at e
theorem sum_tupR {X : Cx} (hc : X.calm = true) : CallR X (.builtin "sum") (fun vs H Q => ∃ (a : Addr) (ns : List Int), vs = [V.ref a] ∧ SqT X.K H a (ns.map V.int) ∧ Q (.int ns.sum) H) := by
  intro pins s σ H vs us Q I r ⟨a, ns, hv, hs, q⟩
  subst hv
  obtain ⟨its, rv, hl, _⟩ := I.tuple hs
  rw [Vals.ref1 r]
  obtain ⟨zs, e⟩ := rv.ints.allInts.items
  have hn : (zs.toList.map (·.1)) = ns := by rw [← nums_intItems, ← e]; exact rv.ints.numsOf
  rw [e] at hl
  refine call_sum_walkG (iter_tuple hl ?_)
  have hne : a ≠ s.heap.objs.size := Nat.ne_of_lt hl.lt
  refine ⟨_, _, _, _, _, _, numAt zs, rfl, Walks.tuple (A := X.A.in1) (I.ok.hd hc) _ a hne (intItems zs), ⟨⟨_, Heap.get?_push_size _ rfl, rfl, rfl⟩, hl.push _⟩, ?_, fun _ _ => intItems_at, fun h' tk t' hk => ?_⟩
  · intro b hb
    simp at hb
    rcases hb with rfl | rfl
    · exact Heap.lt_size (Heap.get?_push_size s.heap rfl)
    · exact Nat.lt_trans hl.lt (Heap.lt_size (Heap.get?_push_size s.heap rfl))
  · refine ⟨.int _, H, I.kept fun b o e => hk b o (fun hm => ?_) (Heap.get?_push_of_some _ e), ⟨_, rfl⟩, ?_⟩
    · simp at hm; subst hm; exact absurd (Heap.lt_size e) (Nat.lt_irrefl _)
    have : preSum (numAt zs) (intItems zs).size = ns.sum := by
      rw [preSum_eq, List.take_of_length_le (by simp [intItems]), hn]
    rw [this]; exact q
def gSum : List D → M → R D := fun xs m => match xs with
  | [x] => match asSeq x m with
    | some ys => match intsD ys with
      | some ns => .ok (.int ns.sum) m
      | none => .bad
    | none => .bad
  | _ => .bad
theorem CallR.or' {X : Cx} {f : Value} {r r' : List V → Hp → VK → Prop} (h : CallR X f r) (h' : CallR X f r') : CallR X f (fun xs H Q => r xs H Q ∨ r' xs H Q) :=
  fun pins s σ H xs us Q I rl q => q.elim (h pins s σ H xs us Q I rl) (h' pins s σ H xs us Q I rl)
theorem c_sum {X : Cx} (hc : X.calm = true) : CallD X (.builtin "sum") gSum := ⟨_, CallR.or' (cr_sum hc) (sum_tupR hc), fun EX W H m vs xs Q rm r hp => by
  unfold gSum at hp
  split at hp
  · obtain ⟨v, rfl, rv⟩ := RDs.inv1 r
    split at hp
    · rename_i ys hy
      split at hp
      · rename_i ns hn
        obtain ⟨a, us, rfl, hs, r2⟩ := seq_of rm rv hy
        have e := intsD_of r2 hn
        subst e
        rcases hs with hs | hs
        · exact .inl ⟨a, ns, rfl, hs, post_ok hp rm _ (.int _)⟩
        · exact .inr ⟨a, ns, rfl, hs, post_ok hp rm _ (.int _)⟩
      · exact hp.elim
    · exact hp.elim
  · exact hp.elim⟩
def blsD : List D → Option (List Bool)
  | [] => some []
  | .bl i :: xs => (blsD xs).map (i :: ·)
  | _ :: _ => none
theorem blsD_of {K : PySem.W.Frag} {W : Wd} : ∀ {vs : List V} {ds : List D} {ns : List Bool}, RDs K W vs ds → blsD ds = some ns → vs = ns.map V.bl
  | _, _, _, .nil, e => by cases e; rfl
  | _, _, _, .cons r t, e => by
    cases r with
    | bl i =>
      simp only [blsD, Option.map_eq_some_iff] at e
      obtain ⟨ms, h1, rfl⟩ := e
      rw [blsD_of t h1]; rfl
    | _ => simp [blsD] at e
def gBls (f : List Bool → Bool) : List D → M → R D := fun xs m => match xs with
  | [x] => match asList x m with
    | some ys => match blsD ys with
      | some bs => .ok (.bl (f bs)) m
      | none => .bad
    | none => .bad
  | _ => .bad
theorem bls_lift {X : Cx} {f : List Bool → Bool} {r : List V → Hp → VK → Prop} {EX : Str → Hp → Prop} {W : Wd} {H : Hp} {m : M} {vs : List V} {xs : List D} {Q : VK} (hr : ∀ a bs, SqL X.K H a (bs.map V.bl) → Q (.bl (f bs)) H → r [.ref a] H Q)
    (rm : RM X.K X.mg W H m) (rl : RDs X.K W vs xs) (hp : post X.K X.mg W H (gBls f xs m) (fun z W' H' _ => ∀ v, RD X.K W' v z → Q v H') EX) : r vs H Q := by
  unfold gBls at hp
  split at hp
  · obtain ⟨v, rfl, rv⟩ := RDs.inv1 rl
    split at hp
    · rename_i ys hy
      split at hp
      · rename_i ns hn
        obtain ⟨a, us, rfl, hs, r2⟩ := list_of rm rv hy
        have e := blsD_of r2 hn
        subst e
        exact hr a ns hs (post_ok hp rm _ (.bl _))
      · exact hp.elim
    · exact hp.elim
  · exact hp.elim
def gAll := gBls fun bs => bs.all id
def gAny := gBls fun bs => bs.any id
theorem c_all {X : Cx} (hc : X.calm = true) : CallD X (.builtin "all") gAll := ⟨_, cr_all hc, fun EX W H m vs xs Q rm r hp => bls_lift (r := rAll X.K) (fun a bs hs q => ⟨a, bs, rfl, hs, q⟩) rm r hp⟩
theorem c_any {X : Cx} (hc : X.calm = true) : CallD X (.builtin "any") gAny := ⟨_, cr_any hc, fun EX W H m vs xs Q rm r hp => bls_lift (r := rAny X.K) (fun a bs hs q => ⟨a, bs, rfl, hs, q⟩) rm r hp⟩
def gAbs : List D → M → R D := fun xs m => match xs with
  | [.int i] => .ok (.int (if i < 0 then -i else i)) m
  | _ => .bad
theorem c_abs {X : Cx} : CallD X (.builtin "abs") gAbs := ⟨_, call_abs, fun EX W H m vs xs Q rm r hp => by
  unfold gAbs at hp
  split at hp
  · obtain ⟨v, rfl, rv⟩ := RDs.inv1 r
    cases rv
    exact ⟨_, rfl, post_ok hp rm _ (.int _)⟩
  · exact hp.elim⟩
def gMax2 : List D → M → R D := fun xs m => match xs with
  | [.int i, .int j] => .ok (.int (if j > i then j else i)) m
  | _ => .bad
def gMin2 : List D → M → R D := fun xs m => match xs with
  | [.int i, .int j] => .ok (.int (if j < i then j else i)) m
  | _ => .bad
theorem c_max2 {X : Cx} (hc : X.calm = true) : CallD X (.builtin "max") gMax2 := ⟨_, call_max2 hc, fun EX W H m vs xs Q rm r hp => by
  unfold gMax2 at hp
  split at hp
  · obtain ⟨v, u, rfl, rv, ru⟩ := RDs.inv2 r
    cases rv; cases ru
    exact ⟨_, _, rfl, post_ok hp rm _ (.int _)⟩
  · exact hp.elim⟩
theorem c_min2 {X : Cx} (hc : X.calm = true) : CallD X (.builtin "min") gMin2 := ⟨_, call_min2 hc, fun EX W H m vs xs Q rm r hp => by
  unfold gMin2 at hp
  split at hp
  · obtain ⟨v, u, rfl, rv, ru⟩ := RDs.inv2 r
    cases rv; cases ru
    exact ⟨_, _, rfl, post_ok hp rm _ (.int _)⟩
  · exact hp.elim⟩
/-- the greatest, the least of a list of ints -/
def maxI : List Int → Int
  | [] => 0
  | [x] => x
  | x :: y :: r => max x (maxI (y :: r))
def minI : List Int → Int
  | [] => 0
  | [x] => x
  | x :: y :: r => min x (minI (y :: r))
theorem maxI_of : ∀ (x : Int) (r : List Int), maxI (x :: r) ∈ x :: r ∧ ∀ y ∈ x :: r, y ≤ maxI (x :: r)
  | x, [] => by simp [maxI]
  | x, y :: r => by
    obtain ⟨h1, h2⟩ := maxI_of y r
    have e : maxI (x :: y :: r) = max x (maxI (y :: r)) := rfl
    rw [e]
    refine ⟨?_, fun z hz => ?_⟩
    · rcases Int.le_total x (maxI (y :: r)) with q | q
      · rw [Int.max_eq_right q]; exact List.mem_cons_of_mem _ h1
      · rw [Int.max_eq_left q]; exact List.mem_cons_self
    · rcases List.mem_cons.mp hz with q | q
      · subst q; omega
      · have := h2 z q; omega
theorem minI_of : ∀ (x : Int) (r : List Int), minI (x :: r) ∈ x :: r ∧ ∀ y ∈ x :: r, minI (x :: r) ≤ y
  | x, [] => by simp [minI]
  | x, y :: r => by
    obtain ⟨h1, h2⟩ := minI_of y r
    have e : minI (x :: y :: r) = min x (minI (y :: r)) := rfl
    rw [e]
    refine ⟨?_, fun z hz => ?_⟩
    · rcases Int.le_total x (minI (y :: r)) with q | q
      · rw [Int.min_eq_left q]; exact List.mem_cons_self
      · rw [Int.min_eq_right q]; exact List.mem_cons_of_mem _ h1
    · rcases List.mem_cons.mp hz with q | q
      · subst q; omega
      · have := h2 z q; omega
theorem maxI_eq {ns : List Int} {m : Int} (h0 : 0 < ns.length) (h1 : m ∈ ns) (h2 : ∀ y ∈ ns, y ≤ m) : m = maxI ns := by
  cases ns with
  | nil => simp at h0
  | cons x r =>
    obtain ⟨a, b⟩ := maxI_of x r
    have := h2 _ a
    have := b _ h1
    omega
theorem minI_eq {ns : List Int} {m : Int} (h0 : 0 < ns.length) (h1 : m ∈ ns) (h2 : ∀ y ∈ ns, m ≤ y) : m = minI ns := by
  cases ns with
  | nil => simp at h0
  | cons x r =>
    obtain ⟨a, b⟩ := minI_of x r
    have := h2 _ a
    have := b _ h1
    omega
def gInt1 : List D → M → R D := fun xs m => match xs with
  | [.int i] => .ok (.int i) m
  | [.bl k] => .ok (.int (if k then 1 else 0)) m
  | _ => .bad
theorem c_int {X : Cx} : CallD X (.type "int") gInt1 := ⟨_, call_int1, fun EX W H m vs xs Q rm r hp => by
  unfold gInt1 at hp
  split at hp
  · obtain ⟨v, rfl, rv⟩ := RDs.inv1 r
    cases rv
    exact .inl ⟨_, rfl, post_ok hp rm _ (.int _)⟩
  · obtain ⟨v, rfl, rv⟩ := RDs.inv1 r
    cases rv
    exact .inr ⟨_, rfl, post_ok hp rm _ (.int _)⟩
  · exact hp.elim⟩
def gIntS : List D → M → R D := fun xs m => match xs with
  | [.str x] => match PySem.intText? x with
    | some n => if x.length ≤ 640 then .ok (.int n) m else .bad
    | none => .bad
  | _ => .bad
theorem c_intS {X : Cx} : CallD X (.type "int") gIntS := ⟨_, call_int_str, fun EX W H m vs xs Q rm r hp => by
  unfold gIntS at hp
  split at hp
  · obtain ⟨v, rfl, rv⟩ := RDs.inv1 r
    cases rv
    split at hp
    · rename_i n hn
      split at hp
      · rename_i hz
        exact ⟨_, n, rfl, hn, hz, post_ok hp rm _ (.int _)⟩
      · exact hp.elim
    · exact hp.elim
  · exact hp.elim⟩
def gStr1 : List D → M → R D := fun xs m => match xs with
  | [.int i] => if i.natAbs.log2 < 1920 then .ok (.str (toString i)) m else .bad
  | _ => .bad
theorem c_str {X : Cx} : CallD X (.type "str") gStr1 := ⟨_, call_str_int, fun EX W H m vs xs Q rm r hp => by
  unfold gStr1 at hp
  split at hp
  · obtain ⟨v, rfl, rv⟩ := RDs.inv1 r
    cases rv
    split at hp
    · rename_i hz
      exact ⟨_, rfl, hz, post_ok hp rm _ (.str _)⟩
    · exact hp.elim
  · exact hp.elim⟩

/-! ### isinstance of a built-in type -/
def tyN : D → M → Option String
  | .non, _ => some "NoneType"
  | .bl _, _ => some "bool"
  | .int _, _ => some "int"
  | .str _, _ => some "str"
  | .tup _, _ => some "tuple"
  | .lst _, _ => some "list"
  | .frz _, _ => some "list"
  | .ref n, m => match m[n]? with
    | some (.lst _) => some "list"
    | some (.dic _) => some "dict"
    | some (.dct _) => some "dict"
    | _ => none
theorem tyN_of {K : PySem.W.Frag} {mg : Str → Option Value} {W : Wd} {H : Hp} {m : M} {v : V} {x : D} {T : String} (rm : RM K mg W H m) (r : RD K W v x) (h : tyN x m = some T) : TyX K H v (.type T) := by
  have lists : ∀ {a : Addr} {vs : List V}, SqL K H a vs → TyX K H (.ref a) (.type "list") := fun {a vs} q => by
    rcases q with (q | ⟨o, q⟩) | ⟨o, its, n, q, c, _⟩
    · exact .base (.lst q)
    · exact .base (.frz q)
    · exact .kList q c
  cases r with
  | non => cases h; exact .base .non
  | bl b => cases h; exact .base (.bl b)
  | int i => cases h; exact .base (.int i)
  | str x => cases h; exact .base (.str x)
  | tup hT hN r =>
    cases h
    rcases same_T rm.sub hT with (q | ⟨o, q⟩) | ⟨o, its, n, q, c, _⟩
    · exact .base (.tup q)
    · exact .fTuple q
    · exact .kTuple q c
  | lst q r => cases h; exact .base (.lst (rm.sub _ _ q))
  | frz q r => cases h; exact lists (rm.sub.seq q)
  | ref q =>
    dsimp only [tyN] at h
    split at h
    · rename_i xs hx
      cases h
      obtain ⟨o, ho, ⟨vs, rfl, r⟩, _⟩ := rm.get q hx (by simp)
      exact .base (.lst ho)
    · rename_i xs hx
      cases h
      obtain ⟨o, ho, ⟨vs, rfl, r⟩, _⟩ := rm.get q hx (by simp)
      exact .base (.dK ho)
    · rename_i xs hx
      cases h
      obtain ⟨o, ho, ⟨vs, rfl, r⟩, _⟩ := rm.get q hx (by simp)
      exact .base (.dT ho)
    · cases h
def sIsi (T : String) (d : SE) : SE := fun ρ m => (d ρ m).bind fun x m => match tyN x m with
  | some n => match kitB n T with
    | some b => .ok (.bl b) m
    | none => .bad
  | none => .bad
theorem de_isi {X : Cx} {EX : Str → Hp → Prop} {e : Expr} {d : SE} {T : String} {tx : Str} {p q pos : Pos} (he : DE X EX e d) (hm : X.mg "isinstance" = none) (hm2 : X.mg tx = none) (hg : Gl X "isinstance" := by rfl) (hg2 : Gl X tx := by rfl)
    (hv : bootBuiltins tx = some (.type T) := by decide +kernel) (hn2 : tx ≠ "__name__" := by decide) (hd2 : (tx == ("__debug__" : Str)) = false := by decide)
    (h1 : starEach [e, .Name tx q] X.env = (false, eval e X.env) :: starEach [.Name tx q] X.env := by rfl) (h2 : starEach [.Name tx q] X.env = (false, eval (.Name tx q) X.env) :: starEach [] X.env := by rfl) (hpl : (backTo pos (starEach [.Name tx q] X.env)).any (·.1) = false := by rfl) :
    DE X EX (.Call (.Name "isinstance" p) [e, .Name tx q] [] pos) (sIsi T d) := by
  have boot : bootBuiltins (Str.ofString "isinstance") = some (.builtin "isinstance") := by decide +kernel
  have he2 : PE X (.Name tx q) (tC (.ty T)) := pe_bltn hg2 hm2 hv (show L2.RelV (.ty T) (.type T) from rfl) hn2 hd2
  refine PE.imp (pe_callB call_isi hg hm boot (pa_cons he (pa_cons he2 pa_nil h2) h1) (by decide) (by decide) h1 hpl) fun σ H Q ⟨W, ρ, m, rs, rm, h⟩ => ⟨W, ρ, m, rs, rm, post_mono (post_bind h) fun x W1 H1 m1 e1 rm1 h1 v rv => ?_⟩
  split at h1
  · rename_i n hn
    split at h1
    · rename_i b hb
      exact ⟨v, .ty T, _, _, b, rfl, .ty T, tyN_of rm1 rv hn, kit_ty hb, post_ok h1 rm1 _ (.bl b)⟩
    · exact h1.elim
  · exact h1.elim

/-! ### xs.append -/
def sApp (do_ d : SE) : SE := fun ρ m => (do_ ρ m).bind fun o m => match o with
  | .ref n => match m[n]? with
    | some (.lst _) => (d ρ m).bind fun x m => match m[n]? with
      | some (.lst xs) => if xs.length < big then .ok .non (m.set n (.lst (xs ++ [x]))) else .bad
      | _ => .bad
    | _ => .bad
  | _ => .bad
theorem de_app {X : Cx} {EX : Str → Hp → Prop} {o e : Expr} {do_ d : SE} {apos cpos : Pos} (ho : DE X EX o do_) (he : DE X EX e d)
    (hbase : attributeBase o "append" X.env (eval o X.env) = eval o X.env := by rfl)
    (hfew : ((backTo cpos (starEach [e] X.env)).all (fun x => !x.1) && (backToKw cpos (keywordEach [] X.env)).all (fun x => x.1.isSome)
      && decide ([e].length + ([] : List Keyword).length + (if ([] : List Keyword).isEmpty then 0 else 1) < 30)) = true := by rfl)
    (hline : (apos.endLine == cpos.line) = true := by rfl) (hs : starEach [e] X.env = (false, eval e X.env) :: starEach [] X.env := by rfl) :
    DE X EX (.Call (.Attribute o "append" apos) [e] [] cpos) (sApp do_ d) :=
  PE.imp (pe_bm PySem.F.plainAttrs_list PySem.F.slot_list_append PySem.F.type_list_append mt_append ho (pa_cons he pa_nil hs) hbase hfew hline hs) fun σ H Q ⟨W, ρ, m, rs, rm, h⟩ => ⟨W, ρ, m, rs, rm, post_mono (post_bind h) fun x W1 H1 m1 e1 rm1 h1 v rv => by
    cases x with
    | ref n =>
      dsimp only at h1
      split at h1
      · rename_i ys hy
        cases rv with
        | @ref _ a q =>
          obtain ⟨u, hu, ⟨vs, rfl, r⟩, _⟩ := rm1.get q hy (by simp)
          refine ⟨.inl ⟨rfl, vs, .inl (.inl hu)⟩, W1, ρ, m1, rs.mono e1.le, rm1, post_mono (post_bind h1) fun x W2 H2 m2 e2 rm2 h2 w rw' => ?_⟩
          split at h2
          · rename_i xs hx
            split at h2
            · rename_i hz
              have q2 := e2.le.get q
              obtain ⟨u, hu, ⟨vs, rfl, r⟩, _⟩ := rm2.get q2 hx (by simp)
              refine ⟨a, vs, w, rfl, rfl, hu, by rw [r.length, big_eq]; exact hz, ?_⟩
              obtain ⟨e3, rm3⟩ := set_cell (c' := .lst (xs ++ [x])) (o := .lst (vs ++ [w])) rm2 q2 hx (by simp) ⟨_, rfl, r.append (.cons rw' .nil)⟩
              exact h2 _ _ e3 rm3 _ .non
            · exact h2.elim
          · exact h2.elim
      · exact h1.elim
    | _ => exact h1.elim⟩
end Vi

set_option Elab.async false
set_option linter.all false
set_option maxRecDepth 100000
set_option maxHeartbeats 4000000
namespace Vi
open PySem PySem.Spec PyProof.Rows L2

/-! ### a list or a tuple, by b -/
def Sq (b : Bool) (K : PySem.W.Frag) (H : Hp) (a : Addr) (vs : List V) : Prop := match b with
  | true => SqL K H a vs
  | false => SqT K H a vs
def ItsAt (b : Bool) (h : Heap) (a : Addr) (items : Array Value) : Prop := match b with
  | true => h.IsList a items
  | false => h.IsTuple a items
def itAt (b : Bool) (h : Heap) (it a : Addr) (i : Nat) : Prop := match b with
  | true => h.IsListIter it a i
  | false => h.IsTupleIter it a i
def itObj (b : Bool) (a : Addr) : Obj := match b with
  | true => { cls := .type "list_iterator", data := .fields #[.ref a, .int 0 0] }
  | false => { cls := .type "tuple_iterator", data := .fields #[.ref a, .int 0 0] }
theorem sq_its {X : Cx} {pins : List (Addr × Obj)} {σ : L2.St} {H : Hp} {s : Shared} {b : Bool} {a : Addr} {vs : List V} (I : Inv X pins σ H s) (h : Sq b X.K H a vs) : ∃ its : List Value, Vals vs its ∧ ItsAt b s.heap a its.toArray ∧ a < s.heap.objs.size := by
  cases b with
  | true => obtain ⟨its, r, p, _⟩ := I.list h; exact ⟨its, r, p.isList, p.lt⟩
  | false => obtain ⟨its, r, p, _⟩ := I.tuple h; exact ⟨its, r, p, p.lt⟩
theorem sq_inj {X : Cx} {pins : List (Addr × Obj)} {σ : L2.St} {H : Hp} {s : Shared} {b : Bool} {a : Addr} {vs us : List V} (I : Inv X pins σ H s) (h : Sq b X.K H a vs) (h' : Sq b X.K H a us) : vs = us := by
  cases b with
  | true => exact I.list_inj h h'
  | false => exact I.tuple_inj h h'
theorem sq_same {K : PySem.W.Frag} {b : Bool} {H H' : Hp} {a : Addr} {vs : List V} (e : Same H H') (h : Sq b K H a vs) : Sq b K H' a vs := by
  cases b with
  | true => exact e.seq h
  | false => exact same_T e h
theorem drawsB {prog : Program} {w : World} {A : Around} (hh : A.handled = none) (b : Bool) (it a : Addr) (hne : a ≠ it) (items : Array Value) : Draws prog w A it [it, a] items.size (fun i v => items[i]? = some v) (fun i h => itAt b h it a i ∧ ItsAt b h a items) := by
  cases b with
  | true => exact Draws.list hh it a hne items
  | false => exact Draws.tuple hh it a hne items
theorem beginsB (b : Bool) (a : Addr) (items : Array Value) : Begins (.ref a) (itObj b a) (fun h => ItsAt b h a items) := by
  cases b with
  | true => exact begins_list a items
  | false => exact begins_tuple a items
theorem itAt_obj {b : Bool} {h : Heap} {it a : Addr} {i : Nat} (x : itAt b h it a i) : ∃ o, h.get? it = some o ∧ ∀ v, o.data ≠ .cell v := by
  cases b with
  | true => obtain ⟨o, ho, hc, hd⟩ := x; exact ⟨o, ho, fun v q => by rw [hd] at q; cases q⟩
  | false => obtain ⟨o, ho, hc, hd⟩ := x; exact ⟨o, ho, fun v q => by rw [hd] at q; cases q⟩
theorem itAt_keep {b : Bool} {h h' : Heap} {it a : Addr} {i : Nat} (x : itAt b h it a i) (k : ∀ o, h.get? it = some o → h'.get? it = some o) : itAt b h' it a i := by
  cases b with
  | true => obtain ⟨o, ho, r⟩ := x; exact ⟨o, k o ho, r⟩
  | false => obtain ⟨o, ho, r⟩ := x; exact ⟨o, k o ho, r⟩
theorem itAt_new {b : Bool} {h : Heap} {it a : Addr} (x : h.get? it = some (itObj b a)) : itAt b h it a 0 := by
  cases b with
  | true => exact ⟨_, x, rfl, rfl⟩
  | false => exact ⟨_, x, rfl, rfl⟩

/-! ### enumerate -/
theorem enum_one {v : Value} {o : Obj} {HH : Heap → Prop} (B : Begins v o HH) :
    Meets (Builtin.«enumerate.__new__» ⟨[.type "enumerate", v], []⟩) (fun _ R s => HH s.heap ∧
      R (.ok (.ret (.ref (s.heap.push o).objs.size))) { s with heap := (s.heap.push o).push { cls := .type "enumerate", data := .fields #[.none, .bool false, .ref s.heap.objs.size, rawInt 0, .none, .none] } }) :=
  .of_wp fun prog w A R s h => by
    obtain ⟨hp, g, d, tk, os⟩ := s
    obtain ⟨hH, h⟩ := h
    have sub1 := sub_enumerate
    have walks : ∀ {A' : Around} {E Q : Value → Shared → Prop}, Q (.ref hp.objs.size) ⟨hp.push o, g, d, tk, os⟩ → wpAny (model prog w) A' (pyIter v) Q E ⟨hp, g, d, tk, os⟩ := fun q => B.iter prog w _ _ ⟨hp, g, d, tk, os⟩ _ hH q
    wp_walk using walks
    refine wpAny_stack_any fun st => wpAny_pure ?_
    split
    · rename_i c _ _ _ _ _
      cases (c == Value.type "enumerate") <;> (wp_walk using walks; exact ⟨_, rfl, h⟩)
    · wp_walk using walks
      exact ⟨_, rfl, h⟩
theorem call_enum1 {prog : Program} {w : World} {A : Around} {E : Value → Shared → Prop} {s : Shared} {v : Value} {o : Obj} {HH : Heap → Prop} {Q : Value → Shared → Prop} (B : Begins v o HH) (h1 : HH s.heap)
    (h : ∀ h', IsEnum h' (s.heap.objs.size + 1) s.heap.objs.size 0 .none → h'.get? s.heap.objs.size = some o → (∀ b o, s.heap.get? b = some o → h'.get? b = some o) → Q (.ref (s.heap.objs.size + 1)) { s with heap := h' }) :
    wpAny (model prog w) A (call (.type "enumerate") [v]) Q E s := by
  refine callType_new F.called_enumerate (by decide) (F.typeCall_enumerate_1 _) (F.newCall_enumerate_1 _) (fun obj => F.args_object_init_2 obj _) F.entry_enumerate_new (enum_one B) ⟨h1, ?_⟩
  have hz : (s.heap.push o).objs.size = s.heap.objs.size + 1 := Heap.size_push ..
  show _ ∧ _
  rw [hz]
  have he : IsEnum ((s.heap.push o).push { cls := .type "enumerate", data := .fields #[.none, .bool false, .ref s.heap.objs.size, rawInt 0, .none, .none] }) (s.heap.objs.size + 1) s.heap.objs.size 0 .none := by
    have q := Heap.get?_push_size (s.heap.push o) (o := { cls := .type "enumerate", data := .fields #[.none, .bool false, .ref s.heap.objs.size, rawInt 0, .none, .none] }) rfl
    rw [hz] at q; exact q
  exact ⟨⟨_, he, rfl⟩, h _ he (Heap.get?_push_of_some _ (Heap.get?_push_size _ B.free)) fun b o x => Heap.get?_push_of_some _ (Heap.get?_push_of_some _ x)⟩
def IteB (b : Bool) (K : PySem.W.Frag) (a : Addr) : It :=
  ⟨fun i H => ∃ (vs : List V) (x : V), Sq b K H a vs ∧ vs[i]? = some x, fun i H v H' => ∃ T x, v = .ref T ∧ H T = none ∧ H' = upd H T (.tup [.int (i : Nat), x]) ∧ ∀ vs, Sq b K H a vs → vs[i]? = some x, fun i H => ∃ vs : List V, Sq b K H a vs ∧ vs.length = i⟩
theorem turn_enumB {P : Program} {w : World} {K : PySem.W.Frag} {elts : List Expr} {kk : Nat} {tpos : Pos} (b : Bool) (a e it : Addr) (hne : e ≠ it) (ha : a ≠ it) (ha2 : a ≠ e) :
    Turn P w K (.Tuple elts kk tpos) (IteB b K a) [e, it] e (fun i h => (∃ old, IsEnum h e it ((i : Nat) : Int) old) ∧ itAt b h it a i) where
  mem := by simp
  obj := fun i h st c hc => by
    obtain ⟨⟨old, he⟩, x⟩ := st
    simp at hc
    rcases hc with rfl | rfl
    · exact ⟨_, he, fun v q => nomatch q⟩
    · exact itAt_obj x
  keep := fun i h h' st k => by
    obtain ⟨⟨old, he⟩, x⟩ := st
    exact ⟨⟨old, k e (by simp) _ he⟩, itAt_keep x fun o q => k it (by simp) o q⟩
  item := by
    intro X hP hw hK hc i pins s σ H E I hf ⟨⟨old, he⟩, x⟩ ⟨vs, y, hq, hx⟩
    subst hP hw hK
    obtain ⟨its, rv, p, hal⟩ := sq_its I hq
    obtain ⟨u, hu, ru⟩ := rv.get hx
    have hlt : i < its.toArray.size := by
      rw [List.size_toArray]
      exact (List.getElem?_eq_some_iff.mp hu).1
    have hel : e < s.heap.objs.size := Heap.lt_size he
    have hil : it < s.heap.objs.size := let ⟨o, ho, _⟩ := itAt_obj x; Heap.lt_size ho
    have Dr := drawsB (prog := X.prog) (w := X.w) (A := X.A.in1) (I.ok.hd hc) b it a ha its.toArray
    refine wpAny_pyNext_enum_itemC (c := ((i : Nat) : Int)) Dr he ⟨x, p⟩ hlt hne (fun z => ?_) fun z h' tk hz ho ⟨x', _⟩ hT hsz hk => ?_
    · simp at z
      exact z.elim hne (fun z => ha2 z.symm)
    have ez : z = u := by
      have : its.toArray[i]? = some u := by simpa using hu
      rw [this] at hz; exact (Option.some.inj hz).symm
    subst ez
    refine ⟨_, rfl, wpAny_letOwnedTupleGo_enum (s := { s with heap := h', toks := tk + 1 }) ho fun h2 he2 sb => ?_⟩
    have hT2 : h2.get? s.heap.objs.size = some { cls := .type "tuple", data := .seq #[.int ((i : Nat) : Int) tk, z] } := (sb.2 _ (Nat.ne_of_gt hel)).trans hT
    have J := I.turnedNew (t' := tk + 1) (ch := [e, it]) (ob := .tup [.int ((i : Nat) : Int), y]) (fun c ob hb q => (sb.2 c fun z => hb (by simp [z])).trans (hk c ob (fun z => hb (by simp [z])) (fun z => hb (by simp [z])) q)) hf (Nat.le_refl _)
      ⟨by show 2 ≤ sizeLine; decide, [.int ((i : Nat) : Int) tk, z], .cons ⟨_, rfl⟩ (.cons ru .nil), ⟨_, hT2, rfl, _, rfl⟩⟩
    refine ⟨.ref s.heap.objs.size, _, J, rfl, ⟨_, y, rfl, I.fresh, rfl, fun us hus => by rw [sq_inj I hus hq]; exact hx⟩, ⟨⟨z, he2⟩, itAt_keep x' fun o q => (sb.2 it (Ne.symm hne)).trans q⟩, fun c hc' => ?_⟩
    have : c < s.heap.objs.size := by
      simp at hc'
      rcases hc' with q | q
      · rw [q]; exact hel
      · rw [q]; exact hil
    rw [upd_ne (Nat.ne_of_lt this)]
    exact (hf c hc').1
  done := by
    intro X hP hw hK hc i pins s σ H E I hf ⟨⟨old, he⟩, x⟩ ⟨vs, hq, hx⟩
    subst hP hw hK
    obtain ⟨its, rv, p, hal⟩ := sq_its I hq
    have hl : its.toArray.size = i := by rw [List.size_toArray, ← rv.length, hx]
    obtain ⟨f0, f1, f2, f3, f4, f5⟩ := hf it (by simp)
    have D := drawsB (prog := X.prog) (w := X.w) (A := X.A.in1) (I.ok.hd hc) b it a ha its.toArray
    rw [hl] at D
    exact wpAny_pyNext_enum_endD D he ⟨x, p⟩ fun h' eb => ⟨rfl, I.turned (t' := s.toks) (fun c o hb q => eb c o hb q) f0 f1 f3 f4 f5⟩
  self := fun A i s Q E ⟨⟨_, he⟩, _⟩ h => wpAny_pyIter_enum he h
/-- pairs of what stands there, whatever their objects -/
def zipD (xs ys : List D) : List D := (xs.zip ys).map fun (x, y) => .tup [x, y]
def enumD (xs : List D) : List D := zipD ((List.range xs.length).map fun (i : Nat) => .int (i : Int)) xs
theorem zipD_get {xs ys : List D} {i : Nat} {d : D} (h : (zipD xs ys)[i]? = some d) : ∃ x y, xs[i]? = some x ∧ ys[i]? = some y ∧ d = .tup [x, y] := by
  unfold zipD at h
  rw [List.getElem?_map, Option.map_eq_some_iff] at h
  obtain ⟨⟨x, y⟩, h1, h2⟩ := h
  rw [List.getElem?_zip_eq_some] at h1
  exact ⟨x, y, h1.1, h1.2, h2.symm⟩
theorem zipD_len (xs ys : List D) : (zipD xs ys).length = min xs.length ys.length := by simp [zipD]
theorem enumD_len (xs : List D) : (enumD xs).length = xs.length := by simp [enumD, zipD_len]
theorem enumD_get {xs : List D} {i : Nat} {d : D} (h : (enumD xs)[i]? = some d) : ∃ x, xs[i]? = some x ∧ d = .tup [.int (i : Int), x] := by
  obtain ⟨a, x, h1, h2, rfl⟩ := zipD_get h
  refine ⟨x, h2, ?_⟩
  rw [List.getElem?_map, Option.map_eq_some_iff] at h1
  obtain ⟨k, hk, rfl⟩ := h1
  have hl := (List.getElem?_eq_some_iff.mp h2).1
  rw [List.getElem?_range hl] at hk
  cases hk; rfl
/-- a pair just made is a pair of ours -/
theorem pair_new {K : PySem.W.Frag} {mg : Str → Option Value} {W : Wd} {H : Hp} {m : M} {T : Addr} {v u : V} {x y : D} (rm : RM K mg W H m) (hT : H T = none) (r1 : RD K W v x) (r2 : RD K W u y) :
    ∃ W', Ex W H W' (upd H T (.tup [v, u])) ∧ RM K mg W' (upd H T (.tup [v, u])) m ∧ RW K W' (.ref T) (.tup [x, y]) := by
  obtain ⟨a, b⟩ := new_imm (o := .tup [v, u]) rm hT
  exact ⟨_, a, b, .inr ⟨T, [v, u], [x, y], rfl, rfl, .inl (.inl upd_same), .cons (r1.mono a.le) (.cons (r2.mono a.le) .nil)⟩⟩
theorem it_enumB {K : PySem.W.Frag} {mg : Str → Option Value} {W : Wd} {b : Bool} {a : Addr} {vs : List V} {xs : List D} (h : Sq b K W.I a vs) (r : RDs K W vs xs) : IsIt K mg RW (IteB b K a) (enumD xs) W where
  stop := fun W1 H m le rm => ⟨vs, sq_same (le.I.trans rm.sub) h, by rw [enumD_len]; exact r.length⟩
  go := fun i W1 H m le rm hi => by
    rw [enumD_len] at hi
    obtain ⟨v, hv, _⟩ := r.get (List.getElem?_eq_getElem hi)
    exact ⟨vs, v, sq_same (le.I.trans rm.sub) h, hv⟩
  yld := fun i W1 H m v H' d le rm hd ⟨T, x, e1, hT, eH, hx⟩ => by
    subst e1; subst eH
    obtain ⟨y, hy, rfl⟩ := enumD_get hd
    obtain ⟨u, hu, ru⟩ := r.get hy
    have := hx vs (sq_same (le.I.trans rm.sub) h)
    rw [hu] at this; cases this
    exact pair_new rm hT (.int _) (ru.mono le)
/-- what may be gone through in pairs: the sequence that stands -/
def fixS : D → Option (List D)
  | .lst xs => some xs
  | .frz xs => some xs
  | .tup xs => some xs
  | _ => none
theorem fixS_of {K : PySem.W.Frag} {W : Wd} {v : V} {x : D} {xs : List D} (r : RD K W v x) (h : fixS x = some xs) : ∃ b a vs, v = .ref a ∧ Sq b K W.I a vs ∧ RDs K W vs xs := by
  cases r with
  | lst q r => cases h; exact ⟨true, _, _, rfl, .inl (.inl q), r⟩
  | frz q r => cases h; exact ⟨true, _, _, rfl, q, r⟩
  | tup q n r => cases h; exact ⟨false, _, _, rfl, q, r⟩
  | _ => cases h
def iEn (ds : SA) : SA := fun ρ m => (ds ρ m).bind fun xs m => match xs with
  | [x] => match fixS x with
    | some ys => .ok (enumD ys) m
    | none => .bad
  | _ => .bad
def rEnB (K : PySem.W.Frag) (ta : TA) : TI := fun σ H R => ta σ H fun vs H1 => ∃ a b us, vs = [.ref a] ∧ Sq b K H1 a us ∧ R (IteB b K a) H1
section
variable {X : Cx} {EX : Str → Hp → Prop} {e e2 : Expr} {ds : SA} {p pos tpos : Pos} {elts : List Expr} {kk : Nat} {ta : TA}
theorem pi_enumB (hg : Gl X "enumerate") (hm : X.mg "enumerate" = none) (ha : PA X [e] ta) (hs : starEach [e] X.env = [(false, eval e X.env)]) : PI X (.Tuple elts kk tpos) (.Call (.Name "enumerate" p) [e] [] pos) (rEnB X.K ta) := by
  refine ⟨fun pins s σ H R I h => Call_ (ld_blt I hg hm boot_enumerate (callWith_type1 (thn (ha.run pos pins s σ H _ I h) ?_) hs rfl))⟩
  rintro us s1 ⟨vs, H1, I1, r1, a, b, ws, ev, hq, q⟩
  subst ev
  rw [Vals.ref1 r1]
  obtain ⟨its, rv, p', hal⟩ := sq_its I1 hq
  refine call_enum1 (beginsB b a its.toArray) p' fun h' he ho hk => wpAny_pyIter_enum he ?_
  have I2 : Inv X pins σ H1 { s1 with heap := h' } := I1.kept (t' := s1.toks) hk
  have ne1 : a ≠ s1.heap.objs.size := Nat.ne_of_lt hal
  have ne2 : a ≠ s1.heap.objs.size + 1 := Nat.ne_of_lt (Nat.lt_succ_of_lt hal)
  refine ⟨s1.heap.objs.size + 1, [s1.heap.objs.size + 1, s1.heap.objs.size], _, _, H1, rfl, I2, turn_enumB b a (s1.heap.objs.size + 1) s1.heap.objs.size (Nat.succ_ne_self _) ne1 ne2, ⟨⟨.none, he⟩, itAt_new ho⟩, fun c hc => ?_, q⟩
  have hle : s1.heap.objs.size ≤ c := by
    simp at hc
    rcases hc with z | z
    · rw [z]; exact Nat.le_succ _
    · rw [z]; exact Nat.le_refl _
  exact I1.fpOk hle (I1.hok.fresh hle)
theorem di_enum (hm : X.mg "enumerate" = none) (ha : DA X EX [e] ds) (hg : Gl X "enumerate" := by rfl) (hs : starEach [e] X.env = [(false, eval e X.env)] := by rfl) :
    DI X EX RW (.Tuple elts kk tpos) (.Call (.Name "enumerate" p) [e] [] pos) (iEn ds) :=
  PI.imp (pi_enumB hg hm ha hs) fun σ H R ⟨W, ρ, m, rs, rm, h⟩ => ⟨W, ρ, m, rs, rm, post_mono (post_bind h) fun xs W1 H1 m1 e1 rm1 h1 vs rvs => by
    split at h1
    · obtain ⟨v, rfl, rv⟩ := RDs.inv1 rvs
      split at h1
      · rename_i ys hy
        obtain ⟨b, a, us, rfl, hs, r⟩ := fixS_of rv hy
        exact ⟨a, b, us, rfl, sq_same rm1.sub hs, post_ok h1 rm1 _ (it_enumB hs r)⟩
      · exact h1.elim
    · exact h1.elim⟩

/-! ### zip -/
def ItzB (b1 b2 : Bool) (K : PySem.W.Frag) (a1 a2 : Addr) : It :=
  ⟨fun i H => ∃ (vs us : List V) (x y : V), Sq b1 K H a1 vs ∧ Sq b2 K H a2 us ∧ vs[i]? = some x ∧ us[i]? = some y,
    fun i H v H' => ∃ T x y, v = .ref T ∧ H T = none ∧ H' = upd H T (.tup [x, y]) ∧ (∀ vs, Sq b1 K H a1 vs → vs[i]? = some x) ∧ ∀ us, Sq b2 K H a2 us → us[i]? = some y,
    fun i H => ∃ vs us : List V, Sq b1 K H a1 vs ∧ Sq b2 K H a2 us ∧ min vs.length us.length = i⟩
theorem turn_zipB {P : Program} {w : World} {K : PySem.W.Frag} {tpos : Pos} (b1 b2 : Bool) {a1 a2 z TI TO i1 i2 : Addr} (S : ZipSep2 z TI TO i1 i2 [i1, a1] [i2, a2]) (n1 : a1 ≠ i1) (n2 : a2 ≠ i2) :
    Turn P w K (.Tuple elts kk tpos) (ItzB b1 b2 K a1 a2) [z, TI, TO, i1, i2] z (fun i h => IsZip h z TI TO .none ∧ IsTupOf2 h TI (.ref i1) (.ref i2) ∧ (∃ x y, IsTupOf2 h TO x y) ∧ itAt b1 h i1 a1 i ∧ itAt b2 h i2 a2 i) where
  mem := by simp
  obj := fun i h ⟨hz, hTI, ⟨x, y, hTO⟩, h1, h2⟩ c hc => by
    simp at hc
    rcases hc with rfl | rfl | rfl | rfl | rfl
    · exact ⟨_, hz, fun v q => nomatch q⟩
    · exact ⟨_, hTI, fun v q => nomatch q⟩
    · exact ⟨_, hTO, fun v q => nomatch q⟩
    · exact itAt_obj h1
    · exact itAt_obj h2
  keep := fun i h h' ⟨hz, hTI, ⟨x, y, hTO⟩, h1, h2⟩ k =>
    ⟨k z (by simp) _ hz, k TI (by simp) _ hTI, ⟨x, y, k TO (by simp) _ hTO⟩, itAt_keep h1 fun o q => k i1 (by simp) o q, itAt_keep h2 fun o q => k i2 (by simp) o q⟩
  item := by
    intro X hP hw hK hc i pins s σ H E I hf ⟨hz, hTI, ⟨x0, y0, hTO⟩, h1, h2⟩ ⟨vs, us, x, y, hq1, hq2, hx, hy⟩
    subst hP hw hK
    obtain ⟨its, rv, p1, _⟩ := sq_its I hq1
    obtain ⟨jts, ru, p2, _⟩ := sq_its I hq2
    obtain ⟨u, hu, ru1⟩ := rv.get hx
    obtain ⟨v, hv, rv1⟩ := ru.get hy
    have l1 : i < its.toArray.size := by rw [List.size_toArray]; exact (List.getElem?_eq_some_iff.mp hu).1
    have l2 : i < jts.toArray.size := by rw [List.size_toArray]; exact (List.getElem?_eq_some_iff.mp hv).1
    have D1 := drawsB (prog := X.prog) (w := X.w) (A := X.A.in1) (I.ok.hd hc) b1 i1 a1 n1 its.toArray
    have D2 := drawsB (prog := X.prog) (w := X.w) (A := X.A.in1) (I.ok.hd hc) b2 i2 a2 n2 jts.toArray
    have hzl : z < s.heap.objs.size := Heap.lt_size hz
    refine wpAny_pyNext_zipD2_item S D1 D2 hz hTI hTO ⟨h1, p1⟩ ⟨h2, p2⟩ l1 l2 fun u' v' h' tk hu' hv' z' TO' ⟨h1', _⟩ ⟨h2', _⟩ hT hsz hk => ?_
    have eu : u' = u := by
      have q : its.toArray[i]? = some u := by simpa using hu
      rw [q] at hu'; exact (Option.some.inj hu').symm
    have ev : v' = v := by
      have q : jts.toArray[i]? = some v := by simpa using hv
      rw [q] at hv'; exact (Option.some.inj hv').symm
    subst eu; subst ev
    refine ⟨_, rfl, wpAny_letOwnedTupleGo_zip (s := { s with heap := h', toks := tk }) z' fun h'' z'' sb => ?_⟩
    have hT2 : h''.get? s.heap.objs.size = some { cls := .type "tuple", data := .seq #[u', v'] } := (sb.2 _ (Nat.ne_of_gt hzl)).trans hT
    have J := I.turnedNew (t' := tk) (ch := [z, TI, TO, i1, i2]) (ob := .tup [x, y]) (fun c o hb q => (sb.2 c fun q' => hb (by simp [q'])).trans (hk c o (fun q' => hb (by simp [q'])) (fun q' => hb (by simp [q'])) (fun q' => hb (by simp [q'])) (fun q' => hb (by simp [q'])) q)) hf (Nat.le_refl _)
      ⟨by show 2 ≤ sizeLine; decide, [u', v'], .cons ru1 (.cons rv1 .nil), ⟨_, hT2, rfl, _, rfl⟩⟩
    refine ⟨.ref s.heap.objs.size, _, J, rfl, ⟨_, x, y, rfl, I.fresh, rfl, fun l hl => by rw [sq_inj I hl hq1]; exact hx, fun l hl => by rw [sq_inj I hl hq2]; exact hy⟩, ⟨z'', ?_, ⟨u', v', ?_⟩, ?_, ?_⟩, fun c hcm => ?_⟩
    · exact (sb.2 _ S.TIz).trans (hk _ _ S.TIz S.TITO S.TIi1 S.TIi2 hTI)
    · exact (sb.2 _ S.TOz).trans TO'
    · exact itAt_keep h1' fun o q => (sb.2 _ (Ne.symm S.zi1)).trans q
    · exact itAt_keep h2' fun o q => (sb.2 _ (Ne.symm S.zi2)).trans q
    · have hlt : c < s.heap.objs.size := by
        simp at hcm
        rcases hcm with q | q | q | q | q
        · rw [q]; exact hzl
        · rw [q]; exact Heap.lt_size hTI
        · rw [q]; exact Heap.lt_size hTO
        · rw [q]; obtain ⟨_, e1, _⟩ := itAt_obj h1; exact Heap.lt_size e1
        · rw [q]; obtain ⟨_, e2, _⟩ := itAt_obj h2; exact Heap.lt_size e2
      rw [upd_ne (Nat.ne_of_lt hlt)]
      exact (hf c hcm).1
  done := by
    intro X hP hw hK hc i pins s σ H E I hf ⟨hz, hTI, ⟨x0, y0, hTO⟩, h1, h2⟩ ⟨vs, us, hq1, hq2, hend⟩
    subst hP hw hK
    obtain ⟨its, rv, p1, _⟩ := sq_its I hq1
    obtain ⟨jts, ru, p2, _⟩ := sq_its I hq2
    have D1 := drawsB (prog := X.prog) (w := X.w) (A := X.A.in1) (I.ok.hd hc) b1 i1 a1 n1 its.toArray
    have D2 := drawsB (prog := X.prog) (w := X.w) (A := X.A.in1) (I.ok.hd hc) b2 i2 a2 n2 jts.toArray
    have e1 : its.toArray.size = vs.length := by rw [List.size_toArray, ← rv.length]
    have e2 : jts.toArray.size = us.length := by rw [List.size_toArray, ← ru.length]
    exact wpAny_pyNext_zipD2_end S D1 D2 hz hTI hTO ⟨h1, p1⟩ ⟨h2, p2⟩ (by omega) (by omega) (by omega) fun h' tk hk => ⟨rfl, I.turnedL (t' := tk) (ch := [z, TI, TO, i1, i2]) (fun c o hb q =>
      hk c o (fun q' => hb (by simp [q'])) (fun q' => hb (by simp [q'])) (fun q' => hb (by simp [q'])) (fun q' => hb (by simp [q'])) q) hf⟩
  self := fun A i s Q E st h => wpAny_pyIter_zip st.1 h
def rZiB (K : PySem.W.Frag) (ta : TA) : TI := fun σ H R => ta σ H fun vs H1 => ∃ a1 a2 b1 b2 us ws, vs = [.ref a1, .ref a2] ∧ Sq b1 K H1 a1 us ∧ Sq b2 K H1 a2 ws ∧ R (ItzB b1 b2 K a1 a2) H1
theorem pi_zipB (hg : Gl X "zip") (hm : X.mg "zip" = none) (ha : PA X [e, e2] ta) (hs : starEach [e, e2] X.env = (false, eval e X.env) :: starEach [e2] X.env) (hpl : (backTo pos (starEach [e2] X.env)).any (·.1) = false) :
    PI X (.Tuple elts kk tpos) (.Call (.Name "zip" p) [e, e2] [] pos) (rZiB X.K ta) := by
  refine ⟨fun pins s σ H R I h => Call_ (ld_blt I hg hm PyProof.Rows.boot_zip (callWith_type1 (thn (ha.run pos pins s σ H _ I h) ?_) hs hpl))⟩
  rintro us s1 ⟨vs, H1, I1, r1, a1, a2, b1, b2, ws, xs, ev, hq1, hq2, q⟩
  subst ev
  obtain ⟨u, v, rfl, ra, rb⟩ := Vals.two r1
  cases ra; cases rb
  obtain ⟨its, rv, p1, la⟩ := sq_its I1 hq1
  obtain ⟨jts, ru, p2, lb⟩ := sq_its I1 hq2
  refine zip_begins2 (beginsB b1 a1 its.toArray) (beginsB b2 a2 jts.toArray) p1 p2 fun h' hz hTI hTO o1 o2 hsz hk => wpAny_pyIter_zip hz ?_
  have I2 : Inv X pins σ H1 { s1 with heap := h' } := I1.kept (t' := s1.toks) hk
  have S : ZipSep2 (s1.heap.objs.size + 4) (s1.heap.objs.size + 2) (s1.heap.objs.size + 3) s1.heap.objs.size (s1.heap.objs.size + 1) [s1.heap.objs.size, a1] [s1.heap.objs.size + 1, a2] :=
    zip_sep2 (fun b hb => by simp at hb; subst hb; exact la) (fun b hb => by simp at hb; subst hb; exact lb)
  refine ⟨s1.heap.objs.size + 4, [s1.heap.objs.size + 4, s1.heap.objs.size + 2, s1.heap.objs.size + 3, s1.heap.objs.size, s1.heap.objs.size + 1], _, _, H1, rfl, I2,
    turn_zipB b1 b2 S (Nat.ne_of_lt la) (Nat.ne_of_lt (Nat.lt_succ_of_lt lb)), ⟨hz, hTI, ⟨_, _, hTO⟩, itAt_new o1, itAt_new o2⟩, fun c hcm => ?_, q⟩
  have hle : s1.heap.objs.size ≤ c := by
    simp at hcm
    rcases hcm with z | z | z | z | z <;> (rw [z]; first | exact Nat.le_refl _ | exact Nat.le_add_right _ _)
  exact I1.fpOk hle (I1.hok.fresh hle)
theorem it_zipB {K : PySem.W.Frag} {mg : Str → Option Value} {W : Wd} {b1 b2 : Bool} {a1 a2 : Addr} {vs us : List V} {xs ys : List D} (h1 : Sq b1 K W.I a1 vs) (h2 : Sq b2 K W.I a2 us) (r1 : RDs K W vs xs) (r2 : RDs K W us ys) : IsIt K mg RW (ItzB b1 b2 K a1 a2) (zipD xs ys) W where
  stop := fun W1 H m le rm => ⟨vs, us, sq_same (le.I.trans rm.sub) h1, sq_same (le.I.trans rm.sub) h2, by rw [zipD_len, r1.length, r2.length]⟩
  go := fun i W1 H m le rm hi => by
    rw [zipD_len] at hi
    obtain ⟨v, hv, _⟩ := r1.get (List.getElem?_eq_getElem (show i < xs.length by omega))
    obtain ⟨u, hu, _⟩ := r2.get (List.getElem?_eq_getElem (show i < ys.length by omega))
    exact ⟨vs, us, v, u, sq_same (le.I.trans rm.sub) h1, sq_same (le.I.trans rm.sub) h2, hv, hu⟩
  yld := fun i W1 H m v H' d le rm hd ⟨T, x, y, e1, hT, eH, hx, hy⟩ => by
    subst e1; subst eH
    obtain ⟨dx, dy, g1, g2, rfl⟩ := zipD_get hd
    obtain ⟨u1, hu1, ru1⟩ := r1.get g1
    obtain ⟨u2, hu2, ru2⟩ := r2.get g2
    have q1 := hx vs (sq_same (le.I.trans rm.sub) h1)
    have q2 := hy us (sq_same (le.I.trans rm.sub) h2)
    rw [hu1] at q1; cases q1
    rw [hu2] at q2; cases q2
    exact pair_new rm hT (ru1.mono le) (ru2.mono le)
def iZi (ds : SA) : SA := fun ρ m => (ds ρ m).bind fun xs m => match xs with
  | [x, y] => match fixS x, fixS y with
    | some xs, some ys => .ok (zipD xs ys) m
    | _, _ => .bad
  | _ => .bad
theorem di_zip (hm : X.mg "zip" = none) (ha : DA X EX [e, e2] ds) (hg : Gl X "zip" := by rfl) (hs : starEach [e, e2] X.env = (false, eval e X.env) :: starEach [e2] X.env := by rfl) (hpl : (backTo pos (starEach [e2] X.env)).any (·.1) = false := by rfl) :
    DI X EX RW (.Tuple elts kk tpos) (.Call (.Name "zip" p) [e, e2] [] pos) (iZi ds) :=
  PI.imp (pi_zipB hg hm ha hs hpl) fun σ H R ⟨W, ρ, m, rs, rm, h⟩ => ⟨W, ρ, m, rs, rm, post_mono (post_bind h) fun xs W1 H1 m1 e1 rm1 h1 vs rvs => by
    split at h1
    · obtain ⟨v, u, rfl, rv, ru⟩ := RDs.inv2 rvs
      split at h1
      · rename_i xs ys hx hy
        obtain ⟨b1, a1, us, rfl, hs1, r1⟩ := fixS_of rv hx
        obtain ⟨b2, a2, ws, rfl, hs2, r2⟩ := fixS_of ru hy
        exact ⟨a1, a2, b1, b2, us, ws, rfl, sq_same rm1.sub hs1, sq_same rm1.sub hs2, post_ok h1 rm1 _ (it_zipB hs1 hs2 r1 r2)⟩
      · exact h1.elim
    · exact h1.elim⟩
end
end Vi

set_option Elab.async false
set_option linter.all false
set_option maxRecDepth 100000
set_option maxHeartbeats 4000000
namespace Vi
open PySem PySem.Spec PyProof.Rows L2

/-! ### sorted -/
def tagPy : List D → M → Option (List (D × PyData))
  | [], _ => some []
  | x :: xs, m => match toPy x m, tagPy xs m with
    | some d, some ps => some ((x, d) :: ps)
    | _, _ => none
def tupCons : PyData → Bool
  | .tuple (_ :: _) => true
  | _ => false
def notTup : PyData → Bool
  | .tuple _ => false
  | .none => false
  | _ => true
def sortOk (ds : List PyData) : Bool := (ds.all fun d => ds.all fun e => PySem.W.alike d e) && (ds.all tupCons || ds.all notTup) && ds.all fun d => decide (d.depth ≤ 64)
def sortD (rev : Bool) (ps : List (D × PyData)) : List D := (ps.mergeSort (PySem.W.dataLe rev Prod.snd)).map Prod.fst
def gSorted (rev : Bool) : List D → M → R (List D) := fun xs m => match xs with
  | [x] => match asList x m with
    | some ys => match tagPy ys m with
      | some ps => if ps.length < 2 ∨ sortOk (ps.map Prod.snd) = true then .ok (sortD rev ps) m else .bad
      | none => .bad
    | none => .bad
  | _ => .bad
theorem tagPy_rel {K : PySem.W.Frag} {mg : Str → Option Value} {W : Wd} {H : Hp} {m : M} (rm : RM K mg W H m) : ∀ {vs : List V} {xs : List D} {ps : List (D × PyData)}, RDs K W vs xs → tagPy xs m = some ps →
    ∃ qs : List (V × D × PyData), qs.map (·.1) = vs ∧ qs.map (·.2) = ps ∧ ∀ q ∈ qs, RD K W q.1 q.2.1 ∧ Dp K H q.1 q.2.2
  | _, _, _, .nil, e => by cases e; exact ⟨[], rfl, rfl, fun q h => by cases h⟩
  | _, _, _, .cons r t, e => by
    simp only [tagPy] at e
    split at e
    · rename_i d ps hd hp
      cases e
      obtain ⟨qs, h1, h2, h3⟩ := tagPy_rel rm t hp
      exact ⟨(_, _, d) :: qs, by rw [List.map_cons, h1], by rw [List.map_cons, h2], fun q hq => by
        rcases List.mem_cons.mp hq with z | z
        · subst z; exact ⟨r, dp_of rm.sub r hd⟩
        · exact h3 q z⟩
    · cases e
theorem sortOk_of {ds : List PyData} (h : sortOk ds = true) : PySem.W.AllAlike ds ∧ PySem.W.Sortable ds ∧ ∀ d ∈ ds, d.depth ≤ 64 := by
  unfold sortOk at h
  rw [Bool.and_eq_true, Bool.and_eq_true] at h
  obtain ⟨⟨h1, h2⟩, h3⟩ := h
  refine ⟨fun d hd e he => ?_, ?_, fun d hd => of_decide_eq_true (List.all_eq_true.mp h3 d hd)⟩
  · exact List.all_eq_true.mp (List.all_eq_true.mp h1 d hd) e he
  · rw [Bool.or_eq_true] at h2
    rcases h2 with h2 | h2
    · refine .inl fun d hd => ?_
      have := List.all_eq_true.mp h2 d hd
      unfold tupCons at this
      split at this
      · exact ⟨_, _, rfl⟩
      · cases this
    · refine .inr fun d hd => ?_
      have := List.all_eq_true.mp h2 d hd
      refine ⟨fun z => ?_, fun xs z => ?_⟩
      · subst z; cases this
      · subst z; cases this
theorem sort_short {α : Type} (le : α → α → Bool) {l : List α} (h : l.length < 2) : l.mergeSort le = l := by
  match l, h with
  | [], _ => exact List.mergeSort_nil
  | [a], _ => exact List.mergeSort_singleton a
section
variable {X : Cx}
/-- by values: the items each with what they read as, sorted by that -/
def rSorts (K : PySem.W.Frag) (rev : Bool) : List V → Hp → VK → Prop := fun vs H Q => ∃ (a : Addr) (qs : List (V × D × PyData)), vs = [.ref a] ∧ SqL K H a (qs.map (·.1)) ∧ (∀ q ∈ qs, Dp K H q.1 q.2.2) ∧ (qs.length < 2 ∨ sortOk (qs.map (·.2.2)) = true) ∧
  ∀ p, H p = none → Q (.ref p) (upd H p (.lst ((qs.mergeSort (PySem.W.dataLe rev (·.2.2))).map (·.1))))
theorem each_vals {qs : List (V × D × PyData)} : ∀ {its : List Value}, Vals (qs.map (·.1)) its → PySem.W.EachIs (fun u (q : V × D × PyData) => L2.RelV q.1 u) its qs := by
  induction qs with
  | nil => intro its r; cases r; exact .nil
  | cons q qs ih => intro its r; cases r with | cons a t => exact .cons a (ih t)
theorem vals_each {qs : List (V × D × PyData)} {its : List Value} (e : PySem.W.EachIs (fun u (q : V × D × PyData) => L2.RelV q.1 u) its qs) : Vals (qs.map (·.1)) its := by
  induction e with
  | nil => exact .nil
  | cons a _ ih => exact .cons a ih
theorem each_mem {α β : Type} {R : α → β → Prop} {as : List α} {bs : List β} (e : PySem.W.EachIs R as bs) : PySem.W.EachIs (fun a b => R a b ∧ b ∈ bs) as bs := by
  induction e with
  | nil => exact .nil
  | cons h _ ih => exact .cons ⟨h, List.mem_cons_self⟩ (ih.mono fun _ _ z => ⟨z.1, List.mem_cons_of_mem _ z.2⟩)
theorem sorts_end {pins : List (Addr × Obj)} {σ : L2.St} {H : Hp} {s : Shared} {Q : VK} {rev : Bool} {its : List Value} {qs : List (V × D × PyData)} (I : Inv X pins σ H s) (hz : qs.length ≤ sizeLine)
    (q : ∀ p, H p = none → Q (.ref p) (upd H p (.lst ((qs.mergeSort (PySem.W.dataLe rev (·.2.2))).map (·.1))))) (out : List Value)
    (e : PySem.W.EachIs (fun u (q : V × D × PyData) => L2.RelV q.1 u) out (qs.mergeSort (PySem.W.dataLe rev (·.2.2)))) : EP X pins σ Q (.ref (s.heap.objs.size + 1)) { s with heap := sortedAll s.heap its out.toArray } := by
  obtain ⟨ep, he⟩ := sortedAll_at s.heap its out.toArray
  have J := I.laid (t' := s.toks) (o := .lst ((qs.mergeSort (PySem.W.dataLe rev (·.2.2))).map (·.1))) (fun _ _ => sortedAll_old) (Nat.le_succ s.heap.objs.size) ⟨by rw [List.length_map, List.length_mergeSort]; exact hz, out, ep, vals_each e, he⟩
  exact ⟨.ref _, _, J, rfl, q _ (I.hok.fresh (Nat.le_succ _))⟩
theorem triv_swo : SrtO.Swo (fun (_ _ : Value) => false) := ⟨fun _ _ h => (by cases h), fun _ _ _ _ _ => rfl⟩
theorem short_out {vs out : List Value} (h : vs.length < 2) (p : out.Perm vs) : out = vs := by
  match vs, h, p with
  | [], _, p => exact p.eq_nil
  | [a], _, p => exact List.perm_singleton.mp p
theorem call_sorts (hu : X.A.units + 100 < cLine) : CallR X (.builtin "sorted") (rSorts X.K false) := by
  intro pins s σ H vs us Q I r ⟨a, qs, hv, hs, hd, ok, q⟩
  subst hv
  obtain ⟨its, rv, pl, hz⟩ := I.list hs
  rw [List.length_map] at hz
  rw [Vals.ref1 r]
  have ei := each_vals rv
  rcases ok with ok | ok
  · refine SrtO.sorted_ord triv_swo pl.isList (by rw [ei.length]; exact hz) (fun h2 => absurd h2 (by rw [ei.length]; omega)) fun out h1 h2 => ?_
    have eo : out = its := short_out (by rw [ei.length]; exact ok) h2.perm
    subst eo
    exact sorts_end I hz q out (by rw [sort_short _ ok]; exact ei)
  · obtain ⟨o1, o2, o3⟩ := sortOk_of ok
    refine PySem.W.sorted_data (enc := fun (q : V × D × PyData) => q.2.2) pl.isList ei ((each_mem ei).mono fun u q ⟨h1, h2⟩ => Dp.reads I q.2.2 q.1 u (hd q h2) h1) o1 o2 hz (fun b hb => ?_) fun out hl eo => sorts_end I hz q out eo
    have := o3 b.2.2 (List.mem_map.mpr ⟨b, hb, rfl⟩)
    omega
theorem sorts_lift {rev : Bool} {EX : Str → Hp → Prop} {W0 W : Wd} {H0 H : Hp} {m : M} {vs : List V} {xs : List D} {Q : VK} (e0 : Ex W0 H0 W H) (rm : RM X.K X.mg W H m) (r : RDs X.K W vs xs)
    (hp : post X.K X.mg W H (gSorted rev xs m) (fun zs W' H' _ => ∀ p us, H0 p = none → p ∉ W'.φ → W'.I p = none → H' p = some (.lst us) → RDs X.K W' us zs → Q (.ref p) H') EX) : rSorts X.K rev vs H Q := by
  unfold gSorted at hp
  split at hp
  · obtain ⟨v, rfl, rv⟩ := RDs.inv1 r
    split at hp
    · rename_i ys hy
      split at hp
      · rename_i ps hps
        split at hp
        · rename_i ok
          obtain ⟨a, us, rfl, hs, r2⟩ := list_of rm rv hy
          obtain ⟨qs, h1, h2, h3⟩ := tagPy_rel rm r2 hps
          have e2 : qs.map (·.2.2) = ps.map Prod.snd := by rw [← h2, List.map_map]; rfl
          have srt : ((qs.mergeSort (PySem.W.dataLe rev (·.2.2))).map (·.2)) = ps.mergeSort (PySem.W.dataLe rev Prod.snd) := by
            rw [← h2]
            exact PySem.W.sort_maps (fun q : V × D × PyData => q.2) fun a _ b _ => rfl
          refine ⟨a, qs, rfl, by rw [h1]; exact hs, fun q hq => (h3 q hq).2, ?_, fun p hpn => ?_⟩
          · rcases ok with ok | ok
            · exact .inl (by rw [← h2, List.length_map] at ok; exact ok)
            · exact .inr (by rw [e2]; exact ok)
          · refine fresh_post e0 rm hpn ?_ hp
            unfold sortD
            rw [← srt, List.map_map]
            have : ∀ l : List (V × D × PyData), (∀ q ∈ l, RD X.K W q.1 q.2.1) → RDs X.K W (l.map (·.1)) (l.map (Prod.fst ∘ (·.2))) := by
              intro l
              induction l with
              | nil => exact fun _ => .nil
              | cons q l ih => exact fun h => .cons (h q List.mem_cons_self) (ih fun z hz => h z (List.mem_cons_of_mem _ hz))
            exact this _ fun q hq => (h3 q (List.mem_mergeSort.mp hq)).1
        · exact hp.elim
      · exact hp.elim
    · exact hp.elim
  · exact hp.elim
theorem c_sorted (hu : X.A.units + 100 < cLine) : CallL X (.builtin "sorted") (gSorted false) := ⟨_, call_sorts hu, fun EX W0 W H0 H m vs xs Q e0 rm r hp => sorts_lift e0 rm r hp⟩
/-- sorted(xs, reverse=True) -/
theorem call_sortsK (hu : X.A.units + 100 < cLine) : CallRK X (.builtin "sorted") [Str.ofString "reverse"] (fun vs zs H Q => zs = [.bl true] ∧ rSorts X.K true vs H Q) := by
  intro pins s σ H vs zs us ws Q I r rz ⟨hz1, a, qs, hv, hs, hd, ok, q⟩
  subst hv; subst hz1
  obtain ⟨its, rv, pl, hz⟩ := I.list hs
  rw [List.length_map] at hz
  rw [Vals.ref1 r]
  obtain ⟨w, rfl, rw'⟩ := vals1 rz
  cases rw'
  have ei := each_vals rv
  show wpAny _ _ (call (.builtin "sorted") [.ref a] [(Str.ofString "reverse", .bool true)]) _ _ s
  rcases ok with ok | ok
  · have hs1 : ∀ (bs : List Value), bs.length < 2 → bs.reverse = bs := fun bs h => by
      match bs, h with
      | [], _ => rfl
      | [a], _ => rfl
    refine SrtR.sorted_ordK (b := true) (fun _ => rfl) ?_ ?_ triv_swo pl.isList (by rw [ei.length]; exact hz) (fun h2 => absurd h2 (by rw [ei.length]; omega)) fun out h1 h2 => ?_
    · unfold argsOk; kernel_rfl
    · intro z; unfold argsOk; kernel_rfl
    · rw [if_pos rfl, hs1 its (by rw [ei.length]; exact ok)] at h2
      have eo : out = its := short_out (by rw [ei.length]; exact ok) h2.perm
      subst eo
      have e3 : out.toArray.reverse = out.toArray := by rw [List.reverse_toArray, hs1 out (by rw [ei.length]; exact ok)]
      rw [if_pos rfl, e3]
      exact sorts_end I hz q out (by rw [sort_short _ ok]; exact ei)
  · obtain ⟨o1, o2, o3⟩ := sortOk_of ok
    refine PySem.W.sorted_rev_data (enc := fun (q : V × D × PyData) => q.2.2) pl.isList ei ((each_mem ei).mono fun u q ⟨h1, h2⟩ => Dp.reads I q.2.2 q.1 u (hd q h2) h1) o1 o2 hz (fun b hb => ?_) fun out hl eo => sorts_end I hz q out eo
    have := o3 b.2.2 (List.mem_map.mpr ⟨b, hb, rfl⟩)
    omega
theorem dl_sortedR {EX : Str → Hp → Prop} {e : Expr} {d : SE} {p pos kpos : Pos} {k : Nat} {cpos : Pos} (hu : X.A.units + 100 < cLine) (hm : X.mg "sorted" = none) (he : DE X EX e d) (hg : Gl X "sorted" := by rfl)
    (h0 : starEach [e] X.env = (false, eval e X.env) :: starEach [] X.env := by rfl)
    (h1 : backTo pos (starEach [e] X.env) = (false, eval e X.env) :: backTo pos (starEach [] X.env) := by rfl) (h2 : (backTo pos (starEach [e] X.env)).any (·.1) = false := by rfl)
    (h3 : (backToKw pos (keywordEach [⟨some "reverse", .Constant (.bool true) k cpos, kpos⟩] X.env)).all (·.1.isSome) = true := by rfl) (h4 : (backToKw pos (keywordEach [⟨some "reverse", .Constant (.bool true) k cpos, kpos⟩] X.env)).any (·.1.isNone) = false := by rfl)
    (h5 : (backToKw pos (keywordEach [⟨some "reverse", .Constant (.bool true) k cpos, kpos⟩] X.env)).filterMap (·.1) = [Str.ofString "reverse"] := by rfl) :
    DL X EX (.Call (.Name "sorted" p) [e] [⟨some "reverse", .Constant (.bool true) k cpos, kpos⟩] pos) (sCallL (gSorted true) (sCons d sNil)) := by
  have boot : bootBuiltins (Str.ofString "sorted") = some (.builtin "sorted") := by decide +kernel
  refine PE.imp (pe_callBK (call_sortsK hu) hg hm boot (da_cons (EX := EX) he da_nil h0) (pk_cons pe_bl pk_nil) (by decide) (by decide) h1 h2 h3 h4 h5) fun σ H Q ⟨W, ρ, m, rs, rm, h⟩ => ⟨W, ρ, m, rs, rm, post_mono (post_bind h) fun xs W1 H1 m1 e1 rm1 h1 vs rvs => ?_⟩
  exact ⟨rfl, sorts_lift e1 rm1 rvs h1⟩
end
end Vi

set_option Elab.async false
set_option linter.all false
set_option maxRecDepth 100000
set_option maxHeartbeats 4000000
namespace Vi
open PySem PySem.Spec PyProof.Rows L2

/-! ### equality of memories, by computation -/
mutual
def eqD : D → D → Bool
  | .non, .non => true
  | .bl a, .bl b => a == b
  | .int a, .int b => a == b
  | .str a, .str b => a == b
  | .tup xs, .tup ys => eqDs xs ys
  | .lst xs, .lst ys => eqDs xs ys
  | .frz xs, .frz ys => eqDs xs ys
  | .ref a, .ref b => a == b
  | _, _ => false
def eqDs : List D → List D → Bool
  | [], [] => true
  | x :: xs, y :: ys => eqD x y && eqDs xs ys
  | _, _ => false
end
mutual
theorem eqD_to : ∀ {x y : D}, eqD x y = true → x = y
  | .non, y, h => by cases y <;> first | rfl | cases h
  | .bl a, y, h => by cases y <;> first | (simp only [eqD, beq_iff_eq] at h; rw [h]) | cases h
  | .int a, y, h => by cases y <;> first | (simp only [eqD, beq_iff_eq] at h; rw [h]) | cases h
  | .str a, y, h => by cases y <;> first | (simp only [eqD, beq_iff_eq] at h; rw [h]) | cases h
  | .tup xs, y, h => by cases y <;> first | (simp only [eqD] at h; rw [eqDs_to h]) | cases h
  | .lst xs, y, h => by cases y <;> first | (simp only [eqD] at h; rw [eqDs_to h]) | cases h
  | .frz xs, y, h => by cases y <;> first | (simp only [eqD] at h; rw [eqDs_to h]) | cases h
  | .ref a, y, h => by cases y <;> first | (simp only [eqD, beq_iff_eq] at h; rw [h]) | cases h
theorem eqDs_to : ∀ {xs ys : List D}, eqDs xs ys = true → xs = ys
  | [], [], _ => rfl
  | [], _ :: _, h => by cases h
  | _ :: _, [], h => by cases h
  | x :: xs, y :: ys, h => by
    simp only [eqDs, Bool.and_eq_true] at h
    rw [eqD_to h.1, eqDs_to h.2]
end
mutual
theorem eqD_refl : ∀ x : D, eqD x x = true
  | .non => rfl
  | .bl a => by simp [eqD]
  | .int a => by simp [eqD]
  | .str a => by simp [eqD]
  | .tup xs => by simp only [eqD]; exact eqDs_refl xs
  | .lst xs => by simp only [eqD]; exact eqDs_refl xs
  | .frz xs => by simp only [eqD]; exact eqDs_refl xs
  | .ref a => by simp [eqD]
theorem eqDs_refl : ∀ xs : List D, eqDs xs xs = true
  | [] => rfl
  | x :: xs => by simp only [eqDs, eqD_refl x, eqDs_refl xs]; rfl
end
def eqKV {κ : Type} [DecidableEq κ] : List (κ × D) → List (κ × D) → Bool
  | [], [] => true
  | (k, x) :: xs, (l, y) :: ys => decide (k = l) && eqD x y && eqKV xs ys
  | _, _ => false
theorem eqKV_to {κ : Type} [DecidableEq κ] : ∀ {xs ys : List (κ × D)}, eqKV xs ys = true → xs = ys
  | [], [], _ => rfl
  | [], _ :: _, h => by cases h
  | _ :: _, [], h => by cases h
  | (k, x) :: xs, (l, y) :: ys, h => by
    simp only [eqKV, Bool.and_eq_true, decide_eq_true_eq] at h
    rw [h.1.1, eqD_to h.1.2, eqKV_to h.2]
theorem eqKV_refl {κ : Type} [DecidableEq κ] : ∀ xs : List (κ × D), eqKV xs xs = true
  | [] => rfl
  | (k, x) :: xs => by simp [eqKV, eqD_refl x, eqKV_refl xs]
def eqC : Cell → Cell → Bool
  | .lst xs, .lst ys => eqDs xs ys
  | .dic xs, .dic ys => eqKV xs ys
  | .dct xs, .dct ys => eqKV xs ys
  | .ins c xs, .ins d ys => decide (c = d) && eqKV xs ys
  | .gone, .gone => true
  | _, _ => false
theorem eqC_to {x y : Cell} (h : eqC x y = true) : x = y := by
  cases x <;> cases y <;> first | cases h | skip
  · rw [eqDs_to (show eqDs _ _ = true from h)]
  · rw [eqKV_to (show eqKV _ _ = true from h)]
  · rw [eqKV_to (show eqKV _ _ = true from h)]
  · simp only [eqC, Bool.and_eq_true, decide_eq_true_eq] at h
    rw [h.1, eqKV_to h.2]
  · rfl
theorem eqC_refl (x : Cell) : eqC x x = true := by
  cases x <;> simp [eqC, eqDs_refl, eqKV_refl]
def eqM : M → M → Bool
  | [], [] => true
  | x :: xs, y :: ys => eqC x y && eqM xs ys
  | _, _ => false
theorem eqM_to : ∀ {x y : M}, eqM x y = true → x = y
  | [], [], _ => rfl
  | [], _ :: _, h => by cases h
  | _ :: _, [], h => by cases h
  | x :: xs, y :: ys, h => by
    simp only [eqM, Bool.and_eq_true] at h
    rw [eqC_to h.1, eqM_to h.2]
@[simp] theorem eqM_refl : ∀ x : M, eqM x x = true
  | [] => rfl
  | x :: xs => by simp [eqM, eqC_refl, eqM_refl xs]

/-! ### what leaves a def: its own lists stand still from then on -/
mutual
def noRef : D → Bool
  | .tup xs => noRefs xs
  | .lst xs => noRefs xs
  | .frz xs => noRefs xs
  | .ref _ => false
  | .non => true
  | .bl _ => true
  | .int _ => true
  | .str _ => true
def noRefs : List D → Bool
  | [] => true
  | x :: xs => noRef x && noRefs xs
end
def noKV {κ : Type} : List (κ × D) → Bool
  | [] => true
  | (_, x) :: xs => noRef x && noKV xs
def plainC : Cell → Bool
  | .lst xs => noRefs xs
  | .dic xs => noKV xs
  | .dct xs => noKV xs
  | .ins _ xs => noKV xs
  | .gone => true
/-- what stood there ahead stands, or holds no lists of this memory -/
def okM : M → M → Bool
  | [], [] => true
  | x :: xs, y :: ys => (eqC x y || plainC x) && okM xs ys
  | _, _ => false
@[simp] theorem okM_refl : ∀ x : M, okM x x = true
  | [] => rfl
  | x :: xs => by simp [okM, eqC_refl, okM_refl xs]
theorem okM_set : ∀ (m : M) (n : Nat) (c : Cell), plainC c = true → okM (m.set n c) m = true
  | [], _, _, _ => rfl
  | x :: xs, 0, c, h => by simp [okM, h]
  | x :: xs, n + 1, c, h => by simp [okM, eqC_refl, okM_set xs n c h]
theorem okM_get : ∀ {m' m : M} {i : Nat} {c : Cell}, okM m' m = true → m'[i]? = some c → m[i]? = some c ∨ plainC c = true
  | [], [], _, _, _, e => by simp at e
  | [], _ :: _, _, _, h, _ => by cases h
  | _ :: _, [], _, _, h, _ => by cases h
  | x :: xs, y :: ys, 0, c, h, e => by
    simp only [okM, Bool.and_eq_true, Bool.or_eq_true] at h
    have e' : x = c := by simpa using e
    subst e'
    rcases h.1 with q | q
    · left; rw [eqC_to q]; rfl
    · exact .inr q
  | x :: xs, y :: ys, i + 1, c, h, e => by
    simp only [okM, Bool.and_eq_true] at h
    have := okM_get (i := i) h.2 (by simpa using e)
    simpa using this
theorem okM_len : ∀ {m' m : M}, okM m' m = true → m'.length = m.length
  | [], [], _ => rfl
  | [], _ :: _, h => by cases h
  | _ :: _, [], h => by cases h
  | x :: xs, y :: ys, h => by
    simp only [okM, Bool.and_eq_true] at h
    simp [okM_len h.2]
def mapO (f : D → Option D) : List D → Option (List D)
  | [] => some []
  | x :: xs => match f x, mapO f xs with
    | some y, some ys => some (y :: ys)
    | _, _ => none
def fz (m : M) (n : Nat) : Nat → D → Option D
  | 0, x => if noRef x = true then some x else none
  | k + 1, x => if noRef x = true then some x else match x with
    | .tup xs => (mapO (fz m n k) xs).map .tup
    | .lst xs => (mapO (fz m n k) xs).map .lst
    | .ref i => if i < n then some (.ref i) else match m[i]? with
      | some (.lst xs) => (mapO (fz m n k) xs).map .lst
      | _ => none
    | _ => none
theorem fz_no {m : M} {n k : Nat} {x : D} (h : noRef x = true) : fz m n k x = some x := by
  cases k <;> simp [fz, h]
theorem mapO_no {m : M} {n k : Nat} : ∀ {xs : List D}, noRefs xs = true → mapO (fz m n k) xs = some xs
  | [], _ => rfl
  | x :: xs, h => by
    simp only [noRefs, Bool.and_eq_true] at h
    simp [mapO, fz_no h.1, mapO_no h.2]
/-- a list of plain things that was changed leaves as it is -/
theorem fz_ref {m : M} {n k i : Nat} {xs : List D} (hi : n ≤ i) (h : m[i]? = some (.lst xs)) (hx : noRefs xs = true) : fz m n (k + 1) (.ref i) = some (.lst xs) := by
  simp [fz, noRef, Nat.not_lt.mpr hi, h, mapO_no hx]
abbrev fzK : Nat := 4
def exitF (F : Fn) : Fn := fun ds m => match F ds m with
  | .ok x m' => if okM (m'.take m.length) m = true then match fz m' m.length fzK x with
    | some x' => .ok x' (m'.take m.length)
    | none => .bad
    else .bad
  | .exn c m' => if okM (m'.take m.length) m = true then .exn c (m'.take m.length) else .bad
  | .bad => .bad
section
variable {K : PySem.W.Frag} {mg : Str → Option Value}
mutual
theorem rd_plain {W' W1 : Wd} (e : Same W'.I W1.I) : ∀ {v : V} {d : D}, RD K W' v d → noRef d = true → RD K W1 v d
  | _, _, .non, _ => .non
  | _, _, .bl b, _ => .bl b
  | _, _, .int i, _ => .int i
  | _, _, .str x, _ => .str x
  | _, _, .tup h n r, q => .tup (same_T e h) (same_N e n) (rds_plain e r (by simpa [noRef] using q))
  | _, _, .lst h r, q => .lst (e _ _ h) (rds_plain e r (by simpa [noRef] using q))
  | _, _, .frz h r, q => .frz (e.seq h) (rds_plain e r (by simpa [noRef] using q))
  | _, _, .ref h, q => by simp [noRef] at q
theorem rds_plain {W' W1 : Wd} (e : Same W'.I W1.I) : ∀ {vs : List V} {ds : List D}, RDs K W' vs ds → noRefs ds = true → RDs K W1 vs ds
  | _, _, .nil, _ => .nil
  | _, _, .cons r t, q => by
    simp only [noRefs, Bool.and_eq_true] at q
    exact .cons (rd_plain e r q.1) (rds_plain e t q.2)
end
theorem rkv_plain {κ : Type} {W' W1 : Wd} (e : Same W'.I W1.I) : ∀ {a : List (κ × V)} {b : List (κ × D)}, RKV K W' a b → noKV b = true → RKV K W1 a b
  | [], [], .nil, _ => .nil
  | _, (k, y) :: ys, .cons p h, q => by
    simp only [noKV, Bool.and_eq_true] at q
    exact .cons ⟨p.1, rd_plain e p.2 q.1⟩ (rkv_plain e h q.2)
/-- what was known of old is known without what is new -/
theorem old_at {φ ψ : List Addr} {n : Nat} {a b : Addr} (h : φ[n]? = some a) (h' : (φ ++ ψ)[n]? = some b) : φ[n]? = some b := by
  have hl : n < φ.length := (List.getElem?_eq_some_iff.mp h).1
  rwa [List.getElem?_append_left hl] at h'
mutual
theorem rd_old {W W' W1 : Wd} {ψ : List Addr} (eφ : W'.φ = W.φ ++ ψ) (e1 : W1.φ = W.φ) (e : Same W'.I W1.I) : ∀ {d : D} {v u : V}, RD K W u d → RD K W' v d → RD K W1 v d
  | .non, _, _, _, r => by cases r; exact .non
  | .bl _, _, _, _, r => by cases r; exact .bl _
  | .int _, _, _, _, r => by cases r; exact .int _
  | .str _, _, _, _, r => by cases r; exact .str _
  | .tup xs, _, _, r0, r => by
    cases r0 with
    | tup _ _ q0 => cases r with
      | tup h n q => exact .tup (same_T e h) (same_N e n) (rds_old eφ e1 e q0 q)
  | .lst xs, _, _, r0, r => by
    cases r0 with
    | lst _ q0 => cases r with
      | lst h q => exact .lst (e _ _ h) (rds_old eφ e1 e q0 q)
  | .frz xs, _, _, r0, r => by
    cases r0 with
    | frz _ q0 => cases r with
      | frz h q => exact .frz (e.seq h) (rds_old eφ e1 e q0 q)
  | .ref n, _, _, r0, r => by
    cases r0 with
    | ref q0 => cases r with
      | ref q => exact .ref (by rw [e1]; rw [eφ] at q; exact old_at q0 q)
theorem rds_old {W W' W1 : Wd} {ψ : List Addr} (eφ : W'.φ = W.φ ++ ψ) (e1 : W1.φ = W.φ) (e : Same W'.I W1.I) : ∀ {ds : List D} {vs us : List V}, RDs K W us ds → RDs K W' vs ds → RDs K W1 vs ds
  | [], _, _, _, r => by cases r; exact .nil
  | d :: ds, _, _, r0, r => by
    cases r0 with
    | cons p0 q0 => cases r with
      | cons p q => exact .cons (rd_old eφ e1 e p0 p) (rds_old eφ e1 e q0 q)
end
theorem rkv_old {κ : Type} {W W' W1 : Wd} {ψ : List Addr} (eφ : W'.φ = W.φ ++ ψ) (e1 : W1.φ = W.φ) (e : Same W'.I W1.I) : ∀ {b : List (κ × D)} {a c : List (κ × V)}, RKV K W c b → RKV K W' a b → RKV K W1 a b
  | _, _, _, .nil, .nil => .nil
  | _, _, _, .cons p0 h0, .cons p h => .cons ⟨p.1, rd_old eφ e1 e p0.2 p.2⟩ (rkv_old eφ e1 e h0 h)
theorem rc_old {W W' W1 : Wd} {ψ : List Addr} (eφ : W'.φ = W.φ ++ ψ) (e1 : W1.φ = W.φ) (e : Same W'.I W1.I) {o0 o : HO} : ∀ {c : Cell}, RC K mg W o0 c → RC K mg W' o c → RC K mg W1 o c
  | .lst _, ⟨_, _, r0⟩, ⟨xs, h, r⟩ => ⟨xs, h, rds_old eφ e1 e r0 r⟩
  | .dic _, ⟨_, _, r0⟩, ⟨xs, h, r⟩ => ⟨xs, h, rkv_old eφ e1 e r0 r⟩
  | .dct _, ⟨_, _, r0⟩, ⟨xs, h, r⟩ => ⟨xs, h, rkv_old eφ e1 e r0 r⟩
  | .ins _ _, ⟨_, _, _, _, _, r0⟩, ⟨C, dx, xs, h, g, r⟩ => ⟨C, dx, xs, h, g, rkv_old eφ e1 e r0 r⟩
  | .gone, _, _ => trivial
theorem rc_plain {W' W1 : Wd} (e : Same W'.I W1.I) {o : HO} : ∀ {c : Cell}, RC K mg W' o c → plainC c = true → RC K mg W1 o c
  | .lst _, ⟨xs, h, r⟩, q => ⟨xs, h, rds_plain e r q⟩
  | .dic _, ⟨xs, h, r⟩, q => ⟨xs, h, rkv_plain e r q⟩
  | .dct _, ⟨xs, h, r⟩, q => ⟨xs, h, rkv_plain e r q⟩
  | .ins _ _, ⟨C, dx, xs, h, g, r⟩, q => ⟨C, dx, xs, h, g, rkv_plain e r q⟩
  | .gone, _, _ => trivial
/-- the world without what is new: that stands still -/
noncomputable def cutW (W W' : Wd) (H' : Hp) : Wd := ⟨fun a => open Classical in if a ∈ W'.φ.drop W.φ.length then H' a else W'.I a, W.φ⟩
theorem cut_same {W W' : Wd} {H' : Hp} {m' : M} (rm' : RM K mg W' H' m') : Same W'.I (cutW W W' H').I := by
  intro a o h
  unfold cutW
  dsimp only
  split
  · exact rm'.sub a o h
  · exact h
theorem cut_ok {W W' : Wd} {H H' : Hp} {m m' : M} (rm : RM K mg W H m) (e : Ex W H W' H') (rm' : RM K mg W' H' m') (ok : okM (m'.take m.length) m = true) :
    Ex W H (cutW W W' H') H' ∧ RM K mg (cutW W W' H') H' (m'.take m.length) := by
  obtain ⟨ψ, eφ, new⟩ := e.φ
  have es := cut_same (W := W) rm'
  have hdrop : W'.φ.drop W.φ.length = ψ := by rw [eφ]; exact List.drop_left
  have at1 : ∀ a, a ∉ ψ → (cutW W W' H').I a = W'.I a := fun a h => by
    unfold cutW; dsimp only; rw [hdrop, if_neg h]
  have at2 : ∀ a, a ∈ ψ → (cutW W W' H').I a = H' a := fun a h => by
    unfold cutW; dsimp only; rw [hdrop, if_pos h]
  have hlen : (m'.take m.length).length = m.length := okM_len ok
  refine ⟨⟨e.I.trans es, ⟨[], by simp [cutW], by simp⟩, e.fr, e.al, fun a o h => ?_⟩, ⟨fun a o h => ?_, by rw [hlen]; exact rm.len, rm.nd, fun a h => e.al a (rm.al a h), fun i a c h1 h2 h3 => ?_, fun i a c h1 h2 h3 => ?_⟩⟩
  · by_cases q : a ∈ ψ
    · exact .inr (.inl (new a q))
    · rw [at1 a q] at h; exact e.nw a o h
  · by_cases q : a ∈ ψ
    · rw [at2 a q] at h; exact h
    · rw [at1 a q] at h; exact rm'.sub a o h
  · have h1' : W.φ[i]? = some a := h1
    have hi : i < m.length := by
      have := (List.getElem?_eq_some_iff.mp h1').1
      rw [rm.len] at this; exact this
    have h4 : W'.φ[i]? = some a := e.le.get h1'
    have h5 : m'[i]? = some c := by rw [List.getElem?_take] at h2; simpa [hi] using h2
    obtain ⟨o, ho, rc⟩ := rm'.obj i a c h4 h5 h3
    refine ⟨o, ho, ?_⟩
    rcases okM_get ok h2 with q | q
    · obtain ⟨o0, _, rc0⟩ := rm.obj i a c h1' q h3
      exact rc_old (W1 := cutW W W' H') eφ rfl es rc0 rc
    · exact rc_plain es rc q
  · have h1' : W.φ[i]? = some a := h1
    have hi : i < m.length := by
      have := (List.getElem?_eq_some_iff.mp h1').1
      rw [rm.len] at this; exact this
    have h4 : W'.φ[i]? = some a := e.le.get h1'
    have h5 : m'[i]? = some c := by rw [List.getElem?_take] at h2; simpa [hi] using h2
    have nq : a ∉ ψ := fun q => by
      have := rm'.nd
      rw [eφ, List.nodup_append] at this
      exact this.2.2 a (List.mem_of_getElem? h1') a q rfl
    rw [at1 a nq]
    exact rm'.off i a c h4 h5 h3
theorem fz_rd {W W' : Wd} {H' : Hp} {m m' : M} {ψ : List Addr} (eφ : W'.φ = W.φ ++ ψ) (hl : W.φ.length = m.length) (rm' : RM K mg W' H' m') : ∀ (k : Nat) {x x' : D} {v : V}, fz m' m.length k x = some x' → RD K W' v x → RD K (cutW W W' H') v x' := by
  have es := cut_same (W := W) rm'
  have hdrop : W'.φ.drop W.φ.length = ψ := by rw [eφ]; exact List.drop_left
  intro k
  induction k with
  | zero =>
    intro x x' v h r
    simp only [fz] at h
    split at h
    · rename_i q; cases h; exact rd_plain es r q
    · cases h
  | succ k ih =>
    have ihs : ∀ {xs xs' : List D} {vs : List V}, mapO (fz m' m.length k) xs = some xs' → RDs K W' vs xs → RDs K (cutW W W' H') vs xs' := by
      intro xs
      induction xs with
      | nil => intro xs' vs h r; cases h; cases r; exact .nil
      | cons x xs ihx =>
        intro xs' vs h r
        cases r with
        | cons p q =>
          unfold mapO at h
          split at h
          · rename_i y ys h1 h2
            cases h
            exact .cons (ih h1 p) (ihx h2 q)
          · cases h
    intro x x' v h r
    simp only [fz] at h
    split at h
    · rename_i q; cases h; exact rd_plain es r q
    · cases r with
      | non => cases h
      | bl _ => cases h
      | int _ => cases h
      | str _ => cases h
      | frz _ _ => cases h
      | tup h1 n q =>
        obtain ⟨ys, e1, e2⟩ := Option.map_eq_some_iff.mp h
        subst e2
        exact .tup (same_T es h1) (same_N es n) (ihs e1 q)
      | lst h1 q =>
        obtain ⟨ys, e1, e2⟩ := Option.map_eq_some_iff.mp h
        subst e2
        exact .lst (es _ _ h1) (ihs e1 q)
      | @ref i a q =>
        dsimp only at h
        split at h
        · rename_i hi
          cases h
          rw [← hl] at hi
          exact .ref (by rw [eφ, List.getElem?_append_left hi] at q; exact q)
        · rename_i hi
          split at h
          · rename_i xs hm
            obtain ⟨ys, e1, e2⟩ := Option.map_eq_some_iff.mp h
            subst e2
            obtain ⟨o, ho, us, eo, ru⟩ := rm'.obj i a _ q hm (by simp)
            subst eo
            have hn : a ∈ ψ := by
              rw [← hl] at hi
              rw [eφ, List.getElem?_append_right (Nat.le_of_not_lt hi)] at q
              exact List.mem_of_getElem? q
            refine .lst (xs := us) ?_ (ihs e1 ru)
            show (cutW W W' H').I a = _
            unfold cutW
            dsimp only
            rw [hdrop, if_pos hn]
            exact ho
          · cases h
variable {P : Program} {w : World} {base : Heap}
theorem exit_ok {k : Nat} {f : Addr} {fd : FuncData} {ps : List Str} {F : Fn} (G : FnG P w K mg base k f fd ps F) : FnG P w K mg base k f fd ps (exitF F) := by
  intro A outer s H args us vs Q E hr hg e0 bind rel ⟨hl, W, m, ds, rm, rds, hp⟩
  refine G A outer s H args us vs Q E hr hg e0 bind rel ⟨hl, W, m, ds, rm, rds, ?_⟩
  unfold exitF at hp
  revert hp
  cases F ds m with
  | bad => exact fun hp => hp
  | exn c m' =>
    intro hp W' H' e rm'
    dsimp only at hp
    split at hp
    · rename_i ok
      obtain ⟨e2, rm2⟩ := cut_ok rm e rm' ok
      exact hp _ _ e2 rm2
    · exact hp.elim
  | ok x m' =>
    intro hp W' H' e rm' v rv
    dsimp only at hp
    split at hp
    · rename_i ok
      obtain ⟨e2, rm2⟩ := cut_ok rm e rm' ok
      obtain ⟨ψ, eφ, _⟩ := e.φ
      split at hp
      · rename_i x' hx
        exact hp _ _ e2 rm2 v (fz_rd eφ rm.len rm' _ hx rv)
      · exact hp.elim
    · exact hp.elim
end
/-! ### a list of ours that isn't changed any more -/
def hold (i : Nat) (d : SS) : SS := fun ρ m => match ρ[i]? with
  | some (some (.ref n)) => match m[n]? with
    | some (.lst xs) => d (ρ.set i (some (.lst xs))) (m.set n .gone)
    | _ => .bad
  | some (some x) => d ρ m
  | _ => .bad
theorem hold_cell {K : PySem.W.Frag} {mg : Str → Option Value} {W : Wd} {H : Hp} {m : M} {n : Nat} {a : Addr} {xs : List D} (rm : RM K mg W H m) (h : W.φ[n]? = some a) (hc : m[n]? = some (.lst xs)) :
    ∃ W', Ex W H W' H ∧ RM K mg W' H (m.set n .gone) ∧ RD K W' (.ref a) (.lst xs) := by
  obtain ⟨o, ho, us, eo, ru⟩ := rm.obj n a _ h hc (by simp)
  subst eo
  have hI := rm.off n a _ h hc (by simp)
  have le : Le W ⟨upd W.I a (.lst us), W.φ⟩ := ⟨fun b u e => upd_ne' hI e, [], by simp⟩
  refine ⟨⟨upd W.I a (.lst us), W.φ⟩, ⟨le.I, ⟨[], by simp, by simp⟩, fun b u e _ => e, fun b e => e, fun b u e => ?_⟩, ⟨fun b u e => ?_, by simpa using rm.len, rm.nd, rm.al, fun i b c h1 h2 h3 => ?_, fun i b c h1 h2 h3 => ?_⟩, .lst upd_same (ru.mono le)⟩
  · by_cases hb : b = a
    · subst hb; exact .inr (.inr (List.mem_of_getElem? h))
    · have e' : upd W.I a (.lst us) b = some u := e
      rw [upd_ne hb] at e'; exact .inl e'
  · by_cases hb : b = a
    · subst hb
      have e' : upd W.I b (.lst us) b = some u := e
      rw [upd_same] at e'; rw [ho]; exact e'
    · have e' : upd W.I a (.lst us) b = some u := e
      rw [upd_ne hb] at e'; exact rm.sub b u e'
  · by_cases hi : i = n
    · subst hi
      have := (List.getElem?_eq_some_iff.mp hc).1
      rw [List.getElem?_set_self this] at h2
      cases h2
      exact absurd rfl h3
    · rw [List.getElem?_set_ne (Ne.symm hi)] at h2
      obtain ⟨o, ho, rc⟩ := rm.obj i b c h1 h2 h3
      exact ⟨o, ho, rc.mono le⟩
  · by_cases hi : i = n
    · subst hi
      have := (List.getElem?_eq_some_iff.mp hc).1
      rw [List.getElem?_set_self this] at h2
      cases h2
      exact absurd rfl h3
    · rw [List.getElem?_set_ne (Ne.symm hi)] at h2
      have hne : b ≠ a := fun z => by subst z; exact hi (φ_inj rm.nd h1 h)
      show upd W.I a (.lst us) b = none
      rw [upd_ne hne]
      exact rm.off i b c h1 h2 h3
section
variable {X : Cx} {EX : Str → Hp → Prop} {d : SS} {i : Nat}
theorem hold_imp {D : Ends} {σ : L2.St} {H : Hp} (h : tS X.K X.mg EX (hold i d) D σ H) : tS X.K X.mg EX d D σ H := by
  obtain ⟨W, ρ, m, rs, rm, h⟩ := h
  unfold hold at h
  split at h
  · rename_i n hn
    split at h
    · rename_i xs hm
      obtain ⟨v, hv, rv⟩ := rs.get i _ hn
      cases rv with
      | ref q =>
        obtain ⟨W', e, rm', rd⟩ := hold_cell rm q hm
        refine ⟨W', _, _, ?_, rm', postS_shift h e⟩
        have r2 := (rs.mono e.le).set i rd
        have : ∀ a : Addr, σ[i]? = some (some (V.ref a)) → σ.set i (some (.ref a)) = σ := by
          intro a hv
          apply List.ext_getElem?
          intro j
          by_cases hj : i = j
          · subst hj
            have := (List.getElem?_eq_some_iff.mp hv).1
            rw [List.getElem?_set_self this, hv]
          · rw [List.getElem?_set_ne hj]
        rwa [this _ hv] at r2
    · exact h.elim
  · exact ⟨W, ρ, m, rs, rm, h⟩
  · exact h.elim
theorem ds_hold {st : Stmt} (h : DS X EX st d) : DS X EX st (hold i d) := PS.imp h fun _ _ _ q => hold_imp q
theorem dss_hold {sts : List Stmt} (h : DSs X EX sts d) : DSs X EX sts (hold i d) := PSs.imp h fun _ _ _ q => hold_imp q
end
end Vi

set_option Elab.async false
set_option linter.all false
set_option maxRecDepth 100000
set_option maxHeartbeats 4000000
namespace Vi
open PySem PySem.Spec PyProof.Rows L2

/-! ### what goes by the values -/
def gOr (g h : G2) : G2 := fun x y m => match g x y m with
  | .bad => h x y m
  | r => r
section
variable {X : Cx} {EX : Str → Hp → Prop} {tg e : Expr} {d : SE}
theorem o_or {f : Value → Value → Sem Value} {g h : G2} (a : Op2 X f g) (b : Op2 X f h) : Op2 X f (gOr g h) := by
  obtain ⟨r, hr, lr⟩ := a
  obtain ⟨r', hr', lr'⟩ := b
  refine ⟨_, hr.or hr', fun EX W H m vx vy x y Q rm rx ry hp => ?_⟩
  unfold gOr at hp
  cases q : g x y m with
  | bad => rw [q] at hp; exact .inr (lr' EX W H m vx vy x y Q rm rx ry hp)
  | ok z m1 => rw [q] at hp; exact .inl (lr EX W H m vx vy x y Q rm rx ry (by rw [q]; exact hp))
  | exn c m1 => rw [q] at hp; exact .inl (lr EX W H m vx vy x y Q rm rx ry (by rw [q]; exact hp))
def gAddA : G2 := gOr gAdd (gOr gCatT gCatS)
def gMulA : G2 := gOr gMul gRepT
theorem o_addA : Op2 X (binaryOp .Add) gAddA := o_or o_add (o_or o_catT o_catS)
theorem o_mulA : Op2 X (binaryOp .Mult) gMulA := o_or o_mul o_repT
def iS (d : SE) : SA := fun ρ m => (d ρ m).bind fun x m => match fixS x with
  | some xs => .ok xs m
  | none => .bad
theorem di_seq (h : DE X EX e d) : DI X EX RD tg e (iS d) := by
  refine ⟨fun pins s σ H R I hq => ?_⟩
  obtain ⟨W, ρ, m, rs, rm, hp⟩ := hq
  by_cases ht : ∃ xs m', d ρ m = .ok (.tup xs) m'
  · obtain ⟨xs, m', e1⟩ := ht
    refine (di_tup h).run pins s σ H R I ⟨W, ρ, m, rs, rm, ?_⟩
    simp only [iS, iT, e1, bind_ok, fixS] at hp ⊢
    exact hp
  · refine (di_list h).run pins s σ H R I ⟨W, ρ, m, rs, rm, ?_⟩
    cases e1 : d ρ m with
    | bad => simp only [iS, e1, bind_bad] at hp; exact hp.elim
    | exn c m1 => simp only [iS, iL, e1, bind_exn] at hp ⊢; exact hp
    | ok x m1 =>
      cases x with
      | tup xs => exact absurd ⟨_, _, e1⟩ ht
      | _ => simp only [iS, iL, e1, bind_ok, fixS, fixL] at hp ⊢; first | exact hp | exact hp.elim
end
section
variable {X : Cx} {k : Nat} {EX : Str → Hp → Prop}
theorem BodyCx.hu (B : BodyCx X k EX) : X.A.units + 100 < cLine := by have := B.room.un; omega
theorem BodyCx.hu64 (B : BodyCx X k EX) : X.A.units + 64 < cLine := by have := B.room.un; omega
end
end Vi

set_option Elab.async false
set_option linter.all false
set_option maxRecDepth 100000
set_option maxHeartbeats 4000000
namespace Vi
open PySem PySem.Spec PyProof.Rows L2

/-! ### max(xs), min(xs) of ints -/
section
variable {X : Cx}
def rMaxT (K : PySem.W.Frag) : List V → Hp → VK → Prop := fun vs H Q => ∃ (a : Addr) (ns : List Int), vs = [V.ref a] ∧ SqT K H a (ns.map V.int) ∧ 0 < ns.length ∧ ∀ m, m ∈ ns → (∀ y, y ∈ ns → y ≤ m) → Q (.int m) H
def rMinT (K : PySem.W.Frag) : List V → Hp → VK → Prop := fun vs H Q => ∃ (a : Addr) (ns : List Int), vs = [V.ref a] ∧ SqT K H a (ns.map V.int) ∧ 0 < ns.length ∧ ∀ m, m ∈ ns → (∀ y, y ∈ ns → m ≤ y) → Q (.int m) H
theorem max_tupR (hc : X.calm = true) : CallR X (.builtin "max") (rMaxT X.K) := by
  intro pins s σ H vs us Q I r ⟨a, ns, hv, hs, hne, q⟩
  subst hv
  obtain ⟨its, rv, hl, _⟩ := I.tuple hs
  rw [Vals.ref1 r]
  obtain ⟨zs, e⟩ := rv.ints.allInts.items
  have hn : (zs.toList.map (·.1)) = ns := by rw [← nums_intItems, ← e]; exact rv.ints.numsOf
  rw [e] at hl
  have hsz : 0 < zs.size := by
    rw [← hn] at hne; simpa using hne
  have hat : a ≠ s.heap.objs.size := Nat.ne_of_lt hl.lt
  refine call_max_walk (iter_tuple hl ?_)
  refine ⟨_, _, _, _, _, _, _, rfl, Walks.tuple (A := X.A.in1) (I.ok.hd hc) _ a hat (intItems zs), ⟨⟨_, Heap.get?_push_size _ rfl, rfl, rfl⟩, hl.push _⟩, ?_, by simpa [intItems] using hsz, CmpOf.ints_gt (numAt zs) (fun _ _ => intItems_at), fun v h' tk hP hk => ?_⟩
  · intro b hb
    simp at hb
    rcases hb with rfl | rfl
    · exact Heap.lt_size (Heap.get?_push_size s.heap rfl)
    · exact Nat.lt_trans hl.lt (Heap.lt_size (Heap.get?_push_size s.heap rfl))
  · have hP : (intItems zs)[argBest (fun i j => decide (numAt zs i > numAt zs j)) (zs.size - 1)]? = some v := by simpa [intItems] using hP
    obtain ⟨t, rfl⟩ := intItems_at hP
    obtain ⟨h1, h2⟩ := argBest_gt (numAt zs) (zs.size - 1)
    refine ⟨.int _, H, I.kept fun b o e => hk b o (fun hm => ?_) (Heap.get?_push_of_some _ e), ⟨_, rfl⟩, q _ ?_ fun y hy => ?_⟩
    · simp at hm; subst hm; exact absurd (Heap.lt_size e) (Nat.lt_irrefl _)
    · rw [← hn, numAt_eq]; exact PySem.getD_mem (by rw [List.length_map, Array.length_toList]; omega)
    · rw [← hn] at hy
      obtain ⟨j, hj, rfl⟩ := mem_getD hy
      rw [List.length_map, Array.length_toList] at hj
      rw [← numAt_eq]; exact h2 j (by omega)
theorem min_tupR (hc : X.calm = true) : CallR X (.builtin "min") (rMinT X.K) := by
  intro pins s σ H vs us Q I r ⟨a, ns, hv, hs, hne, q⟩
  subst hv
  obtain ⟨its, rv, hl, _⟩ := I.tuple hs
  rw [Vals.ref1 r]
  obtain ⟨zs, e⟩ := rv.ints.allInts.items
  have hn : (zs.toList.map (·.1)) = ns := by rw [← nums_intItems, ← e]; exact rv.ints.numsOf
  rw [e] at hl
  have hsz : 0 < zs.size := by
    rw [← hn] at hne; simpa using hne
  have hat : a ≠ s.heap.objs.size := Nat.ne_of_lt hl.lt
  refine call_min_walk (iter_tuple hl ?_)
  refine ⟨_, _, _, _, _, _, _, rfl, Walks.tuple (A := X.A.in1) (I.ok.hd hc) _ a hat (intItems zs), ⟨⟨_, Heap.get?_push_size _ rfl, rfl, rfl⟩, hl.push _⟩, ?_, by simpa [intItems] using hsz, CmpOf.ints_lt (numAt zs) (fun _ _ => intItems_at), fun v h' tk hP hk => ?_⟩
  · intro b hb
    simp at hb
    rcases hb with rfl | rfl
    · exact Heap.lt_size (Heap.get?_push_size s.heap rfl)
    · exact Nat.lt_trans hl.lt (Heap.lt_size (Heap.get?_push_size s.heap rfl))
  · have hP : (intItems zs)[argBest (fun i j => decide (numAt zs i < numAt zs j)) (zs.size - 1)]? = some v := by simpa [intItems] using hP
    obtain ⟨t, rfl⟩ := intItems_at hP
    obtain ⟨h1, h2⟩ := argBest_lt (numAt zs) (zs.size - 1)
    refine ⟨.int _, H, I.kept fun b o e => hk b o (fun hm => ?_) (Heap.get?_push_of_some _ e), ⟨_, rfl⟩, q _ ?_ fun y hy => ?_⟩
    · simp at hm; subst hm; exact absurd (Heap.lt_size e) (Nat.lt_irrefl _)
    · rw [← hn, numAt_eq]; exact PySem.getD_mem (by rw [List.length_map, Array.length_toList]; omega)
    · rw [← hn] at hy
      obtain ⟨j, hj, rfl⟩ := mem_getD hy
      rw [List.length_map, Array.length_toList] at hj
      rw [← numAt_eq]; exact h2 j (by omega)
def gOf (f : List Int → Int) : List D → M → R D := fun xs m => match xs with
  | [x] => match asSeq x m with
    | some ys => match intsD ys with
      | some ns => if ns.length = 0 then .bad else .ok (.int (f ns)) m
      | none => .bad
    | none => .bad
  | _ => .bad
def gMaxS := gOf maxI
def gMinS := gOf minI
theorem of_lift {f : List Int → Int} {r r' : List V → Hp → VK → Prop} {EX : Str → Hp → Prop} {W : Wd} {H : Hp} {m : M} {vs : List V} {xs : List D} {Q : VK}
    (h1 : ∀ a ns, SqL X.K H a (ns.map V.int) → 0 < ns.length → Q (.int (f ns)) H → r [.ref a] H Q) (h2 : ∀ a ns, SqT X.K H a (ns.map V.int) → 0 < ns.length → Q (.int (f ns)) H → r' [.ref a] H Q)
    (rm : RM X.K X.mg W H m) (rl : RDs X.K W vs xs) (hp : post X.K X.mg W H (gOf f xs m) (fun z W' H' _ => ∀ v, RD X.K W' v z → Q v H') EX) : r vs H Q ∨ r' vs H Q := by
  unfold gOf at hp
  split at hp
  · obtain ⟨v, rfl, rv⟩ := RDs.inv1 rl
    split at hp
    · rename_i ys hy
      split at hp
      · rename_i ns hn
        split at hp
        · exact hp.elim
        · rename_i hz
          obtain ⟨a, us, rfl, hs, r2⟩ := seq_of rm rv hy
          have e := intsD_of r2 hn
          subst e
          rcases hs with hs | hs
          · exact .inl (h1 a ns hs (by omega) (post_ok hp rm _ (.int _)))
          · exact .inr (h2 a ns hs (by omega) (post_ok hp rm _ (.int _)))
      · exact hp.elim
    · exact hp.elim
  · exact hp.elim
theorem c_maxS (hc : X.calm = true) : CallD X (.builtin "max") gMaxS := ⟨_, CallR.or' (cr_max hc) (max_tupR hc), fun EX W H m vs xs Q rm r hp =>
  of_lift (r := rMax X.K) (r' := rMaxT X.K) (fun a ns hs h0 q => ⟨a, ns, rfl, hs, h0, fun m h1 h2 => by rw [maxI_eq h0 h1 h2]; exact q⟩) (fun a ns hs h0 q => ⟨a, ns, rfl, hs, h0, fun m h1 h2 => by rw [maxI_eq h0 h1 h2]; exact q⟩) rm r hp⟩
theorem c_minS (hc : X.calm = true) : CallD X (.builtin "min") gMinS := ⟨_, CallR.or' (cr_min hc) (min_tupR hc), fun EX W H m vs xs Q rm r hp =>
  of_lift (r := rMin X.K) (r' := rMinT X.K) (fun a ns hs h0 q => ⟨a, ns, rfl, hs, h0, fun m h1 h2 => by rw [minI_eq h0 h1 h2]; exact q⟩) (fun a ns hs h0 q => ⟨a, ns, rfl, hs, h0, fun m h1 h2 => by rw [minI_eq h0 h1 h2]; exact q⟩) rm r hp⟩
end
/-! ### x in xs -/
def flD : D → Option V
  | .non => some .non
  | .bl b => some (.bl b)
  | .int i => some (.int i)
  | .str x => some (.str x)
  | _ => none
def flDs : List D → Option (List V)
  | [] => some []
  | x :: xs => match flD x, flDs xs with
    | some v, some vs => some (v :: vs)
    | _, _ => none
theorem flD_of {K : PySem.W.Frag} {W : Wd} {v u : V} {x : D} (r : RD K W v x) (h : flD x = some u) : v = u := by
  cases r <;> simp [flD] at h <;> exact h
theorem flDs_of {K : PySem.W.Frag} {W : Wd} : ∀ {vs us : List V} {xs : List D}, RDs K W vs xs → flDs xs = some us → vs = us
  | _, _, _, .nil, h => by cases h; rfl
  | _, _, _, .cons r t, h => by
    unfold flDs at h
    split at h
    · rename_i v vs h1 h2
      cases h
      rw [flD_of r h1, flDs_of t h2]
    · cases h
/-- a flat thing in a sequence of flat things; any data in a list of data -/
def inD (neg : Bool) : D → D → M → R Bool := fun x y m => match flD x, (asSeq y m).bind flDs with
  | some u, some us => if flatV u = true then if us.all flatV = true then .ok (if neg then !inV u us else inV u us) m else .bad else .bad
  | _, _ => match toPyR x m, toPyR y m with
    | some d, some (.list ds) => if SeqAt.shaped d = true then if SeqAt.shaped (.list ds) = true then .ok (if neg then !(ds.any fun z => PyData.eqv z d) else ds.any fun z => PyData.eqv z d) m else .bad else .bad
    | _, _ => .bad
def gIn := inD false
def gNotIn := inD true
section
variable {X : Cx}
theorem o_inX {neg : Bool} {op : CmpOp} (h1 : OpR X (compareOp op) (rIn X.K neg))
    (h2 : OpR X (compareOp op) (fun x y H Q => ∃ d ds, Dp X.K H x d ∧ Dp X.K H y (.list ds) ∧ SeqAt.shaped d = true ∧ SeqAt.shaped (.list ds) = true ∧ Q (.bl (if neg then !(ds.any fun z => PyData.eqv z d) else ds.any fun z => PyData.eqv z d)) H)) : Op2B X (compareOp op) (inD neg) := by
  refine ⟨_, h1.or h2, fun EX W H m vx vy x y Q rm rx ry hp => ?_⟩
  unfold inD at hp
  split at hp
  · rename_i u us e1 e2
    obtain ⟨ys, hy, e3⟩ := Option.bind_eq_some_iff.mp e2
    obtain ⟨a, ws, rfl, hs, r2⟩ := seq_of rm ry hy
    have ex := flD_of rx e1
    have ey := flDs_of r2 e3
    subst ex; subst ey
    split at hp
    · split at hp
      · exact .inl ⟨a, ws, rfl, hs, by assumption, by assumption, post_ok hp rm⟩
      · exact hp.elim
    · exact hp.elim
  · split at hp
    · rename_i d ds h3 h4
      split at hp
      · split at hp
        · exact .inr ⟨d, ds, dpR_of rm rx h3, dpR_of rm ry h4, by assumption, by assumption, post_ok hp rm⟩
        · exact hp.elim
      · exact hp.elim
    · exact hp.elim
theorem o_in (hu : X.A.units + 65 < cLine) : Op2B X (compareOp .In) gIn := o_inX op_in_seq (op_inD hu)
theorem o_notIn (hu : X.A.units + 65 < cLine) : Op2B X (compareOp .NotIn) gNotIn := o_inX op_notIn_seq (op_notInD hu)
theorem BodyCx.hu65 {k : Nat} {EX : Str → Hp → Prop} (B : BodyCx X k EX) : X.A.units + 65 < cLine := by have := B.room.un; omega
end
/-! ### methods of our lists: extend, pop, remove -/
/-- xs.extend(new list) -/
def sExt (do_ d : SE) : SE := fun ρ m => (do_ ρ m).bind fun o m => match o with
  | .ref n => match m[n]? with
    | some (.lst _) => (d ρ m).bind fun x m => match m[n]?, asLst x m with
      | some (.lst xs), some ys => if xs.length + ys.length ≤ big then .ok .non (m.set n (.lst (xs ++ ys))) else .bad
      | _, _ => .bad
    | _ => .bad
  | _ => .bad
section
variable {X : Cx} {EX : Str → Hp → Prop} {o e : Expr} {do_ d : SE} {apos cpos : Pos}
theorem de_ext (ho : DE X EX o do_) (he : DE X EX e d)
    (hbase : attributeBase o "extend" X.env (eval o X.env) = eval o X.env := by rfl)
    (hfew : ((backTo cpos (starEach [e] X.env)).all (fun x => !x.1) && (backToKw cpos (keywordEach [] X.env)).all (fun x => x.1.isSome)
      && decide ([e].length + ([] : List Keyword).length + (if ([] : List Keyword).isEmpty then 0 else 1) < 30)) = true := by rfl)
    (hline : (apos.endLine == cpos.line) = true := by rfl) (hs : starEach [e] X.env = (false, eval e X.env) :: starEach [] X.env := by rfl) :
    DE X EX (.Call (.Attribute o "extend" apos) [e] [] cpos) (sExt do_ d) :=
  PE.imp (pe_bm PySem.F.plainAttrs_list PySem.F.slot_list_extend PySem.F.type_list_extend mt_extend ho (pa_cons he pa_nil hs) hbase hfew hline hs) fun σ H Q ⟨W, ρ, m, rs, rm, h⟩ => ⟨W, ρ, m, rs, rm, post_mono (post_bind h) fun x W1 H1 m1 e1 rm1 h1 v rv => by
    cases x with
    | ref n =>
      dsimp only at h1
      split at h1
      · rename_i ys hy
        cases rv with
        | @ref _ a q =>
          obtain ⟨u, hu, ⟨vs, rfl, r⟩, _⟩ := rm1.get q hy (by simp)
          refine ⟨.inl ⟨rfl, vs, .inl (.inl hu)⟩, W1, ρ, m1, rs.mono e1.le, rm1, post_mono (post_bind h1) fun x W2 H2 m2 e2 rm2 h2 w rw' => ?_⟩
          split at h2
          · rename_i xs zs hx hzs
            split at h2
            · rename_i hz
              have q2 := e2.le.get q
              obtain ⟨u, hu, ⟨vs, rfl, r⟩, _⟩ := rm2.get q2 hx (by simp)
              obtain ⟨b, ws, rfl, hb, r3⟩ := lst_of rm2 rw' hzs
              refine ⟨a, b, vs, ws, rfl, rfl, hu, hb, by rw [r.length, r3.length, big_eq]; exact hz, ?_⟩
              obtain ⟨e3, rm3⟩ := set_cell (c' := .lst (xs ++ zs)) (o := .lst (vs ++ ws)) rm2 q2 hx (by simp) ⟨_, rfl, r.append r3⟩
              exact h2 _ _ e3 rm3 _ .non
            · exact h2.elim
          · exact h2.elim
      · exact h1.elim
    | _ => exact h1.elim⟩
/-- xs.pop() -/
def sPop (do_ : SE) : SE := fun ρ m => (do_ ρ m).bind fun o m => match o with
  | .ref n => match m[n]? with
    | some (.lst xs) => match xs[xs.length - 1]? with
      | some y => .ok y (m.set n (.lst xs.dropLast))
      | none => .bad
    | _ => .bad
  | _ => .bad
theorem RDs.dropLast {K : PySem.W.Frag} {W : Wd} {vs : List V} {ds : List D} (h : RDs K W vs ds) : RDs K W vs.dropLast ds.dropLast := by
  rw [List.dropLast_eq_take, List.dropLast_eq_take, h.length]
  exact h.take _
theorem de_pop (ho : DE X EX o do_)
    (hbase : attributeBase o "pop" X.env (eval o X.env) = eval o X.env := by rfl)
    (hline : (apos.endLine == cpos.line) = true := by rfl) :
    DE X EX (.Call (.Attribute o "pop" apos) [] [] cpos) (sPop do_) :=
  PE.imp (pe_bm0 PySem.F.plainAttrs_list PySem.F.slot_list_pop PySem.F.type_list_pop mt_pop ho hbase hline) fun σ H Q ⟨W, ρ, m, rs, rm, h⟩ => ⟨W, ρ, m, rs, rm, post_mono (post_bind h) fun x W1 H1 m1 e1 rm1 h1 v rv => by
    cases x with
    | ref n =>
      dsimp only at h1
      split at h1
      · rename_i ys hy
        split at h1
        · rename_i y hl
          cases rv with
          | @ref _ a q =>
            obtain ⟨u, hu, ⟨vs, rfl, r⟩, _⟩ := rm1.get q hy (by simp)
            obtain ⟨w, hw, rw'⟩ := r.get hl
            refine ⟨.inl ⟨rfl, vs, .inl (.inl hu)⟩, a, vs, w, rfl, rfl, hu, by rw [r.length]; exact hw, ?_⟩
            obtain ⟨e3, rm3⟩ := set_cell (c' := .lst ys.dropLast) (o := .lst vs.dropLast) rm1 q hy (by simp) ⟨_, rfl, r.dropLast⟩
            exact h1 _ _ e3 rm3 _ (rw'.mono e3.le)
        · exact h1.elim
      · exact h1.elim
    | _ => exact h1.elim⟩
end
end Vi

set_option Elab.async false
set_option linter.all false
set_option maxRecDepth 100000
set_option maxHeartbeats 4000000
namespace Vi
open PySem PySem.Spec PyProof.Rows L2

/-! ### xs.count(k) of ints -/
section
variable {X : Cx} {EX : Str → Hp → Prop} {o e : Expr} {to te : TE} {apos cpos : Pos}
theorem tn_is {pins : List (Addr × Obj)} {σ : L2.St} {H : Hp} {s : Shared} {p : Addr} {xs : List V} (I : Inv X pins σ H s) (h : SqT X.K H p xs) (n : TN X.K H p) :
    s.TypeIs (.ref p) "tuple" ∧ ∀ a, Value.ref p = .ref a → ∃ ob, s.heap.get? a = some ob ∧ ob.dict = none := by
  obtain ⟨its, _, hl, _⟩ := I.tuple h
  refine ⟨hl.typeIs, fun a ea => ?_⟩
  cases ea
  rcases n with ⟨ob, u, hq, hd⟩ | ⟨ob, hk, hd⟩
  · exact ⟨ob, (I.hok p _ hq).1, hd⟩
  · exact ⟨ob, I.kIn _ ob hk, hd⟩
def tCnt (K : PySem.W.Frag) (to : TE) (t : TA) : TE := fun σ H Q => to σ H fun x H1 => ∃ (p : Addr) (ns : List Int), x = .ref p ∧ SqT K H1 p (ns.map V.int) ∧ TN K H1 p ∧ t σ H1 fun ys H2 => ∃ k : Int, ys = [.int k] ∧ SqT K H2 p (ns.map V.int) ∧ Q (.int (ns.count k : Nat)) H2
theorem pe_tcount {t : TA} (ho : PE X o to) (ha : PA X [e] t)
    (hbase : attributeBase o "count" X.env (eval o X.env) = eval o X.env := by rfl)
    (hfew : ((backTo cpos (starEach [e] X.env)).all (fun x => !x.1) && (backToKw cpos (keywordEach [] X.env)).all (fun x => x.1.isSome)
      && decide ([e].length + ([] : List Keyword).length + (if ([] : List Keyword).isEmpty then 0 else 1) < 30)) = true := by rfl)
    (hline : (apos.endLine == cpos.line) = true := by rfl) (hs : starEach [e] X.env = (false, eval e X.env) :: starEach [] X.env := by rfl) :
    PE X (.Call (.Attribute o "count" apos) [e] [] cpos) (tCnt X.K to t) := by
  refine ⟨fun pins s σ H Q I h => ?_⟩
  refine wpAny_Call_method_late hbase hfew hline rfl (thn (ho.run pins s σ H _ I h) fun v s1 ⟨x, H1, I1, r1, p, ns, ex, hq, hn, q1⟩ => ?_)
  subst ex
  cases r1
  obtain ⟨h1, h2⟩ := tn_is I1 hq hn
  refine ⟨"tuple", "tuple.count", PySem.F.plainAttrs_tuple, PySem.F.slot_tuple_count, PySem.F.type_tuple_count, h1, h2, ?_⟩
  have hA := ha.run cpos pins s1 σ H1 _ I1 q1
  rw [hs] at hA ⊢
  refine Calls.callWith_builtin (by rfl) (Calls.evalArgs_plain ?_)
  refine thn hA fun us s2 ⟨vs, H2, I2, r2, k, ev, hq2, q2⟩ => ?_
  subst ev
  obtain ⟨u, rfl, ru⟩ := r2.one
  obtain ⟨t, rfl⟩ := ru
  obtain ⟨its, rv, ⟨⟨cls, dd, data, sl⟩, ho2, hc, n, hd⟩, hlen⟩ := I2.tuple hq2
  simp only at hc hd
  subst hc hd
  have hi := ints_of_vals rv
  refine call_meets PySem.F.slot_tuple_count ⟨_, ho2, rfl⟩ PySem.F.entry_tuple_count (PySem.F.args_tuple_count_2 _ _)
    (SeqAt.tuple_countAt p its.toArray n dd sl (.int k t) (eqk k)) ⟨ho2, fun y hy => (eqk_gives hi y (by simpa using hy)).at _ _, ?_⟩
  have ec : its.toArray.toList.countP (eqk k) = ns.count k := eqk_count hi
  refine ⟨.int (ns.count k : Nat), H2, I2.tok _, ⟨s2.toks, ?_⟩, q2⟩
  show Value.int ((its.toArray.toList.countP (eqk k) : Nat) : Int) s2.toks = Value.int ((ns.count k : Nat) : Int) s2.toks
  rw [ec]
def sCount (do_ d : SE) : SE := fun ρ m => (do_ ρ m).bind fun x m => match x with
  | .tup xs => match intsD xs with
    | some ns => (d ρ m).bind fun y m => match y with
      | .int k => .ok (.int (ns.count k : Nat)) m
      | _ => .bad
    | none => .bad
  | _ => .bad
theorem de_count {do_ d : SE} (ho : DE X EX o do_) (he : DE X EX e d)
    (hbase : attributeBase o "count" X.env (eval o X.env) = eval o X.env := by rfl)
    (hfew : ((backTo cpos (starEach [e] X.env)).all (fun x => !x.1) && (backToKw cpos (keywordEach [] X.env)).all (fun x => x.1.isSome)
      && decide ([e].length + ([] : List Keyword).length + (if ([] : List Keyword).isEmpty then 0 else 1) < 30)) = true := by rfl)
    (hline : (apos.endLine == cpos.line) = true := by rfl) (hs : starEach [e] X.env = (false, eval e X.env) :: starEach [] X.env := by rfl) :
    DE X EX (.Call (.Attribute o "count" apos) [e] [] cpos) (sCount do_ d) :=
  PE.imp (pe_tcount ho (pa_cons he pa_nil hs) hbase hfew hline hs) fun σ H Q ⟨W, ρ, m, rs, rm, h⟩ => ⟨W, ρ, m, rs, rm, post_mono (post_bind h) fun x W1 H1 m1 e1 rm1 h1 v rv => by
    cases x with
    | tup xs =>
      dsimp only at h1
      split at h1
      · rename_i ns hns
        cases rv with
        | tup hT hN r =>
          have ev := intsD_of r hns
          subst ev
          have hT1 := same_T rm1.sub hT
          refine ⟨_, ns, rfl, hT1, same_N rm1.sub hN, W1, ρ, m1, rs.mono e1.le, rm1, post_mono (post_bind h1) fun y W2 H2 m2 e2 rm2 h2 w rw' => ?_⟩
          cases y with
          | int k =>
            cases rw'
            exact ⟨k, rfl, same_T (e2.I.trans rm2.sub) hT, post_ok h2 rm2 _ (.int _)⟩
          | _ => exact h2.elim
      · exact h1.elim
    | _ => exact h1.elim⟩
end
end Vi
namespace Vi
open PySem PySem.Spec PyProof.Rows L2
/-- a def that calls itself: by how deep -/
def fBad : Fn := fun _ _ => .bad
theorem bad_ok {P : Program} {w : World} {K : PySem.W.Frag} {mg : Str → Option Value} {base : Heap} {k : Nat} {f : Addr} {fd : FuncData} {ps : List Str} : FnG P w K mg base k f fd ps fBad :=
  fun A outer s H args us vs Q E _ _ _ _ _ ⟨_, _, _, _, _, _, hp⟩ => hp.elim
end Vi
namespace Vi
open PySem PySem.Spec PyProof.Rows L2
/-! ### isinstance(x, (T, U)) -/
def sIsi2 (T U : String) (d : SE) : SE := fun ρ m => (d ρ m).bind fun x m => match tyN x m with
  | some n => match kitB n T, kitB n U with
    | some b, some c => .ok (.bl (b || c)) m
    | _, _ => .bad
  | none => .bad
theorem de_isi2 {X : Cx} {EX : Str → Hp → Prop} {e : Expr} {d : SE} {T U : String} {tx ux : Str} {p q q2 pt pos : Pos} {k : Nat} (he : DE X EX e d) (hm : X.mg "isinstance" = none) (hm2 : X.mg tx = none) (hm3 : X.mg ux = none) (hg : Gl X "isinstance" := by rfl) (hg2 : Gl X tx := by rfl) (hg3 : Gl X ux := by rfl)
    (hv : bootBuiltins tx = some (.type T) := by decide +kernel) (hv3 : bootBuiltins ux = some (.type U) := by decide +kernel) (hn2 : tx ≠ "__name__" := by decide) (hd2 : (tx == ("__debug__" : Str)) = false := by decide) (hn3 : ux ≠ "__name__" := by decide) (hd3 : (ux == ("__debug__" : Str)) = false := by decide)
    (h0 : starEach [.Name tx q, .Name ux q2] X.env = (false, eval (.Name tx q) X.env) :: starEach [.Name ux q2] X.env := by rfl) (h01 : starEach [.Name ux q2] X.env = (false, eval (.Name ux q2) X.env) :: starEach [] X.env := by rfl)
    (h1 : starEach [e, .Tuple [.Name tx q, .Name ux q2] k pt] X.env = (false, eval e X.env) :: starEach [.Tuple [.Name tx q, .Name ux q2] k pt] X.env := by rfl)
    (h2 : starEach [.Tuple [.Name tx q, .Name ux q2] k pt] X.env = (false, eval (.Tuple [.Name tx q, .Name ux q2] k pt) X.env) :: starEach [] X.env := by rfl)
    (hpl : (backTo pos (starEach [.Tuple [.Name tx q, .Name ux q2] k pt] X.env)).any (·.1) = false := by rfl) :
    DE X EX (.Call (.Name "isinstance" p) [e, .Tuple [.Name tx q, .Name ux q2] k pt] [] pos) (sIsi2 T U d) := by
  have boot : bootBuiltins (Str.ofString "isinstance") = some (.builtin "isinstance") := by decide +kernel
  have he2 : PE X (.Name tx q) (tC (.ty T)) := pe_bltn hg2 hm2 hv (show L2.RelV (.ty T) (.type T) from rfl) hn2 hd2
  have he3 : PE X (.Name ux q2) (tC (.ty U)) := pe_bltn hg3 hm3 hv3 (show L2.RelV (.ty U) (.type U) from rfl) hn3 hd3
  refine PE.imp (pe_callB call_isiT hg hm boot (pa_cons he (pa_cons (pe_tup (pa_cons he2 (pa_cons he3 pa_nil h01) h0)) pa_nil h2) h1) (by decide) (by decide) h1 hpl) fun σ H Q ⟨W, ρ, m, rs, rm, h⟩ => ⟨W, ρ, m, rs, rm, post_mono (post_bind h) fun x W1 H1 m1 e1 rm1 h1 v rv => ?_⟩
  split at h1
  · rename_i n hn
    split at h1
    · rename_i b c hb hc
      refine ⟨(by decide : (2 : Nat) ≤ sizeLine), fun o no => ?_⟩
      obtain ⟨e2, rm2⟩ := new_imm (o := .tup [.ty T, .ty U]) rm1 no
      refine ⟨v, o, [.ty T, .ty U], _, [.type T, .type U], b || c, rfl, upd_same, .cons (.ty T) (.cons (.ty U) .nil), tyN_of rm2 (rv.mono e2.le) hn, ?_, post_ok (post_shift h1 e2) rm2 _ (.bl _)⟩
      refine kitAny_cons (kit_ty hb) (fun hf => ?_) (fun ht => by rw [ht]; rfl)
      subst hf
      refine kitAny_cons (kit_ty hc) (fun hf => ?_) (fun ht => by rw [ht]; rfl)
      subst hf
      exact kitAny_nil
    · exact h1.elim
  · exact h1.elim
end Vi

set_option Elab.async false
set_option linter.all false
set_option maxRecDepth 100000
set_option maxHeartbeats 4000000
namespace Vi
open PySem PySem.Spec PyProof.Rows L2

/-! ### running the combinators, by simp -/
def gR1 : List D → M → R (List D) := fun xs m => match xs with
  | [.int j] => if -lim62 ≤ j ∧ j < lim62 then .ok (rngD 0 1 j.toNat) m else .bad
  | _ => .bad
def gR2 : List D → M → R (List D) := fun xs m => match xs with
  | [.int i, .int j] => if (-lim62 ≤ i ∧ i < lim62) ∧ -lim62 ≤ j ∧ j < lim62 then .ok (rngD i 1 (j - i).toNat) m else .bad
  | _ => .bad
theorem lim_ok {i : Int} (h : -1000000000 ≤ i ∧ i ≤ 1000000000) : -lim62 ≤ i ∧ i < lim62 := by
  unfold lim62
  omega
theorem v_R1 {j : Int} (m : M) (h : -1000000000 ≤ j ∧ j ≤ 1000000000) : gR1 [.int j] m = .ok (rngD 0 1 j.toNat) m := if_pos (lim_ok h)
theorem v_R2 {i j : Int} (m : M) (h : -1000000000 ≤ i ∧ i ≤ 1000000000) (h2 : -1000000000 ≤ j ∧ j ≤ 1000000000) : gR2 [.int i, .int j] m = .ok (rngD i 1 (j - i).toNat) m := if_pos ⟨lim_ok h, lim_ok h2⟩
section
variable (ρ : En) (m : M)
theorem x_var (i : Nat) : sVar i ρ m = match ρ[i]? with
  | some (some x) => .ok x m
  | _ => .bad := id rfl
theorem x_c (x : D) : sC x ρ m = .ok x m := id rfl
theorem x_bin (g : G2) (a b : SE) : sBin g a b ρ m = (a ρ m).bind fun x m => (b ρ m).bind fun y m => g x y m := id rfl
theorem x_binT (g : D → D → M → R Bool) (a b : SE) : sBinT g a b ρ m = (a ρ m).bind fun x m => (b ρ m).bind fun y m => g x y m := id rfl
theorem x_ofT (t : SB) : sOfT t ρ m = (t ρ m).bind fun b m => .ok (.bl b) m := id rfl
theorem x_seq (a b : SS) : sSeq a b ρ m = (a ρ m).then b := id rfl
theorem x_ret (d : SE) : sRet d ρ m = (d ρ m).toO fun x m => .rt x m := id rfl
theorem x_asg (d : SE) (g : SG) : sAsg d g ρ m = (d ρ m).toO fun x m => (g x ρ m).toO fun ρ m => .nx ρ m := id rfl
theorem x_ifS (t : SB) (a b : SS) : sIfS t a b ρ m = (t ρ m).toO fun k m => if k = true then a ρ m else b ρ m := id rfl
theorem x_if (t : SB) (a b : SE) : sIf t a b ρ m = (t ρ m).bind fun k m => if k = true then a ρ m else b ρ m := id rfl
theorem x_nm (i : Nat) (x : D) : gNm i x ρ m = .ok (ρ.set i (some x)) m := id rfl
theorem x_sb (a b : SE) (x : D) : gSb a b x ρ m = (a ρ m).bind fun o m => (b ρ m).bind fun i m => (setIt o i x m).bind fun _ m => .ok ρ m := id rfl
theorem x_nil : sNil ρ m = .ok [] m := id rfl
theorem x_cons (d : SE) (ds : SA) : sCons d ds ρ m = (d ρ m).bind fun x m => (ds ρ m).bind fun xs m => .ok (x :: xs) m := id rfl
theorem x_tup (ds : SA) : sTup ds ρ m = (ds ρ m).bind fun xs m => if xs.length ≤ big then .ok (.tup xs) m else .bad := id rfl
theorem x_lst (ds : SA) : sLst ds ρ m = (ds ρ m).bind fun xs m => if xs.length ≤ big then .ok xs m else .bad := id rfl
theorem x_frz (ds : SA) : sFrz ds ρ m = (ds ρ m).bind fun xs m => .ok (.lst xs) m := id rfl
theorem x_new (ds : SA) : sNew ds ρ m = (ds ρ m).bind fun xs m => .ok (.ref m.length) (m ++ [.lst xs]) := id rfl
theorem x_call (F : Fn) (ds : SA) : sCall F ds ρ m = (ds ρ m).bind F := id rfl
theorem x_callL (g : List D → M → R (List D)) (ds : SA) : sCallL g ds ρ m = (ds ρ m).bind g := id rfl
theorem x_par (i j : Nat) (ds : SA) : sPar i j ds ρ m = (ds ρ m).toO fun xs m => match xs with
  | [x, y] => .nx ((ρ.set i (some x)).set j (some y)) m
  | _ => .bad := id rfl
theorem x_pass : sPass ρ m = .nx ρ m := id rfl
theorem x_break : sBreak ρ m = .bk ρ m := id rfl
theorem x_cont : sCont ρ m = .ct ρ m := id rfl
theorem x_drop (d : SE) : sDrop d ρ m = (d ρ m).toO fun _ m => .nx ρ m := id rfl
theorem x_un (g : D → M → R D) (d : SE) : sUn g d ρ m = (d ρ m).bind g := id rfl
theorem x_and (t u : SB) : sAnd t u ρ m = (t ρ m).bind fun k m => if k = true then u ρ m else .ok false m := id rfl
theorem x_or (t u : SB) : sOr t u ρ m = (t ρ m).bind fun k m => if k = true then .ok true m else u ρ m := id rfl
theorem x_not (t : SB) : sNot t ρ m = (t ρ m).bind fun k m => .ok (!k) m := id rfl
theorem x_for (d : SA) (g : SG) (b : SS) : sFor d g b ρ m = (d ρ m).toO fun xs m => forLoop g b xs ρ m := id rfl
theorem x_wh (t : SB) (b : SS) : sWh t b ρ m = whLoop t b fuelN ρ m := id rfl
theorem x_tb (d : SE) : sTB d ρ m = (d ρ m).bind fun x m => match x with
  | .bl b => .ok b m
  | _ => .bad := id rfl
theorem x_ys : tYs ρ m = .ok true m := id rfl
theorem x_hold (i : Nat) (d : SS) : hold i d ρ m = match ρ[i]? with
  | some (some (.ref n)) => match m[n]? with
    | some (.lst xs) => d (ρ.set i (some (.lst xs))) (m.set n .gone)
    | _ => .bad
  | some (some x) => d ρ m
  | _ => .bad := id rfl
theorem x_app (a d : SE) : sApp a d ρ m = (a ρ m).bind fun o m => match o with
  | .ref n => match m[n]? with
    | some (.lst _) => (d ρ m).bind fun x m => match m[n]? with
      | some (.lst xs) => if xs.length < big then .ok .non (m.set n (.lst (xs ++ [x]))) else .bad
      | _ => .bad
    | _ => .bad
  | _ => .bad := id rfl
theorem x_iR1 (ds : SA) : iR1 ds ρ m = (ds ρ m).bind gR1 := id rfl
theorem x_iR2 (ds : SA) : iR2 ds ρ m = (ds ρ m).bind gR2 := id rfl
theorem x_iR3 (ds : SA) : iR3 ds ρ m = (ds ρ m).bind fun xs m => match xs with
  | [.int i, .int j, .int c] => if c ≠ 0 ∧ c.natAbs < 1073741824 ∧ Builtin.Range.small i j c = true ∧ 0 ≤ Builtin.Range.rangeSize i j c then .ok (rngD i c (rngN i j c)) m else .bad
  | _ => .bad := id rfl
theorem x_iS (d : SE) : iS d ρ m = (d ρ m).bind fun x m => match fixS x with
  | some xs => .ok xs m
  | none => .bad := id rfl
theorem x_aug (i : Nat) (g : G2) (d : SE) : sAug i g d ρ m = match ρ[i]? with
  | some (some x) => (d ρ m).toO fun y m => (g x y m).toO fun z m => .nx (ρ.set i (some z)) m
  | _ => .bad := id rfl
theorem x_tp (n : Nat) (gs : SGs) (x : D) : gTp n gs x ρ m = match x with
  | .tup xs => if xs.length = n then gs xs ρ m else .bad
  | _ => .bad := id rfl
theorem x_gsCons (g : SG) (gs : SGs) (x : D) (xs : List D) : gsCons g gs (x :: xs) ρ m = (g x ρ m).bind fun ρ m => gs xs ρ m := id rfl
theorem x_gsNil : gsNil [] ρ m = .ok ρ m := id rfl
theorem x_comp (own : List Nat) (src : SA) (g : SG) (t : SB) (el : SE) : sComp own src g t el ρ m = (src ρ m).bind fun xs m => if xs.length ≤ big then noexn (compL g t el (wipeE ρ own) xs m) else .bad := id rfl
end
theorem x_catL (a b : SE) (ρ : En) (m : M) : sCatL a b ρ m = (a ρ m).bind fun x m => (b ρ m).bind fun y m => match asLst x m, asLst y m with
  | some xs, some ys => if xs.length + ys.length ≤ big then .ok (xs ++ ys) m else .bad
  | _, _ => .bad := id rfl
theorem x_repL (a b : SE) (ρ : En) (m : M) : sRepL a b ρ m = (a ρ m).bind fun x m => (b ρ m).bind fun y m => match asLst x m, y with
  | some xs, .int k => if (-(2 ^ 63) ≤ k ∧ k < 2 ^ 63) ∧ xs.length * k.toNat ≤ big then .ok (repD xs k) m else .bad
  | _, _ => .bad := id rfl
theorem x_rev (a : SE) (ρ : En) (m : M) : sRev a ρ m = (a ρ m).bind fun x m => match asList x m with
  | some xs => .ok xs.reverse m
  | none => .bad := id rfl
theorem rep_one (x : D) (k : Int) : repD [x] k = List.replicate k.toNat x := by simp [repD]
theorem asLst_lst (xs : List D) (m : M) : asLst (.lst xs) m = some xs := id rfl
theorem asList_lst (xs : List D) (m : M) : asList (.lst xs) m = some xs := id rfl
theorem fixS_lst (xs : List D) : fixS (.lst xs) = some xs := id rfl
theorem fixS_tup (xs : List D) : fixS (.tup xs) = some xs := id rfl
theorem v_catT (xs ys : List D) (m : M) (h : xs.length + ys.length ≤ 16777216) : gCatT (.tup xs) (.tup ys) m = .ok (.tup (xs ++ ys)) m := if_pos h
theorem x_andV (a b : SE) (ρ : En) (m : M) : sAndV a b ρ m = (sTB a ρ m).bind fun k m => if k = true then b ρ m else .ok (.bl false) m := id rfl
theorem x_orV (a b : SE) (ρ : En) (m : M) : sOrV a b ρ m = (sTB a ρ m).bind fun k m => if k = true then .ok (.bl true) m else b ρ m := id rfl
theorem x_notV (a : SE) (ρ : En) (m : M) : sNotV a ρ m = (sTB a ρ m).bind fun k m => .ok (.bl (!k)) m := by
  show (((sTB a ρ m).bind fun k m => R.ok (!k) m).bind fun b m => R.ok (D.bl b) m) = _
  cases sTB a ρ m <;> rfl
theorem v_repT (xs : List D) {k : Int} (m : M) (h : -1000000000 ≤ k ∧ k ≤ 1000000000) (h2 : xs.length * k.toNat ≤ 16777216) : gRepT (.tup xs) (.int k) m = .ok (.tup (repD xs k)) m := by
  unfold gRepT
  dsimp only
  rw [if_pos ⟨⟨by omega, by omega⟩, h2⟩]
theorem x_some (d : SE) (ρ : En) (m : M) : sSome d ρ m = (d ρ m).bind fun x m => match x with
  | .int i => .ok (some i) m
  | _ => .bad := id rfl
theorem x_no (ρ : En) (m : M) : sNo ρ m = .ok none m := id rfl
theorem y_ok {α β : Type} (a : α) (m : M) (f : α → M → R β) : (R.ok a m).bind f = f a m := id rfl
theorem y_toO {α : Type} (x : α) (m : M) (f : α → M → O) : (R.ok x m).toO f = f x m := id rfl
theorem y_nx (ρ : En) (m : M) (f : En → M → O) : (O.nx ρ m).then f = f ρ m := id rfl
theorem y_rt (x : D) (m : M) (f : En → M → O) : (O.rt x m).then f = .rt x m := id rfl
theorem y_bk (ρ : En) (m : M) (f : En → M → O) : (O.bk ρ m).then f = .bk ρ m := id rfl
theorem y_ct (ρ : En) (m : M) (f : En → M → O) : (O.ct ρ m).then f = .ct ρ m := id rfl
/-! operations at values -/
theorem v_add (i j : Int) (m : M) : gAdd (.int i) (.int j) m = .ok (.int (i + j)) m := id rfl
theorem v_sub (i j : Int) (m : M) : gSub (.int i) (.int j) m = .ok (.int (i - j)) m := id rfl
theorem lg_ok {i j : Int} {a b : Nat} (h1 : i.natAbs < 2 ^ a) (h2 : j.natAbs < 2 ^ b) (h : a + b ≤ 1000000) : i.natAbs.log2 + j.natAbs.log2 < 1000000 ∨ a + b = 0 := by
  rcases Nat.eq_zero_or_pos (a + b) with q | q
  · exact .inr q
  · left
    have l1 : i.natAbs.log2 ≤ a := by
      rcases Nat.eq_zero_or_pos i.natAbs with z | z
      · rw [z]; simp
      · exact Nat.le_of_lt ((Nat.log2_lt (by omega)).mpr h1)
    have l1' : i.natAbs.log2 < a ∨ a = 0 := by
      rcases Nat.eq_zero_or_pos i.natAbs with z | z
      · rw [z]; simp; omega
      · exact .inl ((Nat.log2_lt (by omega)).mpr h1)
    have l2' : j.natAbs.log2 < b ∨ b = 0 := by
      rcases Nat.eq_zero_or_pos j.natAbs with z | z
      · rw [z]; simp; omega
      · exact .inl ((Nat.log2_lt (by omega)).mpr h2)
    have l2 : j.natAbs.log2 ≤ b := by
      rcases l2' with q | q
      · omega
      · subst q; have : j.natAbs = 0 := by omega
        rw [this]; simp
    omega
theorem v_mul {i j : Int} (m : M) (h1 : i.natAbs < 2 ^ 499999) (h2 : j.natAbs < 2 ^ 499999) : gMul (.int i) (.int j) m = .ok (.int (i * j)) m := by
  have := lg_ok h1 h2 (by omega)
  show (if decide _ = true then R.ok (D.int (i * j)) m else .bad) = _
  rw [if_pos (by rw [decide_eq_true_eq]; omega)]
theorem v_mulS {i j : Int} (m : M) (h1 : i.natAbs < 2 ^ 3000) (h2 : j.natAbs < 2 ^ 3000) : gMul (.int i) (.int j) m = .ok (.int (i * j)) m := by
  have := lg_ok h1 h2 (by omega)
  show (if decide _ = true then R.ok (D.int (i * j)) m else .bad) = _
  rw [if_pos (by rw [decide_eq_true_eq]; omega)]
theorem v_mulZ {i j : Int} (m : M) (h1 : -(2 ^ 2000) < i ∧ i < 2 ^ 2000) (h2 : -(2 ^ 2000) < j ∧ j < 2 ^ 2000) : gMul (.int i) (.int j) m = .ok (.int (i * j)) m :=
  v_mulS m (Nat.lt_of_lt_of_le (show i.natAbs < 2 ^ 2000 by omega) (Nat.pow_le_pow_right (by decide) (by decide))) (Nat.lt_of_lt_of_le (show j.natAbs < 2 ^ 2000 by omega) (Nat.pow_le_pow_right (by decide) (by decide)))
theorem v_div {i j : Int} (m : M) (h : 0 < j) (h2 : j < 2 ^ 2000) : gDiv (.int i) (.int j) m = .ok (.int (i / j)) m := by
  show (if _ = true then R.ok (D.int (i / j)) m else .bad) = _
  have h3 : j.natAbs.log2 < 2000 := (Nat.log2_lt (by omega)).mpr (by omega)
  rw [if_pos (by simp [h]; omega)]
theorem v_mod {i j : Int} (m : M) (h : 0 < j) : gMod (.int i) (.int j) m = .ok (.int (i % j)) m := by
  show (if _ = true then R.ok (D.int (i % j)) m else .bad) = _
  rw [if_pos (by simp [h])]
theorem v_pow {i j : Int} (m : M) (h : 0 ≤ j) (h2 : j ≤ 1000000) (h3 : i.natAbs < 2 ^ 64) : gPow (.int i) (.int j) m = .ok (.int (i ^ j.toNat)) m := by
  show (if _ = true then R.ok (D.int (i ^ j.toNat)) m else .bad) = _
  rw [if_pos (by simp only [Bool.and_eq_true, decide_eq_true_eq]; exact ⟨⟨h, h2⟩, h3⟩)]
theorem v_lt (i j : Int) (m : M) : gLt (.int i) (.int j) m = .ok (decide (i < j)) m := id rfl
theorem v_le (i j : Int) (m : M) : gLe (.int i) (.int j) m = .ok (decide (i ≤ j)) m := id rfl
theorem v_gt (i j : Int) (m : M) : gGt (.int i) (.int j) m = .ok (decide (j < i)) m := id rfl
theorem v_ge (i j : Int) (m : M) : gGe (.int i) (.int j) m = .ok (decide (j ≤ i)) m := id rfl
theorem v_int (i : Int) (m : M) : gInt1 [.int i] m = .ok (.int i) m := id rfl
theorem v_intB (k : Bool) (m : M) : gInt1 [.bl k] m = .ok (.int (if k then 1 else 0)) m := id rfl
theorem v_abs (i : Int) (m : M) : gAbs [.int i] m = .ok (.int (if i < 0 then -i else i)) m := id rfl
theorem v_max2 (i j : Int) (m : M) : gMax2 [.int i, .int j] m = .ok (.int (if j > i then j else i)) m := id rfl
theorem v_min2 (i j : Int) (m : M) : gMin2 [.int i, .int j] m = .ok (.int (if j < i then j else i)) m := id rfl
theorem v_neg (i : Int) (m : M) : gI1 (fun i => -i) (.int i) m = .ok (.int (-i)) m := id rfl
theorem v_eqI (i j : Int) (m : M) : gEq (.int i) (.int j) m = .ok (decide (i = j)) m := by
  simp [gEq, gEqD, toPyR, toPy, SeqAt.shaped, PyData.eqv, PyData.canLay0, PyData.depth]
  by_cases h : i = j <;> simp [h]
theorem v_neI (i j : Int) (m : M) : gNe (.int i) (.int j) m = .ok (!decide (i = j)) m := by
  simp [gNe, gNeD, toPyR, toPy, SeqAt.shaped, PyData.eqv, PyData.canLay0, PyData.depth]
  by_cases h : i = j <;> simp [h]
theorem v_ixL {xs : List D} {i : Nat} {x : D} (m : M) (h : xs[i]? = some x) : gIx (.lst xs) (.int (i : Int)) m = .ok x m := by
  simp only [gIx, asSeq, atI_nat h]
theorem v_ixT {xs : List D} {i : Nat} {x : D} (m : M) (h : xs[i]? = some x) : gIx (.tup xs) (.int (i : Int)) m = .ok x m := by
  simp only [gIx, asSeq, atI_nat h]
theorem v_ixF {xs : List D} {i : Nat} {x : D} (m : M) (h : xs[i]? = some x) : gIx (.frz xs) (.int (i : Int)) m = .ok x m := by
  simp only [gIx, asSeq, atI_nat h]
theorem v_ixR {xs : List D} {n i : Nat} {x : D} {m : M} (hm : m[n]? = some (.lst xs)) (h : xs[i]? = some x) : gIx (.ref n) (.int (i : Int)) m = .ok x m := by
  simp only [gIx, asSeq, hm, atI_nat h]
theorem v_setR {xs : List D} {n i : Nat} {x : D} {m : M} (hm : m[n]? = some (.lst xs)) (h : i < xs.length) : setIt (.ref n) (.int (i : Int)) x m = .ok () (m.set n (.lst (xs.set i x))) := by
  have : ixN xs.length (i : Int) = some i := by
    unfold ixN
    simp
    omega
  simp only [setIt, hm, this]
theorem v_tupL (xs : List D) (m : M) : gTuple [.lst xs] m = .ok (.tup xs) m := id rfl
theorem v_tupT (xs : List D) (m : M) : gTuple [.tup xs] m = .ok (.tup xs) m := id rfl
theorem v_lenL (xs : List D) (m : M) : gLen [.lst xs] m = .ok (.int (xs.length : Int)) m := id rfl
theorem v_lenT (xs : List D) (m : M) : gLen [.tup xs] m = .ok (.int (xs.length : Int)) m := id rfl
theorem v_lenF (xs : List D) (m : M) : gLen [.frz xs] m = .ok (.int (xs.length : Int)) m := id rfl
theorem lim_val : lim62 = 4611686018427387904 := id rfl
theorem big_val : big = 16777216 := id rfl
theorem get_set {m : M} {n : Nat} {c c' : Cell} (h : m[n]? = some c) : (m.set n c')[n]? = some c' := by
  rw [List.getElem?_set_self (List.getElem?_eq_some_iff.mp h).1]
theorem set_set {m : M} {n : Nat} {c c' : Cell} : (m.set n c).set n c' = m.set n c' := List.set_set ..
end Vi

set_option Elab.async false
set_option linter.all false
set_option maxRecDepth 100000
set_option maxHeartbeats 4000000
namespace Vi
open PySem PySem.Spec PyProof.Rows L2

/-! ### loops by what stands -/
theorem for_inv {g : SG} {b : SS} (I : List D → En → M → Prop) (step : ∀ x xs ρ m, I (x :: xs) ρ m → ∃ ρ1 m1, g x ρ m = .ok ρ1 m1 ∧ ∃ ρ2 m2, b ρ1 m1 = .nx ρ2 m2 ∧ I xs ρ2 m2) :
    ∀ (xs : List D) (ρ : En) (m : M), I xs ρ m → ∃ ρ' m', forLoop g b xs ρ m = .nx ρ' m' ∧ I [] ρ' m'
  | [], ρ, m, h => ⟨ρ, m, rfl, h⟩
  | x :: xs, ρ, m, h => by
    obtain ⟨ρ1, m1, e1, ρ2, m2, e2, h2⟩ := step x xs ρ m h
    obtain ⟨ρ', m', e3, h3⟩ := for_inv I step xs ρ2 m2 h2
    exact ⟨ρ', m', by rw [forLoop, e1, toO_ok]; simp only [e2]; exact e3, h3⟩
theorem comp_inv {g : SG} {t : SB} {el : SE} {ρw : En} (I : List D → M → List D → Prop)
    (step : ∀ x xs m acc, I (x :: xs) m acc → ∃ ρ1 m1, g x ρw m = .ok ρ1 m1 ∧ ∃ m2, t ρ1 m1 = .ok true m2 ∧ ∃ y m3, el ρ1 m2 = .ok y m3 ∧ I xs m3 (acc ++ [y])) :
    ∀ (xs : List D) (m : M) (acc : List D), I xs m acc → ∃ ys m', compL g t el ρw xs m = .ok ys m' ∧ I [] m' (acc ++ ys)
  | [], m, acc, h => ⟨[], m, rfl, by simpa using h⟩
  | x :: xs, m, acc, h => by
    obtain ⟨ρ1, m1, e1, m2, e2, y, m3, e3, h2⟩ := step x xs m acc h
    obtain ⟨ys, m', e4, h3⟩ := comp_inv I step xs m3 (acc ++ [y]) h2
    exact ⟨y :: ys, m', by simp [compL, e1, e2, e3, e4], by simpa using h3⟩
theorem comp_pure {g : SG} {t : SB} {el : SE} {ρw : En} {m : M} {p : D → Bool} {f : D → D} : ∀ (xs : List D),
    (∀ x ∈ xs, ∃ ρ1, g x ρw m = .ok ρ1 m ∧ t ρ1 m = .ok (p x) m ∧ (p x = true → el ρ1 m = .ok (f x) m)) → compL g t el ρw xs m = .ok ((xs.filter p).map f) m
  | [], _ => rfl
  | x :: xs, h => by
    obtain ⟨ρ1, e1, e2, e3⟩ := h x (List.mem_cons_self ..)
    have ih := comp_pure xs fun y hy => h y (List.mem_cons_of_mem _ hy)
    cases q : p x with
    | true => simp [compL, e1, e2, q, e3 q, ih]
    | false => simp [compL, e1, e2, q, ih]
theorem noexn_ok {α : Type} (x : α) (m : M) : noexn (R.ok x m) = .ok x m := id rfl
/-! ### lists of iL1 -/
abbrev iL1 (ns : List Int) : List D := ns.map D.int
abbrev nL1 (ns : List Nat) : List D := ns.map fun (n : Nat) => D.int (n : Int)
theorem nats_ints (ns : List Nat) : nL1 ns = iL1 (ns.map fun (n : Nat) => (n : Int)) := by simp [nL1, iL1]
theorem toPys_ints (m : M) : ∀ ns : List Int, toPys (iL1 ns) m = some (ns.map PyData.int)
  | [] => rfl
  | n :: ns => by simp only [iL1, List.map_cons, toPys, toPy]; rw [toPys_ints m ns]
theorem lay_ints : ∀ ns : List Int, PyData.canLayAll0 (ns.map PyData.int) = true
  | [] => rfl
  | n :: ns => by simp [PyData.canLayAll0, PyData.canLay0, lay_ints ns]
theorem depth_ints : ∀ ns : List Int, PyData.depthAll (ns.map PyData.int) = 0
  | [] => rfl
  | n :: ns => by simp [PyData.depthAll, PyData.depth, depth_ints ns]
theorem eqv_ints : ∀ ns ms : List Int, PyData.eqvAll (ns.map PyData.int) (ms.map PyData.int) = decide (ns = ms)
  | [], [] => rfl
  | [], _ :: _ => rfl
  | _ :: _, [] => rfl
  | n :: ns, k :: ms => by
    simp only [List.map_cons, PyData.eqvAll, PyData.eqv, eqv_ints ns ms, List.cons.injEq]
    by_cases h : n = k <;> by_cases h2 : ns = ms <;> simp [h, h2]
theorem shaped_tupI (ns : List Int) : SeqAt.shaped (.tuple (ns.map PyData.int)) = true := by
  simp [SeqAt.shaped, PyData.canLay0, lay_ints, PyData.depth, depth_ints]
theorem shaped_lstI (ns : List Int) : SeqAt.shaped (.list (ns.map PyData.int)) = true := by
  simp [SeqAt.shaped, PyData.canLay0, lay_ints, PyData.depth, depth_ints]
theorem v_eqT (ns ms : List Int) (m : M) : gEq (.tup (iL1 ns)) (.tup (iL1 ms)) m = .ok (decide (ns = ms)) m := by
  simp only [gEq, gEqD, toPyR, toPy, toPys_ints, Option.map_some, shaped_tupI, if_true, PyData.eqv, eqv_ints]
theorem v_neT (ns ms : List Int) (m : M) : gNe (.tup (iL1 ns)) (.tup (iL1 ms)) m = .ok (!decide (ns = ms)) m := by
  simp only [gNe, gNeD, toPyR, toPy, toPys_ints, Option.map_some, shaped_tupI, if_true, PyData.eqv, eqv_ints]
theorem v_eqL (ns ms : List Int) (m : M) : gEq (.lst (iL1 ns)) (.lst (iL1 ms)) m = .ok (decide (ns = ms)) m := by
  simp only [gEq, gEqD, toPyR, toPy, toPys_ints, Option.map_some, shaped_lstI, if_true, PyData.eqv, eqv_ints]
theorem v_eqS (a b : Str) (m : M) : gEq (.str a) (.str b) m = .ok (a == b) m := id rfl
theorem v_neS (a b : Str) (m : M) : gNe (.str a) (.str b) m = .ok (!(a == b)) m := id rfl
/-! ### sorted iL1 -/
theorem tag_ints (m : M) : ∀ ns : List Int, tagPy (iL1 ns) m = some (ns.map fun i => (D.int i, PyData.int i))
  | [] => rfl
  | n :: ns => by simp only [iL1, List.map_cons, tagPy, toPy]; rw [tag_ints m ns]
theorem sortOk_ints (ns : List Int) : sortOk ((ns.map fun i => (D.int i, PyData.int i)).map Prod.snd) = true := by
  simp [sortOk, PySem.W.alike, notTup, PyData.depth, List.map_map]
theorem v_sortI (ns : List Int) (m : M) (rev : Bool) : ∃ qs : List Int, gSorted rev [.lst (iL1 ns)] m = .ok (iL1 qs) m ∧ qs.Perm ns ∧ qs.Pairwise (fun a b => if rev then b ≤ a else a ≤ b) := by
  have h : gSorted rev [.lst (iL1 ns)] m = .ok (sortD rev (ns.map fun i => (D.int i, PyData.int i))) m := by
    simp only [gSorted, asList, tag_ints]
    rw [if_pos (.inr (sortOk_ints ns))]
  let le : Int → Int → Bool := fun a b => PySem.W.dataLe rev Prod.snd ((D.int a, PyData.int a) : D × PyData) (D.int b, PyData.int b)
  have e : sortD rev (ns.map fun i => (D.int i, PyData.int i)) = iL1 (ns.mergeSort le) := by
    unfold sortD
    have := List.map_mergeSort (r := le) (s := PySem.W.dataLe rev Prod.snd) (f := fun i => (D.int i, PyData.int i)) (l := ns) fun a _ b _ => rfl
    rw [← this]
    simp [iL1, List.map_map, Function.comp_def]
  have le_eq : ∀ a b, le a b = decide (if rev then b ≤ a else a ≤ b) := by
    intro a b
    have e1 : PySem.W.dataLt (.int a) (.int b) = decide (a < b) := by
      have h1 := congrFun (congrFun (PySem.W.dataLe_int (β := Int) id) b) a
      rw [PySem.W.dataLe_eq] at h1
      have h2 : (!PySem.W.dataLt (.int a) (.int b)) = decide (b ≤ a) := h1
      rw [Bool.eq_iff_iff]
      rw [Bool.eq_iff_iff] at h2
      cases q : PySem.W.dataLt (.int a) (.int b) <;> rw [q] at h2 <;> simp at h2 ⊢ <;> omega
    have e2 : PySem.W.dataLt (.int b) (.int a) = decide (b < a) := by
      have h1 := congrFun (congrFun (PySem.W.dataLe_int (β := Int) id) a) b
      rw [PySem.W.dataLe_eq] at h1
      have h2 : (!PySem.W.dataLt (.int b) (.int a)) = decide (a ≤ b) := h1
      rw [Bool.eq_iff_iff]
      rw [Bool.eq_iff_iff] at h2
      cases q : PySem.W.dataLt (.int b) (.int a) <;> rw [q] at h2 <;> simp at h2 ⊢ <;> omega
    show PySem.W.dataLe rev Prod.snd ((D.int a, PyData.int a) : D × PyData) (D.int b, PyData.int b) = _
    rw [PySem.W.dataLe_eq]
    show (bif rev then !PySem.W.dataLt (.int a) (.int b) else !PySem.W.dataLt (.int b) (.int a)) = _
    rw [e1, e2, Bool.eq_iff_iff]
    cases rev <;> simp
  refine ⟨ns.mergeSort le, by rw [h, e], List.mergeSort_perm _ _, ?_⟩
  have := List.pairwise_mergeSort (le := le) (fun a b c h1 h2 => by
    rw [le_eq] at *
    cases rev <;> simp at * <;> omega) (fun a b => by
    rw [le_eq, le_eq]
    cases rev <;> simp <;> omega) ns
  refine this.imp fun {a b} h => ?_
  rw [le_eq] at h
  simpa using h
end Vi

set_option Elab.async false
set_option linter.all false
set_option maxRecDepth 100000
set_option maxHeartbeats 4000000
namespace Vi
open PySem PySem.Spec PyProof.Rows L2

/-! ### a def's end -/
theorem exit_gen {F : Fn} {ds : List D} {m m' m1 : M} {x : D} (h : F ds m = .ok x m') (e : m'.take m.length = m1) (ok : okM m1 m = true) (hx : noRef x = true) : exitF F ds m = .ok x m1 := by
  subst e
  simp only [exitF, h, ok, if_true, fz_no hx]
theorem exit_set {F : Fn} {ds : List D} {m : M} {x : D} {n : Nat} {xs : List D} (h : F ds m = .ok x (m.set n (.lst xs))) (hxs : noRefs xs = true) (hx : noRef x = true) : exitF F ds m = .ok x (m.set n (.lst xs)) :=
  exit_gen h (by rw [← List.length_set (as := m) (i := n) (a := Cell.lst xs), List.take_length]) (okM_set _ _ _ hxs) hx
theorem exit_app {F : Fn} {ds : List D} {m j : M} {x : D} (h : F ds m = .ok x (m ++ j)) (hx : noRef x = true) : exitF F ds m = .ok x m :=
  exit_gen h (by simp) (okM_refl m) hx
theorem exit_same {F : Fn} {ds : List D} {m : M} {x : D} (h : F ds m = .ok x m) (hx : noRef x = true) : exitF F ds m = .ok x m :=
  exit_gen h (by simp) (okM_refl m) hx
theorem exit_setapp {F : Fn} {ds : List D} {m j : M} {x : D} {n : Nat} {xs : List D} (h : F ds m = .ok x (m.set n (.lst xs) ++ j)) (hxs : noRefs xs = true) (hx : noRef x = true) : exitF F ds m = .ok x (m.set n (.lst xs)) :=
  exit_gen h (by rw [List.take_append_of_le_length (by simp), ← List.length_set (as := m) (i := n) (a := Cell.lst xs), List.take_length]) (okM_set _ _ _ hxs) hx
theorem noRefs_ints : ∀ ns : List Int, noRefs (iL1 ns) = true
  | [] => rfl
  | n :: ns => by simp [noRefs, noRef, noRefs_ints ns]
/-! ### repr of tuples of ints -/
mutual
def okR (L : Nat) : D → Bool
  | .non => true
  | .bl _ => true
  | .int i => decide (i.natAbs.log2 < L)
  | .tup xs => okRs L xs
  | .str _ => false
  | .lst _ => false
  | .frz _ => false
  | .ref _ => false
def okRs (L : Nat) : List D → Bool
  | [] => true
  | x :: xs => okR L x && okRs L xs
end
mutual
def lenR (L : Nat) : D → Nat
  | .tup xs => lenRs L xs + 3
  | _ => L + 5
def lenRs (L : Nat) : List D → Nat
  | [] => 0
  | x :: xs => lenR L x + 2 + lenRs L xs
end
mutual
def pyD : D → PyData
  | .bl b => .bool b
  | .int i => .int i
  | .tup xs => .tuple (pyDs xs)
  | _ => .none
def pyDs : List D → List PyData
  | [] => []
  | x :: xs => pyD x :: pyDs xs
end
mutual
def dpD : D → Nat
  | .tup xs => dpDs xs + 1
  | _ => 0
def dpDs : List D → Nat
  | [] => 0
  | x :: xs => max (dpD x) (dpDs xs)
end
mutual
theorem toPy_okR {L : Nat} {m : M} : ∀ {x : D}, okR L x = true → toPy x m = some (pyD x)
  | .non, _ => rfl
  | .bl _, _ => rfl
  | .int _, _ => rfl
  | .tup xs, h => by
    simp only [okR] at h
    simp [toPy, toPy_okRs h, pyD]
  | .str _, h => by cases h
  | .lst _, h => by cases h
  | .frz _, h => by cases h
  | .ref _, h => by cases h
theorem toPy_okRs {L : Nat} {m : M} : ∀ {xs : List D}, okRs L xs = true → toPys xs m = some (pyDs xs)
  | [], _ => rfl
  | x :: xs, h => by
    simp only [okRs, Bool.and_eq_true] at h
    simp [toPys, toPy_okR h.1, toPy_okRs h.2, pyDs]
end
mutual
theorem lay_okR {L : Nat} : ∀ {x : D}, okR L x = true → (pyD x).canLay0 = true
  | .non, _ => by simp [pyD, PyData.canLay0]
  | .bl _, _ => by simp [pyD, PyData.canLay0]
  | .int _, _ => by simp [pyD, PyData.canLay0]
  | .tup xs, h => by
    simp only [okR] at h
    simp [pyD, PyData.canLay0, lay_okRs h]
  | .str _, h => by cases h
  | .lst _, h => by cases h
  | .frz _, h => by cases h
  | .ref _, h => by cases h
theorem lay_okRs {L : Nat} : ∀ {xs : List D}, okRs L xs = true → PyData.canLayAll0 (pyDs xs) = true
  | [], _ => by simp [pyDs, PyData.canLayAll0]
  | x :: xs, h => by
    simp only [okRs, Bool.and_eq_true] at h
    simp [pyDs, PyData.canLayAll0, lay_okR h.1, lay_okRs h.2]
end
mutual
theorem dp_okR {L : Nat} : ∀ {x : D}, okR L x = true → (pyD x).depth = dpD x
  | .non, _ => by simp [pyD, PyData.depth, dpD]
  | .bl _, _ => by simp [pyD, PyData.depth, dpD]
  | .int _, _ => by simp [pyD, PyData.depth, dpD]
  | .tup xs, h => by
    simp only [okR] at h
    simp [pyD, PyData.depth, dpD, dp_okRs h]
  | .str _, h => by cases h
  | .lst _, h => by cases h
  | .frz _, h => by cases h
  | .ref _, h => by cases h
theorem dp_okRs {L : Nat} : ∀ {xs : List D}, okRs L xs = true → PyData.depthAll (pyDs xs) = dpDs xs
  | [], _ => by simp [pyDs, PyData.depthAll, dpDs]
  | x :: xs, h => by
    simp only [okRs, Bool.and_eq_true] at h
    simp [pyDs, PyData.depthAll, dpDs, dp_okR h.1, dp_okRs h.2]
end
mutual
theorem show_okR {L : Nat} (hL : L ≤ 1920) : ∀ {x : D}, okR L x = true → (pyD x).showable = true
  | .non, _ => by simp [pyD, PyData.showable]
  | .bl _, _ => by simp [pyD, PyData.showable]
  | .int i, h => by
    simp only [okR, decide_eq_true_eq] at h
    simp [pyD, PyData.showable]; omega
  | .tup xs, h => by
    simp only [okR] at h
    simp [pyD, PyData.showable, show_okRs hL h]
  | .str _, h => by cases h
  | .lst _, h => by cases h
  | .frz _, h => by cases h
  | .ref _, h => by cases h
theorem show_okRs {L : Nat} (hL : L ≤ 1920) : ∀ {xs : List D}, okRs L xs = true → PyData.showableAll (pyDs xs) = true
  | [], _ => by simp [pyDs, PyData.showableAll]
  | x :: xs, h => by
    simp only [okRs, Bool.and_eq_true] at h
    simp [pyDs, PyData.showableAll, show_okR hL h.1, show_okRs hL h.2]
end
theorem tupleText_len (ts : List Str) : (tupleText ts).length ≤ piled ts + 3 := by
  unfold tupleText
  rw [strLen_append, strLen_append]
  have h1 : (Str.ofString "(").length = 1 := rfl
  have h2 : ((if ts.length == 1 then ",)" else ")" : String) : Str).length ≤ 2 := by
    split
    · exact Nat.le_of_eq rfl
    · exact Nat.le_trans (Nat.le_of_eq (rfl : (Str.ofString ")").length = 1)) (by decide)
  by_cases h : ts = []
  · subst h
    have : (Str.join ", " []).length = 0 := rfl
    omega
  · have := join_length_add ts h
    omega
mutual
theorem len_okR {L : Nat} : ∀ {x : D}, okR L x = true → (pyD x).shown.length ≤ lenR L x
  | .non, _ => by
    simp only [pyD, PyData.shown, lenR]
    have : (Str.ofString "None").length = 4 := rfl
    omega
  | .bl b, _ => by
    simp only [pyD, PyData.shown, lenR]
    have h1 : (Str.ofString "True").length = 4 := rfl
    have h2 : (Str.ofString "False").length = 5 := rfl
    cases b
    · show (Str.ofString "False").length ≤ _; omega
    · show (Str.ofString "True").length ≤ _; omega
  | .int i, h => by
    simp only [okR, decide_eq_true_eq] at h
    simp only [pyD, PyData.shown, lenR]
    have := int_text_length_le (a := i) (k := L) (by omega) h
    have e : (Str.ofString (toString i)).length = (toString i).length := PySem.ofString_length _
    show (Str.ofString (toString i)).length ≤ _
    omega
  | .tup xs, h => by
    simp only [okR] at h
    simp only [pyD, PyData.shown, lenR]
    exact Nat.le_trans (tupleText_len _) (by have := len_okRs h; omega)
  | .str _, h => by cases h
  | .lst _, h => by cases h
  | .frz _, h => by cases h
  | .ref _, h => by cases h
theorem len_okRs {L : Nat} : ∀ {xs : List D}, okRs L xs = true → piled (PyData.shownAll (pyDs xs)) ≤ lenRs L xs
  | [], _ => by simp [pyDs, PyData.shownAll, piled, lenRs]
  | x :: xs, h => by
    simp only [okRs, Bool.and_eq_true] at h
    have h1 := len_okR h.1
    have h2 := len_okRs h.2
    simp only [pyDs, PyData.shownAll, lenRs]
    simp only [piled, List.map_cons, List.sum_cons] at h2 ⊢
    omega
end
theorem v_repr {L : Nat} {x : D} (m : M) (h : okR L x = true) (hL : L ≤ 1920) (hd : dpD x ≤ 64) (hz : lenR L x ≤ big) (hr : ∀ n, x ≠ .ref n) : gRepr [x] m = .ok (.str (pyD x).shown) m := by
  have e : toPyR x m = some (pyD x) := by
    unfold toPyR
    split
    · exact absurd rfl (hr _)
    · exact toPy_okR h
  have sh : SeqAt.shaped (pyD x) = true := by
    simp [SeqAt.shaped, lay_okR h, dp_okR h, hd]
  simp only [gRepr, e]
  rw [if_pos ⟨⟨sh, show_okR hL h⟩, Nat.le_trans (len_okR h) hz⟩]
theorem okRs_ints {L : Nat} : ∀ {ns : List Int}, (∀ n ∈ ns, n.natAbs.log2 < L) → okRs L (iL1 ns) = true
  | [], _ => rfl
  | n :: ns, h => by
    simp only [iL1, List.map_cons, okRs, okR, Bool.and_eq_true, decide_eq_true_eq]
    exact ⟨h n (List.mem_cons_self ..), okRs_ints fun k hk => h k (List.mem_cons_of_mem _ hk)⟩
theorem lenRs_ints {L : Nat} : ∀ ns : List Int, lenRs L (iL1 ns) = ns.length * (L + 7)
  | [] => by simp [lenRs]
  | n :: ns => by
    simp only [iL1, List.map_cons, lenRs, lenR, List.length_cons]
    rw [lenRs_ints ns, Nat.add_mul]
    omega
theorem dpDs_ints : ∀ ns : List Int, dpDs (iL1 ns) = 0
  | [] => rfl
  | n :: ns => by simp [dpDs, dpD, dpDs_ints ns]
theorem v_reprI {L : Nat} {ns : List Int} (m : M) (h : ∀ n ∈ ns, n.natAbs.log2 < L) (hL : L ≤ 1920) (hz : ns.length * (L + 7) + 3 ≤ big) : gRepr [.tup (iL1 ns)] m = .ok (.str (pyD (.tup (iL1 ns))).shown) m :=
  v_repr m (by simpa [okR] using okRs_ints h) hL (by simp [dpD, dpDs_ints]) (by simpa [lenR, lenRs_ints] using hz) (fun _ e => by cases e)
end Vi

set_option Elab.async false
set_option linter.all false
set_option maxRecDepth 100000
set_option maxHeartbeats 4000000
namespace Vi
open PySem PySem.Spec PyProof.Rows L2

theorem for_ix {g : SG} {b : SS} (I : Nat → En → M → Prop) (xs : List D) (step : ∀ (i : Nat) (x : D) (ρ : En) (m : M), xs[i]? = some x → I i ρ m → ∃ ρ1 m1, g x ρ m = .ok ρ1 m1 ∧ ∃ ρ2 m2, b ρ1 m1 = .nx ρ2 m2 ∧ I (i + 1) ρ2 m2)
    (ρ : En) (m : M) (h : I 0 ρ m) : ∃ ρ' m', forLoop g b xs ρ m = .nx ρ' m' ∧ I xs.length ρ' m' := by
  obtain ⟨ρ', m', e, i, h1, h2, h3⟩ := for_inv (g := g) (b := b) (fun ys ρ m => ∃ i, ys = xs.drop i ∧ i ≤ xs.length ∧ I i ρ m) (fun x ys ρ m hI => by
    obtain ⟨i, e1, e2, e3⟩ := hI
    have hi : i < xs.length := by
      rcases Nat.lt_or_ge i xs.length with q | q
      · exact q
      · rw [List.drop_eq_nil_of_le q] at e1; cases e1
    have hx : xs[i]? = some x := by
      have : (xs.drop i)[0]? = some x := by rw [← e1]; rfl
      rw [List.getElem?_drop] at this
      simpa using this
    obtain ⟨ρ1, m1, f1, ρ2, m2, f2, f3⟩ := step i x ρ m hx e3
    refine ⟨ρ1, m1, f1, ρ2, m2, f2, i + 1, ?_, by omega, f3⟩
    have := congrArg List.tail e1
    simpa using this) xs ρ m ⟨0, by simp, by omega, h⟩
  have : i = xs.length := by
    have := congrArg List.length h1
    simp at this
    omega
  exact ⟨ρ', m', e, this ▸ h3⟩
theorem for_rng {g : SG} {b : SS} {n : Nat} {lo : Int} (I : Nat → En → M → Prop) (step : ∀ (i : Nat) (ρ : En) (m : M), i < n → I i ρ m → ∃ ρ1 m1, g (.int (lo + (i : Int))) ρ m = .ok ρ1 m1 ∧ ∃ ρ2 m2, b ρ1 m1 = .nx ρ2 m2 ∧ I (i + 1) ρ2 m2)
    (ρ : En) (m : M) (h : I 0 ρ m) : ∃ ρ' m', forLoop g b (rngD lo 1 n) ρ m = .nx ρ' m' ∧ I n ρ' m' := by
  have := for_ix (g := g) (b := b) I (rngD lo 1 n) (fun i x ρ m hx hI => by
    have hi : i < n := by
      have := (List.getElem?_eq_some_iff.mp hx).1
      rwa [rngD_len] at this
    have e := rngD_get hx
    subst e
    rw [Int.mul_one]
    exact step i ρ m hi hI) ρ m h
  rwa [rngD_len] at this
theorem wh_inv {t : SB} {b : SS} (I : Nat → En → M → Prop) (Dn : En → M → Prop)
    (step : ∀ n ρ m, I n ρ m → (∃ m1, t ρ m = .ok false m1 ∧ Dn ρ m1) ∨ ∃ m1, t ρ m = .ok true m1 ∧ ∃ ρ2 m2, b ρ m1 = .nx ρ2 m2 ∧ ∃ n', n' < n ∧ I n' ρ2 m2) :
    ∀ (fuel n : Nat) (ρ : En) (m : M), n < fuel → I n ρ m → ∃ ρ' m', whLoop t b fuel ρ m = .nx ρ' m' ∧ Dn ρ' m'
  | 0, _, _, _, h, _ => absurd h (Nat.not_lt_zero _)
  | fuel + 1, n, ρ, m, h, hI => by
    rcases step n ρ m hI with ⟨m1, e, d⟩ | ⟨m1, e, ρ2, m2, e2, n', hn, h2⟩
    · exact ⟨ρ, m1, by rw [whLoop, e, toO_ok, if_neg (by simp)], d⟩
    · obtain ⟨ρ', m', e3, d⟩ := wh_inv I Dn step fuel n' ρ2 m2 (by omega) h2
      exact ⟨ρ', m', by rw [whLoop, e, toO_ok, if_pos rfl]; simp only [e2]; exact e3, d⟩
theorem set_self {m : M} {n : Nat} {c : Cell} (h : m[n]? = some c) : m.set n c = m := by
  apply List.ext_getElem?
  intro j
  by_cases hj : n = j
  · subst hj
    rw [List.getElem?_set_self (List.getElem?_eq_some_iff.mp h).1, h]
  · rw [List.getElem?_set_ne hj]
theorem get_end (m : M) (c : Cell) : (m ++ [c])[m.length]? = some c := by simp
theorem set_end (m : M) (c c' : Cell) : (m ++ [c]).set m.length c' = m ++ [c'] := by simp
theorem noRefs_nats (ps : List Nat) : noRefs (nL1 ps) = true := by rw [nats_ints]; exact noRefs_ints _
theorem cast_inj : ∀ {ps qs : List Nat}, (ps.map fun (n : Nat) => (n : Int)) = (qs.map fun (n : Nat) => (n : Int)) → ps = qs
  | [], [], _ => rfl
  | [], _ :: _, h => by cases h
  | _ :: _, [], h => by cases h
  | p :: ps, q :: qs, h => by
    simp only [List.map_cons, List.cons.injEq] at h
    rw [show p = q by omega, cast_inj h.2]
theorem v_eqN (ps qs : List Nat) (m : M) : gEq (.tup (nL1 ps)) (.tup (nL1 qs)) m = .ok (decide (ps = qs)) m := by
  rw [nats_ints, nats_ints, v_eqT]
  congr 1
  rw [decide_eq_decide]
  constructor
  · intro h
    exact cast_inj h
  · intro h; rw [h]
theorem v_reprN {L : Nat} {ns : List Nat} (m : M) (h : ∀ n ∈ ns, n.log2 < L) (hL : L ≤ 1920) (hz : ns.length * (L + 7) + 3 ≤ big) : gRepr [.tup (nL1 ns)] m = .ok (.str (pyD (.tup (nL1 ns))).shown) m := by
  rw [nats_ints]
  exact v_reprI m (fun n hn => by
    obtain ⟨k, hk, rfl⟩ := List.mem_map.mp hn
    simpa using h k hk) hL (by simpa using hz)
end Vi

set_option Elab.async false
set_option linter.all false
set_option maxRecDepth 100000
set_option maxHeartbeats 4000000
namespace Lk38
open PySem PySem.Spec PyProof.Rows L2 Vi
def topS (i : Nat) : Stmt := PySem.Challenge.pw_partrests_k38_hooks.main.body.getD i (.Pass ⟨0, 0, 0, 0⟩)
abbrev shooks : Stmt := topS 1
theorem schooks : FnScope ["parting", "found", "at", "part", "row", "j", "beneath", "other"] ["parting"] (defScope shooks) := ⟨rfl, rfl, rfl, by decide +kernel, rfl, by decide +kernel, by decide +kernel⟩
abbrev s_law_hand : Stmt := topS 3
theorem sc_law_hand : FnScope ["_law_script", "_law_state", "_law_far", "_law_cell", "_law_k", "_law_one"] ["_law_script"] (defScope s_law_hand) := ⟨rfl, rfl, rfl, by decide +kernel, rfl, by decide +kernel, by decide +kernel⟩
abbrev s_law_take : Stmt := topS 4
theorem sc_law_take : FnScope ["_law_state", "_law_many", "_law_digit", "_law_mixed"] ["_law_state", "_law_many"] (defScope s_law_take) := ⟨rfl, rfl, rfl, by decide +kernel, rfl, by decide +kernel, by decide +kernel⟩
abbrev s_law_parting : Stmt := topS 5
theorem sc_law_parting : FnScope ["_law_state", "_law_most", "_law_left", "_law_way", "_law_top", "_law_found", "_law_part"] ["_law_state", "_law_most"] (defScope s_law_parting) := ⟨rfl, rfl, rfl, by decide +kernel, rfl, by decide +kernel, by decide +kernel⟩
abbrev s_law_hooks : Stmt := topS 6
theorem sc_law_hooks : FnScope ["_law_parting_here", "_law_found", "_law_where", "_law_part", "_law_beneath", "_law_j", "_law_other"] ["_law_parting_here"] (defScope s_law_hooks) := ⟨rfl, rfl, rfl, by decide +kernel, rfl, by decide +kernel, by decide +kernel⟩
abbrev s_law_same : Stmt := topS 7
theorem sc_law_same : FnScope ["_law_found", "_law_due", "_law_one", "_law_other"] ["_law_found", "_law_due"] (defScope s_law_same) := ⟨rfl, rfl, rfl, by decide +kernel, rfl, by decide +kernel, by decide +kernel⟩
abbrev slaw : Stmt := topS 8
theorem sclaw : FnScope ["_law_script", "_law_state", "_law_turn", "_law_most", "_law_parting_here", "_law_due", "_law_again", "_law_row"] ["_law_script"] (defScope slaw) := ⟨rfl, rfl, rfl, by decide +kernel, rfl, by decide +kernel, by decide +kernel⟩
def fhooks_2 : SS := (sRet (sCall gTuple (sCons (sVar 1) sNil)))
def fhooks_1_2 : SS := (sDrop (sApp (sVar 1) (sCall gTuple (sCons (sVar 4) sNil))))
def fhooks_1_1_1 : SS := (sDrop (sApp (sVar 4) (sBin gAdd (sBin gSub (sVar 3) (sVar 5)) (sVar 6))))
def fhooks_1_1_0 : SS := (sAsg (sCall gLen (sCons (sFrz (sComp [7] (iS (sCutT (sVar 0) (sSome (sBin gAdd (sVar 2) (sC (.int 1)))) sNo)) (gNm 7) (sBinT gGt (sVar 7) (sVar 5)) (sVar 7))) sNil)) (gNm 6))
def fhooks_1_1 : SS := (sFor (iR1 (sCons (sVar 3) sNil)) (gNm 5)
  (sSeq fhooks_1_1_0 fhooks_1_1_1))
def fhooks_1_0 : SS := (sAsg (sNew (sLst sNil)) (gNm 4))
def fhooks_1 : SS := (sFor (iEn (sCons (sVar 0) sNil)) (gTp 2 (gsCons (gNm 2) (gsCons (gNm 3) gsNil)))
  (sSeq fhooks_1_0 (sSeq fhooks_1_1 fhooks_1_2)))
def fhooks_0 : SS := (sAsg (sNew (sLst sNil)) (gNm 1))
def fhooks : Fn := exitF (runDef 8 (sSeq fhooks_0 (sSeq fhooks_1 fhooks_2)))
def f_law_hand_3 : SS := (sRet (sVar 1))
def f_law_hand_2_1 : SS := (sAsg (sBin gMod (sBin gAdd (sBin gMul (sBin gIx (sVar 1) (sC (.int 1))) (sC (.int 48271))) (sVar 5)) (sC (.int 2305843009213693951))) (gSb (sVar 1) (sC (.int 1))))
def f_law_hand_2_0 : SS := (sAsg (sBin gAdd (sBin gAdd (sBin gMod (sVar 3) (sC (.int 2305843009213693951))) (sBin gMul (sC (.int 7919)) (sVar 4))) (sC (.int 3))) (gNm 5))
def f_law_hand_2 : SS := (sFor (iEn (sCons (sFrz (sCutL (sVar 0) sNo (sSome (sC (.int 63))))) sNil)) (gTp 2 (gsCons (gNm 4) (gsCons (gNm 3) gsNil)))
  (sSeq f_law_hand_2_0 f_law_hand_2_1))
def f_law_hand_1a1_1 : SS := (sAsg (sBin gMul (sVar 2) (sBin gPow (sC (.int 10)) (sC (.int 60)))) (gNm 2))
def f_law_hand_1a1_0 : SS := (sAsg (sBin gAdd (sBin gIx (sVar 1) (sC (.int 0))) (sBin gMul (sBin gMod (sCall gAbs (sCons (sVar 3) sNil)) (sBin gPow (sC (.int 10)) (sC (.int 60)))) (sVar 2))) (gSb (sVar 1) (sC (.int 0))))
def f_law_hand_1a1 : SS := (sFor (iS (sFrz (sCutL (sVar 0) sNo (sSome (sC (.int 63)))))) (gNm 3)
  (sSeq f_law_hand_1a1_0 f_law_hand_1a1_1))
def f_law_hand_1a0 : SS := (sAsg (sC (.int 1)) (gNm 2))
def f_law_hand_1 : SS := (sIfS (sAnd (sBinT gGt (sCall gLen (sCons (sVar 0) sNil)) (sC (.int 0))) (sBinT gGe (sBin gIx (sVar 0) (sC (.int 0))) (sBin gPow (sC (.int 10)) (sC (.int 18)))))
  (sSeq f_law_hand_1a0 f_law_hand_1a1)
  sPass)
def f_law_hand_0 : SS := (sAsg (sNew (sLst (sCons (sC (.int 0)) (sCons (sC (.int 0)) (sCons (sC (.int 0)) sNil))))) (gNm 1))
def f_law_hand : Fn := runDef 6 (sSeq f_law_hand_0 (sSeq f_law_hand_1 (sSeq f_law_hand_2 f_law_hand_3)))
def f_law_take_4 : SS := (sRet (sBin gMod (sBin gAdd (sBin gDiv (sVar 3) (sC (.int 97))) (sBin gDiv (sVar 3) (sC (.int 1000033)))) (sVar 1)))
def f_law_take_3 : SS := (sAsg (sBin gMod (sBin gMul (sVar 3) (sBin gAdd (sBin gMod (sVar 3) (sC (.int 1000003))) (sBin gMul (sC (.int 99991)) (sBin gIx (sVar 0) (sC (.int 2)))))) (sC (.int 2305843009213693907))) (gNm 3))
def f_law_take_2 : SS := (sAsg (sBin gMod (sBin gMul (sBin gAdd (sBin gAdd (sBin gIx (sVar 0) (sC (.int 1))) (sBin gMul (sBin gMul (sC (.int 65537)) (sBin gIx (sVar 0) (sC (.int 2)))) (sBin gIx (sVar 0) (sC (.int 2))))) (sC (.int 11))) (sC (.int 48271))) (sC (.int 2305843009213693921))) (gNm 3))
def f_law_take_1 : SS := (sAsg (sBin gAdd (sBin gIx (sVar 0) (sC (.int 2))) (sC (.int 1))) (gSb (sVar 0) (sC (.int 2))))
def f_law_take_0a2 : SS := (sRet (sVar 2))
def f_law_take_0a1 : SS := (sAsg (sBin gDiv (sBin gIx (sVar 0) (sC (.int 0))) (sVar 1)) (gSb (sVar 0) (sC (.int 0))))
def f_law_take_0a0 : SS := (sAsg (sBin gMod (sBin gIx (sVar 0) (sC (.int 0))) (sVar 1)) (gNm 2))
def f_law_take_0 : SS := (sIfS (sBinT gGt (sBin gIx (sVar 0) (sC (.int 0))) (sC (.int 0)))
  (sSeq f_law_take_0a0 (sSeq f_law_take_0a1 f_law_take_0a2))
  sPass)
def f_law_take : Fn := exitF (runDef 4 (sSeq f_law_take_0 (sSeq f_law_take_1 (sSeq f_law_take_2 (sSeq f_law_take_3 f_law_take_4)))))
def f_law_parting_4 : SS := (sRet (sCall gTuple (sCons (sFrz (sCallL (gSorted true) (sCons (sVar 5) sNil))) sNil)))
def f_law_parting_3_4 : SS := (sAsg (sBin gSub (sVar 6) (sCall gInt1 (sCons (sOfT (sBinT gEq (sVar 3) (sC (.int 4)))) sNil))) (gNm 4))
def f_law_parting_3_3 : SS := (sAsg (sBin gSub (sVar 2) (sVar 6)) (gNm 2))
def f_law_parting_3_2 : SS := (sDrop (sApp (sVar 5) (sVar 6)))
def f_law_parting_3_1a0 : SS := (sAsg (sBin gAdd (sC (.int 1)) (sCall f_law_take (sCons (sVar 0) (sCons (sVar 6) sNil)))) (gNm 6))
def f_law_parting_3_1 : SS := (sIfS (sOr (sBinT gNe (sVar 3) (sC (.int 5))) (sBinT gEq (sVar 5) (sFrz (sLst sNil))))
  f_law_parting_3_1a0
  sPass)
def f_law_parting_3_0 : SS := (sAsg (sCall gMin2 (sCons (sVar 4) (sCons (sVar 2) sNil))) (gNm 6))
def f_law_parting_3 : SS := (sWh (sAnd (sBinT gGt (sVar 2) (sC (.int 0))) (sBinT gGt (sVar 4) (sC (.int 0))))
  (sSeq f_law_parting_3_0 (sSeq f_law_parting_3_1 (sSeq f_law_parting_3_2 (sSeq f_law_parting_3_3 f_law_parting_3_4)))))
def f_law_parting_2 : SS := (sAsg (sNew (sLst sNil)) (gNm 5))
def f_law_parting_1 : SS := (sAsg (sBin gIx (sFrz (sLst (sCons (sVar 2) (sCons (sC (.int 3)) (sCons (sC (.int 6)) (sCons (sC (.int 12)) (sCons (sVar 2) (sCons (sVar 2) sNil)))))))) (sVar 3)) (gNm 4))
def f_law_parting_0 : SS := (sPar 2 3 (sCons (sCall f_law_take (sCons (sVar 0) (sCons (sBin gAdd (sVar 1) (sC (.int 1))) sNil))) (sCons (sCall f_law_take (sCons (sVar 0) (sCons (sC (.int 6)) sNil))) sNil)))
def f_law_parting : Fn := exitF (runDef 7 (sSeq f_law_parting_0 (sSeq f_law_parting_1 (sSeq f_law_parting_2 (sSeq f_law_parting_3 f_law_parting_4)))))
def f_law_hooks_2 : SS := (sRet (sCall gTuple (sCons (sVar 1) sNil)))
def f_law_hooks_1_1 : SS := (sDrop (sApp (sVar 1) (sCall gTuple (sCons (sFrz (sComp [5] (iR1 (sCons (sVar 3) sNil)) (gNm 5) tYs (sBin gAdd (sBin gSub (sVar 3) (sVar 5)) (sBin gIx (sVar 4) (sVar 5))))) sNil))))
def f_law_hooks_1_0 : SS := (sAsg (sFrz (sComp [5] (iR1 (sCons (sVar 3) sNil)) (gNm 5) tYs (sCall gLen (sCons (sFrz (sComp [6] (iS (sCutT (sVar 0) (sSome (sBin gAdd (sVar 2) (sC (.int 1)))) sNo)) (gNm 6) (sBinT gGt (sVar 6) (sVar 5)) (sVar 6))) sNil)))) (gNm 4))
def f_law_hooks_1 : SS := (sFor (iEn (sCons (sVar 0) sNil)) (gTp 2 (gsCons (gNm 2) (gsCons (gNm 3) gsNil)))
  (sSeq f_law_hooks_1_0 f_law_hooks_1_1))
def f_law_hooks_0 : SS := (sAsg (sNew (sLst sNil)) (gNm 1))
def f_law_hooks : Fn := exitF (runDef 7 (sSeq f_law_hooks_0 (sSeq f_law_hooks_1 f_law_hooks_2)))
def f_law_same_3 (q : Fn) : SS := (sRet (sAndV (sIsi2 "int" "str" (sVar 0)) (sOfT (sBinT gEq (sVar 0) (sVar 1)))))
def f_law_same_2a0 (q : Fn) : SS := (sRet (sC (.bl false)))
def f_law_same_2 (q : Fn) : SS := (sIfS (sOr (sBinT gNe (sIsi "bool" (sVar 0)) (sIsi "bool" (sVar 1))) (sBinT gNe (sIsi "str" (sVar 0)) (sIsi "str" (sVar 1))))
  (f_law_same_2a0 q)
  sPass)
def f_law_same_1a0 (q : Fn) : SS := (sRet (sOfT (sBinT gIsN (sVar 0) (sC .non))))
def f_law_same_1 (q : Fn) : SS := (sIfS (sBinT gIsN (sVar 1) (sC .non))
  (f_law_same_1a0 q)
  sPass)
def f_law_same_0a1 (q : Fn) : SS := (sRet (sAndV (sOfT (sBinT gEq (sCall gLen (sCons (sVar 0) sNil)) (sCall gLen (sCons (sVar 1) sNil)))) (sCall gAll (sCons (sFrz (sComp [2, 3] (iZi (sCons (sVar 0) (sCons (sVar 1) sNil))) (gTp 2 (gsCons (gNm 2) (gsCons (gNm 3) gsNil))) tYs (sCall q (sCons (sVar 2) (sCons (sVar 3) sNil))))) sNil))))
def f_law_same_0a0a0 (q : Fn) : SS := (sRet (sC (.bl false)))
def f_law_same_0a0 (q : Fn) : SS := (sIfS (sOr (sBinT gNe (sIsi "tuple" (sVar 0)) (sIsi "tuple" (sVar 1))) (sBinT gNe (sIsi "list" (sVar 0)) (sIsi "list" (sVar 1))))
  (f_law_same_0a0a0 q)
  sPass)
def f_law_same_0 (q : Fn) : SS := (sIfS (sTB (sIsi2 "tuple" "list" (sVar 1)))
  (sSeq (f_law_same_0a0 q) (f_law_same_0a1 q))
  sPass)
def f_law_same_R (q : Fn) : Fn := exitF (runDef 4 (sSeq (f_law_same_0 q) (sSeq (f_law_same_1 q) (sSeq (f_law_same_2 q) (f_law_same_3 q)))))
def f_law_same : Nat → Fn
  | 0 => fBad
  | q + 1 => f_law_same_R (f_law_same q)
def flaw_3 : SS := (sRet (sC (.bl true)))
def flaw_2_0a0 : SS := (sRet (sC (.bl false)))
def flaw_2_0 : SS := (sIfS (sNot (sTB (sCall (f_law_same 8) (sCons (sCall fhooks (sCons (sVar 4) sNil)) (sCons (sCall f_law_hooks (sCons (sVar 4) sNil)) sNil)))))
  flaw_2_0a0
  sPass)
def flaw_2 : SS := (sFor (iS (sFrz (sLst (sCons (sTup sNil) (sCons (sTup (sCons (sC (.int 300)) sNil)) (sCons (sBin gRepT (sTup (sCons (sC (.int 1)) sNil)) (sC (.int 300))) sNil)))))) (gNm 4)
  flaw_2_0)
def flaw_1_4_0a0 : SS := (sRet (sC (.bl false)))
def flaw_1_4_0 : SS := (sIfS (sNot (sTB (sCall (f_law_same 8) (sCons (sCall fhooks (sCons (sVar 4) sNil)) (sCons (sVar 5) sNil)))))
  flaw_1_4_0a0
  sPass)
def flaw_1_4 : SS := (sFor (iR1 (sCons (sC (.int 2)) sNil)) (gNm 6)
  flaw_1_4_0)
def flaw_1_3a0 : SS := (sRet (sC (.bl false)))
def flaw_1_3 : SS := (sIfS (sBinT gNe (sCall gSum (sCons (sFrz (sComp [7] (iS (sVar 5)) (gNm 7) tYs (sCall gLen (sCons (sVar 7) sNil)))) sNil)) (sCall gSum (sCons (sVar 4) sNil)))
  flaw_1_3a0
  sPass)
def flaw_1_2 : SS := (sAsg (sCall f_law_hooks (sCons (sVar 4) sNil)) (gNm 5))
def flaw_1_1 : SS := (sAsg (sCall f_law_parting (sCons (sVar 1) (sCons (sVar 3) sNil))) (gNm 4))
def flaw_1_0 : SS := (sAsg (sBin gIx (sFrz (sLst (sCons (sC (.int 60)) (sCons (sC (.int 300)) sNil)))) (sCall gInt1 (sCons (sOfT (sBinT gEq (sCall f_law_take (sCons (sVar 1) (sCons (sC (.int 8)) sNil))) (sC (.int 0)))) sNil))) (gNm 3))
def flaw_1 : SS := (sFor (iR1 (sCons (sBin gAdd (sC (.int 1)) (sCall f_law_take (sCons (sVar 1) (sCons (sC (.int 6)) sNil)))) sNil)) (gNm 2)
  (sSeq flaw_1_0 (sSeq flaw_1_1 (sSeq flaw_1_2 (sSeq flaw_1_3 flaw_1_4)))))
def flaw_0 : SS := (sAsg (sCall f_law_hand (sCons (sVar 0) sNil)) (gNm 1))
def flaw : Fn := exitF (runDef 8 (sSeq flaw_0 (sSeq flaw_1 (sSeq flaw_2 flaw_3))))
structure Tops (K : PySem.W.Frag) (mg : Str → Option Value) where
  a_hooks : Addr
  d_hooks : FuncData
  F_hooks : Fun K "hooks" "hooks" shooks a_hooks d_hooks
  g_hooks : mg "hooks" = some (.ref a_hooks)
  b_hooks : Binds K d_hooks ["parting"] []
  a__law_hand : Addr
  d__law_hand : FuncData
  F__law_hand : Fun K "_law_hand" "_law_hand" s_law_hand a__law_hand d__law_hand
  g__law_hand : mg "_law_hand" = some (.ref a__law_hand)
  b__law_hand : Binds K d__law_hand ["_law_script"] []
  a__law_take : Addr
  d__law_take : FuncData
  F__law_take : Fun K "_law_take" "_law_take" s_law_take a__law_take d__law_take
  g__law_take : mg "_law_take" = some (.ref a__law_take)
  b__law_take : Binds K d__law_take ["_law_state", "_law_many"] []
  a__law_parting : Addr
  d__law_parting : FuncData
  F__law_parting : Fun K "_law_parting" "_law_parting" s_law_parting a__law_parting d__law_parting
  g__law_parting : mg "_law_parting" = some (.ref a__law_parting)
  b__law_parting : Binds K d__law_parting ["_law_state", "_law_most"] []
  a__law_hooks : Addr
  d__law_hooks : FuncData
  F__law_hooks : Fun K "_law_hooks" "_law_hooks" s_law_hooks a__law_hooks d__law_hooks
  g__law_hooks : mg "_law_hooks" = some (.ref a__law_hooks)
  b__law_hooks : Binds K d__law_hooks ["_law_parting_here"] []
  a__law_same : Addr
  d__law_same : FuncData
  F__law_same : Fun K "_law_same" "_law_same" s_law_same a__law_same d__law_same
  g__law_same : mg "_law_same" = some (.ref a__law_same)
  b__law_same : Binds K d__law_same ["_law_found", "_law_due"] []
  a_law : Addr
  d_law : FuncData
  F_law : Fun K "law" "law" slaw a_law d_law
  g_law : mg "law" = some (.ref a_law)
  b_law : Binds K d_law ["_law_script"] []
  m_enumerate : mg "enumerate" = none
  m_tuple : mg "tuple" = none
  m_range : mg "range" = none
  m_len : mg "len" = none
  m_abs : mg "abs" = none
  m_min : mg "min" = none
  m_sorted : mg "sorted" = none
  m_int : mg "int" = none
  m_isinstance : mg "isinstance" = none
  m_list : mg "list" = none
  m_all : mg "all" = none
  m_bool : mg "bool" = none
  m_str : mg "str" = none
  m_zip : mg "zip" = none
  m_sum : mg "sum" = none
section
variable {P : Program} {w : World} {K : PySem.W.Frag} {mg : Str → Option Value} {base : Heap}
theorem okhooks (Z : Tops K mg) : FnG P w K mg base 1 Z.a_hooks Z.d_hooks ["parting"] fhooks :=
  exit_ok (fn_ok Z.F_hooks schooks fun cdv A outer s H E B => (dss_cons (ds_asg (de_new (dl_lst da_nil)) (dg_name schooks.nd))
  (dss_cons (ds_for B.own rfl (di_enum Z.m_enumerate (da_cons (de_var 0) da_nil)) (dg_tup rfl (dgs_cons (dg_name schooks.nd) (dgs_cons (dg_name schooks.nd) dgs_nil)))
  (dss_cons (ds_asg (de_new (dl_lst da_nil)) (dg_name schooks.nd))
  (dss_cons (ds_for B.own rfl (di_range1 Z.m_range (da_cons (de_var 3) da_nil)) (dg_name schooks.nd)
  (dss_cons (ds_asg (de_callB c_len Z.m_len (da_cons (de_frz (dl_comp (ow := [("other", 7)]) rfl schooks.nd (di_seq (de_cut (de_var 0) (do_some (de_op o_add (de_var 2) de_int)) do_none)) (blkOk_by rfl) (fun _ _ _ _ _ => (dgo_name schooks.nd)) (fun _ _ _ _ _ => (dts_one (dt_cmp o_gt (de_var 7) (de_var 5)))) (fun _ _ _ _ _ => (de_var 7)))) da_nil)) (dg_name schooks.nd))
  (dss_one (ds_expr (de_app (de_var 4) (de_op o_add (de_op o_sub (de_var 3) (de_var 5)) (de_var 6)))))))
  (dss_one (ds_expr (de_app (de_var 1) (de_callT c_tuple Z.m_tuple (da_cons (de_var 4) da_nil))))))))
  (dss_one (ds_ret (de_callT c_tuple Z.m_tuple (da_cons (de_var 1) da_nil)))))))
theorem ok_law_hand (Z : Tops K mg) : FnG P w K mg base 1 Z.a__law_hand Z.d__law_hand ["_law_script"] f_law_hand :=
  fn_ok Z.F__law_hand sc_law_hand fun cdv A outer s H E B => (dss_cons (ds_asg (de_new (dl_lst (da_cons de_int (da_cons de_int (da_cons de_int da_nil))))) (dg_name sc_law_hand.nd))
  (dss_cons (ds_if (dt_w (dw_and (dt_cmp o_gt (de_callB c_len Z.m_len (da_cons (de_var 0) da_nil)) de_int) (dw_and1 (dt_cmp o_ge (de_ix (de_var 0) de_int) (de_op o_pow de_int de_int)))))
  (dss_cons (ds_asg de_int (dg_name sc_law_hand.nd))
  (dss_one (ds_for B.own rfl (di_seq (de_frz (dl_cut (de_var 0) do_none (do_some de_int)))) (dg_name sc_law_hand.nd)
  (dss_cons (ds_asg (de_op o_add (de_ix (de_var 1) de_int) (de_op o_mul (de_op o_mod (de_callB c_abs Z.m_abs (da_cons (de_var 3) da_nil)) (de_op o_pow de_int de_int)) (de_var 2))) (dg_sub (de_var 1) de_int))
  (dss_one (ds_asg (de_op o_mul (de_var 2) (de_op o_pow de_int de_int)) (dg_name sc_law_hand.nd)))))))
  dss_nil)
  (dss_cons (ds_for B.own rfl (di_enum Z.m_enumerate (da_cons (de_frz (dl_cut (de_var 0) do_none (do_some de_int))) da_nil)) (dg_tup rfl (dgs_cons (dg_name sc_law_hand.nd) (dgs_cons (dg_name sc_law_hand.nd) dgs_nil)))
  (dss_cons (ds_asg (de_op o_add (de_op o_add (de_op o_mod (de_var 3) de_int) (de_op o_mul de_int (de_var 4))) de_int) (dg_name sc_law_hand.nd))
  (dss_one (ds_asg (de_op o_mod (de_op o_add (de_op o_mul (de_ix (de_var 1) de_int) de_int) (de_var 5)) de_int) (dg_sub (de_var 1) de_int)))))
  (dss_one (ds_ret (de_var 1))))))
theorem ok_law_take (Z : Tops K mg) : FnG P w K mg base 1 Z.a__law_take Z.d__law_take ["_law_state", "_law_many"] f_law_take :=
  exit_ok (fn_ok Z.F__law_take sc_law_take fun cdv A outer s H E B => (dss_cons (ds_if (dt_cmp o_gt (de_ix (de_var 0) de_int) de_int)
  (dss_cons (ds_asg (de_op o_mod (de_ix (de_var 0) de_int) (de_var 1)) (dg_name sc_law_take.nd))
  (dss_cons (ds_asg (de_op o_div (de_ix (de_var 0) de_int) (de_var 1)) (dg_sub (de_var 0) de_int))
  (dss_one (ds_ret (de_var 2)))))
  dss_nil)
  (dss_cons (ds_asg (de_op o_add (de_ix (de_var 0) de_int) de_int) (dg_sub (de_var 0) de_int))
  (dss_cons (ds_asg (de_op o_mod (de_op o_mul (de_op o_add (de_op o_add (de_ix (de_var 0) de_int) (de_op o_mul (de_op o_mul de_int (de_ix (de_var 0) de_int)) (de_ix (de_var 0) de_int))) de_int) de_int) de_int) (dg_name sc_law_take.nd))
  (dss_cons (ds_asg (de_op o_mod (de_op o_mul (de_var 3) (de_op o_add (de_op o_mod (de_var 3) de_int) (de_op o_mul de_int (de_ix (de_var 0) de_int)))) de_int) (dg_name sc_law_take.nd))
  (dss_one (ds_ret (de_op o_mod (de_op o_add (de_op o_div (de_var 3) de_int) (de_op o_div (de_var 3) de_int)) (de_var 1)))))))))
theorem ok_law_parting (Z : Tops K mg) : FnG P w K mg base 2 Z.a__law_parting Z.d__law_parting ["_law_state", "_law_most"] f_law_parting :=
  exit_ok (fn_ok Z.F__law_parting sc_law_parting fun cdv A outer s H E B => (dss_cons (ds_par rfl sc_law_parting.nd (da_cons (de_call (ok_law_take Z) (B.room.mono (by decide)) B.gd B.pass Z.g__law_take Z.F__law_take.kp Z.b__law_take (da_cons (de_var 0) (da_cons (de_op o_add (de_var 1) de_int) da_nil)) (len_cons (len_cons len_nil))) (da_cons (de_call (ok_law_take Z) (B.room.mono (by decide)) B.gd B.pass Z.g__law_take Z.F__law_take.kp Z.b__law_take (da_cons (de_var 0) (da_cons de_int da_nil)) (len_cons (len_cons len_nil))) da_nil)))
  (dss_cons (ds_asg (de_ix (de_frz (dl_lst (da_cons (de_var 2) (da_cons de_int (da_cons de_int (da_cons de_int (da_cons (de_var 2) (da_cons (de_var 2) da_nil)))))))) (de_var 3)) (dg_name sc_law_parting.nd))
  (dss_cons (ds_asg (de_new (dl_lst da_nil)) (dg_name sc_law_parting.nd))
  (dss_cons (ds_while B.own (dt_w (dw_and (dt_cmp o_gt (de_var 2) de_int) (dw_and1 (dt_cmp o_gt (de_var 4) de_int))))
  (dss_cons (ds_asg (de_callB (c_min2 rfl) Z.m_min (da_cons (de_var 4) (da_cons (de_var 2) da_nil))) (dg_name sc_law_parting.nd))
  (dss_cons (ds_if (dt_w (dw_or (dt_cmp (o_ne B.hu64) (de_var 3) de_int) (dw_or1 (dt_cmp (o_eq B.hu64) (de_var 5) (de_frz (dl_lst da_nil))))))
  (dss_one (ds_asg (de_op o_add de_int (de_call (ok_law_take Z) (B.room.mono (by decide)) B.gd B.pass Z.g__law_take Z.F__law_take.kp Z.b__law_take (da_cons (de_var 0) (da_cons (de_var 6) da_nil)) (len_cons (len_cons len_nil)))) (dg_name sc_law_parting.nd)))
  dss_nil)
  (dss_cons (ds_expr (de_app (de_var 5) (de_var 6)))
  (dss_cons (ds_asg (de_op o_sub (de_var 2) (de_var 6)) (dg_name sc_law_parting.nd))
  (dss_one (ds_asg (de_op o_sub (de_var 6) (de_callT c_int Z.m_int (da_cons (de_cmp (o_eq B.hu64) (de_var 3) de_int) da_nil))) (dg_name sc_law_parting.nd))))))))
  (dss_one (ds_ret (de_callT c_tuple Z.m_tuple (da_cons (de_frz (dl_sortedR B.hu Z.m_sorted (de_var 5))) da_nil)))))))))
theorem ok_law_hooks (Z : Tops K mg) : FnG P w K mg base 1 Z.a__law_hooks Z.d__law_hooks ["_law_parting_here"] f_law_hooks :=
  exit_ok (fn_ok Z.F__law_hooks sc_law_hooks fun cdv A outer s H E B => (dss_cons (ds_asg (de_new (dl_lst da_nil)) (dg_name sc_law_hooks.nd))
  (dss_cons (ds_for B.own rfl (di_enum Z.m_enumerate (da_cons (de_var 0) da_nil)) (dg_tup rfl (dgs_cons (dg_name sc_law_hooks.nd) (dgs_cons (dg_name sc_law_hooks.nd) dgs_nil)))
  (dss_cons (ds_asg (de_frz (dl_comp (ow := [("_law_j", 5)]) rfl sc_law_hooks.nd (di_range1 Z.m_range (da_cons (de_var 3) da_nil)) (blkOk_by rfl) (fun _ _ _ _ _ => (dgo_name sc_law_hooks.nd)) (fun _ _ _ _ _ => dts_nil) (fun _ _ _ _ _ => (de_callB c_len Z.m_len (da_cons (de_frz (dl_comp (ow := [("_law_other", 6)]) rfl sc_law_hooks.nd (di_seq (de_cut (de_var 0) (do_some (de_op o_add (de_var 2) de_int)) do_none)) (blkOk_by rfl) (fun _ _ _ _ _ => (dgo_name sc_law_hooks.nd)) (fun _ _ _ _ _ => (dts_one (dt_cmp o_gt (de_var 6) (de_var 5)))) (fun _ _ _ _ _ => (de_var 6)))) da_nil))))) (dg_name sc_law_hooks.nd))
  (dss_one (ds_expr (de_app (de_var 1) (de_callT c_tuple Z.m_tuple (da_cons (de_frz (dl_comp (ow := [("_law_j", 5)]) rfl sc_law_hooks.nd (di_range1 Z.m_range (da_cons (de_var 3) da_nil)) (blkOk_by rfl) (fun _ _ _ _ _ => (dgo_name sc_law_hooks.nd)) (fun _ _ _ _ _ => dts_nil) (fun _ _ _ _ _ => (de_op o_add (de_op o_sub (de_var 3) (de_var 5)) (de_ix (de_var 4) (de_var 5)))))) da_nil)))))))
  (dss_one (ds_ret (de_callT c_tuple Z.m_tuple (da_cons (de_var 1) da_nil)))))))
theorem ok_law_same (Z : Tops K mg) : ∀ q : Nat, FnG P w K mg base (q + 1) Z.a__law_same Z.d__law_same ["_law_found", "_law_due"] (f_law_same q)
  | 0 => bad_ok
  | q + 1 => by
    have IH := ok_law_same Z q
    rw [show q + 1 + 1 = (q + 1) + 1 by omega]
    exact exit_ok (fn_ok Z.F__law_same sc_law_same fun cdv A outer s H E B => (dss_cons (ds_if (dt_bl (de_isi2 (de_var 1) Z.m_isinstance Z.m_tuple Z.m_list))
  (dss_cons (ds_if (dt_w (dw_or (dt_cmp (o_ne B.hu64) (de_isi (de_var 0) Z.m_isinstance Z.m_tuple) (de_isi (de_var 1) Z.m_isinstance Z.m_tuple)) (dw_or1 (dt_cmp (o_ne B.hu64) (de_isi (de_var 0) Z.m_isinstance Z.m_list) (de_isi (de_var 1) Z.m_isinstance Z.m_list)))))
  (dss_one (ds_ret de_bl))
  dss_nil)
  (dss_one (ds_ret (de_and (de_cmp (o_eq B.hu64) (de_callB c_len Z.m_len (da_cons (de_var 0) da_nil)) (de_callB c_len Z.m_len (da_cons (de_var 1) da_nil))) (de_one (de_callB (c_all rfl) Z.m_all (da_cons (de_frz (dl_comp (ow := [("_law_one", 2), ("_law_other", 3)]) rfl sc_law_same.nd (di_zip Z.m_zip (da_cons (de_var 0) (da_cons (de_var 1) da_nil))) (blkOk_by rfl) (fun _ _ _ _ _ => (dgo_tup rfl (dgso_cons (dgo_name sc_law_same.nd) (dgso_cons (dgo_name sc_law_same.nd) dgso_nil)))) (fun _ _ _ _ _ => dts_nil) (fun _ _ _ _ _ => (de_call IH (B.room.mono (by omega)) B.gd passX0 Z.g__law_same Z.F__law_same.kp Z.b__law_same (da_cons (de_var 2) (da_cons (de_var 3) da_nil)) (len_cons (len_cons len_nil)))))) da_nil)))))))
  dss_nil)
  (dss_cons (ds_if (dt_cmp o_isN (de_var 1) de_non)
  (dss_one (ds_ret (de_cmp o_isN (de_var 0) de_non)))
  dss_nil)
  (dss_cons (ds_if (dt_w (dw_or (dt_cmp (o_ne B.hu64) (de_isi (de_var 0) Z.m_isinstance Z.m_bool) (de_isi (de_var 1) Z.m_isinstance Z.m_bool)) (dw_or1 (dt_cmp (o_ne B.hu64) (de_isi (de_var 0) Z.m_isinstance Z.m_str) (de_isi (de_var 1) Z.m_isinstance Z.m_str)))))
  (dss_one (ds_ret de_bl))
  dss_nil)
  (dss_one (ds_ret (de_and (de_isi2 (de_var 0) Z.m_isinstance Z.m_int Z.m_str) (de_one (de_cmp (o_eq B.hu64) (de_var 0) (de_var 1))))))))))
theorem oklaw (Z : Tops K mg) : FnG P w K mg base 10 Z.a_law Z.d_law ["_law_script"] flaw :=
  exit_ok (fn_ok Z.F_law sclaw fun cdv A outer s H E B => (dss_cons (ds_asg (de_call (ok_law_hand Z) (B.room.mono (by decide)) B.gd B.pass Z.g__law_hand Z.F__law_hand.kp Z.b__law_hand (da_cons (de_var 0) da_nil) (len_cons len_nil)) (dg_name sclaw.nd))
  (dss_cons (ds_for B.own rfl (di_range1 Z.m_range (da_cons (de_op o_add de_int (de_call (ok_law_take Z) (B.room.mono (by decide)) B.gd B.pass Z.g__law_take Z.F__law_take.kp Z.b__law_take (da_cons (de_var 1) (da_cons de_int da_nil)) (len_cons (len_cons len_nil)))) da_nil)) (dg_name sclaw.nd)
  (dss_cons (ds_asg (de_ix (de_frz (dl_lst (da_cons de_int (da_cons de_int da_nil)))) (de_callT c_int Z.m_int (da_cons (de_cmp (o_eq B.hu64) (de_call (ok_law_take Z) (B.room.mono (by decide)) B.gd B.pass Z.g__law_take Z.F__law_take.kp Z.b__law_take (da_cons (de_var 1) (da_cons de_int da_nil)) (len_cons (len_cons len_nil))) de_int) da_nil))) (dg_name sclaw.nd))
  (dss_cons (ds_asg (de_call (ok_law_parting Z) (B.room.mono (by decide)) B.gd B.pass Z.g__law_parting Z.F__law_parting.kp Z.b__law_parting (da_cons (de_var 1) (da_cons (de_var 3) da_nil)) (len_cons (len_cons len_nil))) (dg_name sclaw.nd))
  (dss_cons (ds_asg (de_call (ok_law_hooks Z) (B.room.mono (by decide)) B.gd B.pass Z.g__law_hooks Z.F__law_hooks.kp Z.b__law_hooks (da_cons (de_var 4) da_nil) (len_cons len_nil)) (dg_name sclaw.nd))
  (dss_cons (ds_if (dt_cmp (o_ne B.hu64) (de_callB (c_sum rfl) Z.m_sum (da_cons (de_frz (dl_comp (ow := [("_law_row", 7)]) rfl sclaw.nd (di_seq (de_var 5)) (blkOk_by rfl) (fun _ _ _ _ _ => (dgo_name sclaw.nd)) (fun _ _ _ _ _ => dts_nil) (fun _ _ _ _ _ => (de_callB c_len Z.m_len (da_cons (de_var 7) da_nil))))) da_nil)) (de_callB (c_sum rfl) Z.m_sum (da_cons (de_var 4) da_nil)))
  (dss_one (ds_ret de_bl))
  dss_nil)
  (dss_one (ds_for B.own rfl (di_range1 Z.m_range (da_cons de_int da_nil)) (dg_name sclaw.nd)
  (dss_one (ds_if (dt_not (dt_bl (de_call (ok_law_same Z 8) (B.room.mono (by decide)) B.gd B.pass Z.g__law_same Z.F__law_same.kp Z.b__law_same (da_cons (de_call (okhooks Z) (B.room.mono (by decide)) B.gd B.pass Z.g_hooks Z.F_hooks.kp Z.b_hooks (da_cons (de_var 4) da_nil) (len_cons len_nil)) (da_cons (de_var 5) da_nil)) (len_cons (len_cons len_nil)))))
  (dss_one (ds_ret de_bl))
  dss_nil)))))))))
  (dss_cons (ds_for B.own rfl (di_seq (de_frz (dl_lst (da_cons (de_tup da_nil) (da_cons (de_tup (da_cons de_int da_nil)) (da_cons (de_op o_repT (de_tup (da_cons de_int da_nil)) de_int) da_nil)))))) (dg_name sclaw.nd)
  (dss_one (ds_if (dt_not (dt_bl (de_call (ok_law_same Z 8) (B.room.mono (by decide)) B.gd B.pass Z.g__law_same Z.F__law_same.kp Z.b__law_same (da_cons (de_call (okhooks Z) (B.room.mono (by decide)) B.gd B.pass Z.g_hooks Z.F_hooks.kp Z.b_hooks (da_cons (de_var 4) da_nil) (len_cons len_nil)) (da_cons (de_call (ok_law_hooks Z) (B.room.mono (by decide)) B.gd B.pass Z.g__law_hooks Z.F__law_hooks.kp Z.b__law_hooks (da_cons (de_var 4) da_nil) (len_cons len_nil)) da_nil)) (len_cons (len_cons len_nil)))))
  (dss_one (ds_ret de_bl))
  dss_nil)))
  (dss_one (ds_ret de_bl))))))
end
theorem all_mk {l : PySem.W.OpenLaw} {w : World} {K : PySem.W.Frag} {h : Heap} {mg : Str → Option Value} {fa f0 f1 f2 f3 f4 f5 f6 : Addr} (X : K.In h) (G : h.Ns mainGlobals mg) (hfa : mg "law" = some (.ref fa))
    {od0 an0 od1 an1 od2 an2 od3 an3 od4 an4 od5 an5 od6 an6 : Option Addr} {sl0 sl1 sl2 sl3 sl4 sl5 sl6 : Array (Option Value)} {oc0 kV0 dc0 pm0 cd0 ct0 oc1 kV1 dc1 pm1 cd1 ct1 oc2 kV2 dc2 pm2 cd2 ct2 oc3 kV3 dc3 pm3 cd3 ct3 oc4 kV4 dc4 pm4 cd4 ct4 oc5 kV5 dc5 pm5 cd5 ct5 oc6 kV6 dc6 pm6 cd6 ct6 : Value}
    (a0 : PySem.W.nsIn K mainGlobals "hooks" = some (some (.ref f0))) (l0 : K.lookup f0 = some ⟨oc0, od0, .func (PySem.W.fnOf "hooks" "hooks" (defArgs shooks) (defBody shooks) (defScope shooks) .none kV0 dc0 pm0 an0 cd0 ct0), sl0⟩) (c0 : PySem.W.codeIn K cd0 "hooks" = true) (k0 : PySem.W.keepIn K (.ref f0) = true)
    (a1 : PySem.W.nsIn K mainGlobals "_law_hand" = some (some (.ref f1))) (l1 : K.lookup f1 = some ⟨oc1, od1, .func (PySem.W.fnOf "_law_hand" "_law_hand" (defArgs s_law_hand) (defBody s_law_hand) (defScope s_law_hand) .none kV1 dc1 pm1 an1 cd1 ct1), sl1⟩) (c1 : PySem.W.codeIn K cd1 "_law_hand" = true) (k1 : PySem.W.keepIn K (.ref f1) = true)
    (a2 : PySem.W.nsIn K mainGlobals "_law_take" = some (some (.ref f2))) (l2 : K.lookup f2 = some ⟨oc2, od2, .func (PySem.W.fnOf "_law_take" "_law_take" (defArgs s_law_take) (defBody s_law_take) (defScope s_law_take) .none kV2 dc2 pm2 an2 cd2 ct2), sl2⟩) (c2 : PySem.W.codeIn K cd2 "_law_take" = true) (k2 : PySem.W.keepIn K (.ref f2) = true)
    (a3 : PySem.W.nsIn K mainGlobals "_law_parting" = some (some (.ref f3))) (l3 : K.lookup f3 = some ⟨oc3, od3, .func (PySem.W.fnOf "_law_parting" "_law_parting" (defArgs s_law_parting) (defBody s_law_parting) (defScope s_law_parting) .none kV3 dc3 pm3 an3 cd3 ct3), sl3⟩) (c3 : PySem.W.codeIn K cd3 "_law_parting" = true) (k3 : PySem.W.keepIn K (.ref f3) = true)
    (a4 : PySem.W.nsIn K mainGlobals "_law_hooks" = some (some (.ref f4))) (l4 : K.lookup f4 = some ⟨oc4, od4, .func (PySem.W.fnOf "_law_hooks" "_law_hooks" (defArgs s_law_hooks) (defBody s_law_hooks) (defScope s_law_hooks) .none kV4 dc4 pm4 an4 cd4 ct4), sl4⟩) (c4 : PySem.W.codeIn K cd4 "_law_hooks" = true) (k4 : PySem.W.keepIn K (.ref f4) = true)
    (a5 : PySem.W.nsIn K mainGlobals "_law_same" = some (some (.ref f5))) (l5 : K.lookup f5 = some ⟨oc5, od5, .func (PySem.W.fnOf "_law_same" "_law_same" (defArgs s_law_same) (defBody s_law_same) (defScope s_law_same) .none kV5 dc5 pm5 an5 cd5 ct5), sl5⟩) (c5 : PySem.W.codeIn K cd5 "_law_same" = true) (k5 : PySem.W.keepIn K (.ref f5) = true)
    (a6 : PySem.W.nsIn K mainGlobals "law" = some (some (.ref f6))) (l6 : K.lookup f6 = some ⟨oc6, od6, .func (PySem.W.fnOf "law" "law" (defArgs slaw) (defBody slaw) (defScope slaw) .none kV6 dc6 pm6 an6 cd6 ct6), sl6⟩) (c6 : PySem.W.codeIn K cd6 "law" = true) (k6 : PySem.W.keepIn K (.ref f6) = true)
    (z_enumerate : PySem.W.nsIn K mainGlobals "enumerate" = some none)
    (z_tuple : PySem.W.nsIn K mainGlobals "tuple" = some none)
    (z_range : PySem.W.nsIn K mainGlobals "range" = some none)
    (z_len : PySem.W.nsIn K mainGlobals "len" = some none)
    (z_abs : PySem.W.nsIn K mainGlobals "abs" = some none)
    (z_min : PySem.W.nsIn K mainGlobals "min" = some none)
    (z_sorted : PySem.W.nsIn K mainGlobals "sorted" = some none)
    (z_int : PySem.W.nsIn K mainGlobals "int" = some none)
    (z_isinstance : PySem.W.nsIn K mainGlobals "isinstance" = some none)
    (z_list : PySem.W.nsIn K mainGlobals "list" = some none)
    (z_all : PySem.W.nsIn K mainGlobals "all" = some none)
    (z_bool : PySem.W.nsIn K mainGlobals "bool" = some none)
    (z_str : PySem.W.nsIn K mainGlobals "str" = some none)
    (z_zip : PySem.W.nsIn K mainGlobals "zip" = some none)
    (z_sum : PySem.W.nsIn K mainGlobals "sum" = some none)
    : ∃ fd : FuncData, (∀ (s : Shared) (v : Value), BindsTo s fd ⟨[v], []⟩ [("_law_script", v)]) ∧ ∀ base : Heap, K.In base → base.Ns mainGlobals mg → FnG l.prog w K mg base 10 fa fd ["_law_script"] flaw := by
  have e := hfa.symm.trans (PySem.W.mg_of X G a6)
  cases e
  have F0 := fun_mk (st := shooks) l0 c0 k0
  have F1 := fun_mk (st := s_law_hand) l1 c1 k1
  have F2 := fun_mk (st := s_law_take) l2 c2 k2
  have F3 := fun_mk (st := s_law_parting) l3 c3 k3
  have F4 := fun_mk (st := s_law_hooks) l4 c4 k4
  have F5 := fun_mk (st := s_law_same) l5 c5 k5
  have F6 := fun_mk (st := slaw) l6 c6 k6
  exact ⟨_, fun s v => .of_eq rfl, fun base _ _ => oklaw (Z := {
    a_hooks := _, d_hooks := _, F_hooks := F0, g_hooks := PySem.W.mg_of X G a0, b_hooks := F0.binds (ps := ["parting"]) fun _ _ _ _ _ _ us hl => match us, hl with | [_], _ => rfl,
    a__law_hand := _, d__law_hand := _, F__law_hand := F1, g__law_hand := PySem.W.mg_of X G a1, b__law_hand := F1.binds (ps := ["_law_script"]) fun _ _ _ _ _ _ us hl => match us, hl with | [_], _ => rfl,
    a__law_take := _, d__law_take := _, F__law_take := F2, g__law_take := PySem.W.mg_of X G a2, b__law_take := F2.binds (ps := ["_law_state", "_law_many"]) fun _ _ _ _ _ _ us hl => match us, hl with | [_, _], _ => rfl,
    a__law_parting := _, d__law_parting := _, F__law_parting := F3, g__law_parting := PySem.W.mg_of X G a3, b__law_parting := F3.binds (ps := ["_law_state", "_law_most"]) fun _ _ _ _ _ _ us hl => match us, hl with | [_, _], _ => rfl,
    a__law_hooks := _, d__law_hooks := _, F__law_hooks := F4, g__law_hooks := PySem.W.mg_of X G a4, b__law_hooks := F4.binds (ps := ["_law_parting_here"]) fun _ _ _ _ _ _ us hl => match us, hl with | [_], _ => rfl,
    a__law_same := _, d__law_same := _, F__law_same := F5, g__law_same := PySem.W.mg_of X G a5, b__law_same := F5.binds (ps := ["_law_found", "_law_due"]) fun _ _ _ _ _ _ us hl => match us, hl with | [_, _], _ => rfl,
    a_law := _, d_law := _, F_law := F6, g_law := PySem.W.mg_of X G a6, b_law := F6.binds (ps := ["_law_script"]) fun _ _ _ _ _ _ us hl => match us, hl with | [_], _ => rfl,
    m_enumerate := PySem.W.mg_none_of X G z_enumerate,
    m_tuple := PySem.W.mg_none_of X G z_tuple,
    m_range := PySem.W.mg_none_of X G z_range,
    m_len := PySem.W.mg_none_of X G z_len,
    m_abs := PySem.W.mg_none_of X G z_abs,
    m_min := PySem.W.mg_none_of X G z_min,
    m_sorted := PySem.W.mg_none_of X G z_sorted,
    m_int := PySem.W.mg_none_of X G z_int,
    m_isinstance := PySem.W.mg_none_of X G z_isinstance,
    m_list := PySem.W.mg_none_of X G z_list,
    m_all := PySem.W.mg_none_of X G z_all,
    m_bool := PySem.W.mg_none_of X G z_bool,
    m_str := PySem.W.mg_none_of X G z_str,
    m_zip := PySem.W.mg_none_of X G z_zip,
    m_sum := PySem.W.mg_none_of X G z_sum })⟩
end Lk38

set_option Elab.async false
set_option linter.all false
set_option maxRecDepth 100000
set_option maxHeartbeats 4000000
namespace Lk38
open PySem PySem.Spec PyProof.Rows L2 Vi

/-! ### the state -/
def Hd (c : Int) (m : M) (n : Nat) : Prop := ∃ g a b : Int, m[n]? = some (.lst [.int g, .int a, .int b]) ∧ 0 ≤ a ∧ a < 2305843009213693951 ∧ 0 ≤ b ∧ b ≤ c
theorem take_ok {c : Int} {m : M} {n : Nat} (h : Hd c m n) (k : Int) (hk : 0 < k) (hk2 : k < 2 ^ 100) (hc : c < 2 ^ 40) : ∃ (r : Int) (xs : List D), f_law_take [.ref n, .int k] m = .ok (.int r) (m.set n (.lst xs)) ∧ 0 ≤ r ∧ r < k ∧ noRefs xs = true ∧ Hd (c + 1) (m.set n (.lst xs)) n := by
  obtain ⟨g, a, b, hm, a0, a1, b0, b1⟩ := h
  have hn : n < m.length := (List.getElem?_eq_some_iff.mp hm).1
  have i0 : gIx (.ref n) (.int 0) m = .ok (.int g) m := v_ixR (i := 0) hm rfl
  have i1 : gIx (.ref n) (.int 1) m = .ok (.int a) m := v_ixR (i := 1) hm rfl
  have i2 : gIx (.ref n) (.int 2) m = .ok (.int b) m := v_ixR (i := 2) hm rfl
  have set : ∀ xs : List D, (m.set n (.lst xs))[n]? = some (.lst xs) := fun xs => get_set hm
  by_cases hg : 0 < g
  · have s0 : setIt (.ref n) (.int 0) (.int (g / k)) m = .ok () (m.set n (.lst [.int (g / k), .int a, .int b])) := v_setR (i := 0) hm (by simp)
    refine ⟨g % k, [.int (g / k), .int a, .int b], exit_set ?_ rfl rfl, Int.emod_nonneg _ (by omega), Int.emod_lt_of_pos _ hk, rfl, g / k, a, b, set _, a0, a1, b0, by omega⟩
    unfold runDef
    simp (disch := omega) only [f_law_take_4, f_law_take_3, f_law_take_2, f_law_take_1, f_law_take_0a2, f_law_take_0a1, f_law_take_0a0, f_law_take_0, x_var, x_c, x_bin, x_binT, x_ofT, x_seq, x_ret, x_asg, x_ifS, x_if, x_nm, x_sb, x_nil, x_cons, x_tup, x_lst, x_frz, x_new, x_call, x_callL, x_par, x_pass, x_break, x_cont, x_drop, x_un, x_and, x_or, x_not, x_for, x_wh, x_tb, x_ys, x_hold, x_app, x_iR1, x_iR2, x_iR3, x_iS, x_aug, x_tp, x_gsCons, x_gsNil, x_comp, x_some, x_no, x_andV, x_orV, x_notV, x_catL, x_repL, x_rev, rep_one, asLst_lst, asList_lst, fixS_lst, fixS_tup, Vi.v_catT, Vi.v_mulZ, Vi.v_div, Vi.v_mod, Vi.v_pow, Vi.v_add, Vi.v_sub, Vi.v_lt, Vi.v_le, Vi.v_gt, Vi.v_ge, Vi.v_int, Vi.v_intB, Vi.v_abs, Vi.v_max2, Vi.v_min2, Vi.v_neg, Vi.v_eqI, Vi.v_neI, Vi.v_eqT, Vi.v_neT, Vi.v_eqL, Vi.v_eqS, Vi.v_neS, Vi.v_R1, Vi.v_R2, Vi.v_tupL, Vi.v_tupT, Vi.v_lenL, Vi.v_lenT, Vi.v_lenF, y_ok, y_toO, y_nx, y_rt, y_bk, y_ct, List.cons_append, List.nil_append, List.append_nil, List.getElem?_cons_zero, List.getElem?_cons_succ, List.set_cons_zero, List.set_cons_succ, List.length_cons, List.length_nil, List.map_cons, List.map_nil, List.replicate_succ, List.replicate_zero, Nat.reduceSub, Nat.reduceAdd, Nat.reduceLeDiff, Int.reduceToNat, Int.reducePow, Int.reduceMul, Int.reduceEq, Int.reduceLT, Int.reduceLE, Int.reduceGT, Int.reduceNeg, Int.reduceAdd, Int.reduceSub, Int.reduceDiv, Int.reduceMod, Nat.reduceMul, Nat.reduceEqDiff, lim_val, true_and, and_true, and_self, decide_eq_true_eq, big_val, if_true, if_false, ite_true, ite_false, reduceIte, i0, hg, s0]
  · have s2 : setIt (.ref n) (.int 2) (.int (b + 1)) m = .ok () (m.set n (.lst [.int g, .int a, .int (b + 1)])) := v_setR (i := 2) hm (by simp)
    have j1 : gIx (.ref n) (.int 1) (m.set n (.lst [.int g, .int a, .int (b + 1)])) = .ok (.int a) _ := v_ixR (i := 1) (set _) rfl
    have j2 : gIx (.ref n) (.int 2) (m.set n (.lst [.int g, .int a, .int (b + 1)])) = .ok (.int (b + 1)) _ := v_ixR (i := 2) (set _) rfl
    have q1 : 0 ≤ 65537 * (b + 1) * (b + 1) := Int.mul_nonneg (by omega) (by omega)
    have q2 : 65537 * (b + 1) * (b + 1) ≤ (65537 * 2 ^ 40) * 2 ^ 40 := Int.mul_le_mul (by omega) (by omega) (by omega) (by omega)
    obtain ⟨z, ez⟩ : ∃ z : Int, z = (a + 65537 * (b + 1) * (b + 1) + 11) * 48271 % 2305843009213693921 := ⟨_, rfl⟩
    have z0 : 0 ≤ z := by omega
    have z1 : z < 2305843009213693921 := by omega
    obtain ⟨y, ey⟩ : ∃ y : Int, y = z * (z % 1000003 + 99991 * (b + 1)) % 2305843009213693907 := ⟨_, rfl⟩
    have y0 : 0 ≤ y := by
      rw [ey]; exact Int.emod_nonneg _ (by omega)
    refine ⟨(y / 97 + y / 1000033) % k, [.int g, .int a, .int (b + 1)], exit_set ?_ rfl rfl, Int.emod_nonneg _ (by omega), Int.emod_lt_of_pos _ hk, rfl, g, a, b + 1, set _, a0, a1, by omega, by omega⟩
    unfold runDef
    simp (disch := omega) only [f_law_take_4, f_law_take_3, f_law_take_2, f_law_take_1, f_law_take_0a2, f_law_take_0a1, f_law_take_0a0, f_law_take_0, x_var, x_c, x_bin, x_binT, x_ofT, x_seq, x_ret, x_asg, x_ifS, x_if, x_nm, x_sb, x_nil, x_cons, x_tup, x_lst, x_frz, x_new, x_call, x_callL, x_par, x_pass, x_break, x_cont, x_drop, x_un, x_and, x_or, x_not, x_for, x_wh, x_tb, x_ys, x_hold, x_app, x_iR1, x_iR2, x_iR3, x_iS, x_aug, x_tp, x_gsCons, x_gsNil, x_comp, x_some, x_no, x_andV, x_orV, x_notV, x_catL, x_repL, x_rev, rep_one, asLst_lst, asList_lst, fixS_lst, fixS_tup, Vi.v_catT, Vi.v_mulZ, Vi.v_div, Vi.v_mod, Vi.v_pow, Vi.v_add, Vi.v_sub, Vi.v_lt, Vi.v_le, Vi.v_gt, Vi.v_ge, Vi.v_int, Vi.v_intB, Vi.v_abs, Vi.v_max2, Vi.v_min2, Vi.v_neg, Vi.v_eqI, Vi.v_neI, Vi.v_eqT, Vi.v_neT, Vi.v_eqL, Vi.v_eqS, Vi.v_neS, Vi.v_R1, Vi.v_R2, Vi.v_tupL, Vi.v_tupT, Vi.v_lenL, Vi.v_lenT, Vi.v_lenF, y_ok, y_toO, y_nx, y_rt, y_bk, y_ct, List.cons_append, List.nil_append, List.append_nil, List.getElem?_cons_zero, List.getElem?_cons_succ, List.set_cons_zero, List.set_cons_succ, List.length_cons, List.length_nil, List.map_cons, List.map_nil, List.replicate_succ, List.replicate_zero, Nat.reduceSub, Nat.reduceAdd, Nat.reduceLeDiff, Int.reduceToNat, Int.reducePow, Int.reduceMul, Int.reduceEq, Int.reduceLT, Int.reduceLE, Int.reduceGT, Int.reduceNeg, Int.reduceAdd, Int.reduceSub, Int.reduceDiv, Int.reduceMod, Nat.reduceMul, Nat.reduceEqDiff, lim_val, true_and, and_true, and_self, decide_eq_true_eq, big_val, if_true, if_false, ite_true, ite_false, reduceIte, i0, i2, hg, s2, j1, j2]
    rw [← ez, ← ey]
/-! ### partings -/
theorem eq_none {m : M} {n : Nat} {zs : List Int} (h : m[n]? = some (.lst (iL1 zs))) : gEq (.ref n) (.lst []) m = .ok (decide (zs = [])) m := by
  have e1 : toPyR (.ref n) m = some (.list (zs.map PyData.int)) := by
    simp only [toPyR, h, toPys_ints, Option.map_some]
  have e2 : toPyR (.lst []) m = some (.list (([] : List Int).map PyData.int)) := rfl
  simp only [gEq, gEqD, e1, e2, shaped_lstI, if_true, PyData.eqv, eqv_ints]
structure Pt (most : Int) (zs : List Int) : Prop where
  pos : ∀ z ∈ zs, 1 ≤ z
  sum : zs.sum ≤ most
theorem get_app {m : M} {c c' : Cell} {n : Nat} (h : m[n]? = some c) : (m ++ [c'])[n]? = some c := by
  rw [List.getElem?_append_left (List.getElem?_eq_some_iff.mp h).1, h]
theorem hd_app {c : Int} {m : M} {n : Nat} {x : Cell} (h : Hd c m n) : Hd c (m ++ [x]) n := by
  obtain ⟨g, a, b, h1, h2⟩ := h
  exact ⟨g, a, b, get_app h1, h2⟩
theorem hd_mono {c d : Int} {m : M} {n : Nat} (h : Hd c m n) (hd : c ≤ d) : Hd d m n := by
  obtain ⟨g, a, b, h1, h2, h3, h4, h5⟩ := h
  exact ⟨g, a, b, h1, h2, h3, h4, by omega⟩
theorem set_app {m : M} {c c' : Cell} {n : Nat} (h : n < m.length) : (m ++ [c']).set n c = m.set n c ++ [c'] := by
  rw [List.set_append_left _ _ h]
theorem sum_snoc (zs : List Int) (p : Int) : (zs ++ [p]).sum = zs.sum + p := by simp
theorem body_ok {c : Int} {m : M} {n : Nat} (h : Hd c m n) (hc : c < 2 ^ 39) (most left way top : Int) (zs : List Int) (y6 : Option D) (hz : zs.length < 1000) (l0 : 0 < left) (l1 : left < 1000) (t0 : 0 < top) :
    ∃ (p top' : Int) (us : List D), 1 ≤ p ∧ p ≤ left ∧ noRefs us = true ∧ Hd (c + 1) (m.set n (.lst us)) n ∧
      (sSeq f_law_parting_3_0 (sSeq f_law_parting_3_1 (sSeq f_law_parting_3_2 (sSeq f_law_parting_3_3 f_law_parting_3_4)))) [some (.ref n), some (.int most), some (.int left), some (.int way), some (.int top), some (.ref m.length), y6] (m ++ [.lst (iL1 zs)]) =
        .nx [some (.ref n), some (.int most), some (.int (left - p)), some (.int way), some (.int top'), some (.ref m.length), some (.int p)] (m.set n (.lst us) ++ [.lst (iL1 (zs ++ [p]))]) := by
  obtain ⟨hg, ha, hb, hm, hrest⟩ := id h
  have hn : n < m.length := (List.getElem?_eq_some_iff.mp hm).1
  obtain ⟨q, eq⟩ : ∃ q : Int, q = if left < top then left else top := ⟨_, rfl⟩
  have q0 : 1 ≤ q := by rw [eq]; split <;> omega
  have q1 : q ≤ left := by rw [eq]; split <;> omega
  have fin : ∀ (p : Int) (us : List D), 1 ≤ p → (m.set n (.lst us)).length = m.length → (sSeq f_law_parting_3_2 (sSeq f_law_parting_3_3 f_law_parting_3_4)) [some (.ref n), some (.int most), some (.int left), some (.int way), some (.int top), some (.ref m.length), some (.int p)] (m.set n (.lst us) ++ [.lst (iL1 zs)]) =
        .nx [some (.ref n), some (.int most), some (.int (left - p)), some (.int way), some (.int (p - if way = 4 then 1 else 0)), some (.ref m.length), some (.int p)] (m.set n (.lst us) ++ [.lst (iL1 (zs ++ [p]))]) := by
    intro p us hp hl
    have g1 : (m.set n (.lst us) ++ [.lst (iL1 zs)])[m.length]? = some (.lst (iL1 zs)) := by
      have := get_end (m.set n (.lst us)) (.lst (iL1 zs))
      rwa [hl] at this
    have g2 : List.set (m.set n (.lst us) ++ [Cell.lst (iL1 zs)]) m.length (Cell.lst (iL1 zs ++ [D.int p])) = m.set n (.lst us) ++ [Cell.lst (iL1 (zs ++ [p]))] := by
      have := set_end (m.set n (.lst us)) (Cell.lst (iL1 zs)) (Cell.lst (iL1 zs ++ [D.int p]))
      rw [hl] at this
      rw [this]
      simp [iL1]
    have hz2 : (iL1 zs).length < 16777216 := by rw [List.length_map]; omega
    simp only [f_law_parting_3_2, f_law_parting_3_3, f_law_parting_3_4, x_var, x_c, x_bin, x_binT, x_ofT, x_seq, x_ret, x_asg, x_ifS, x_if, x_nm, x_sb, x_nil, x_cons, x_tup, x_lst, x_frz, x_new, x_call, x_callL, x_par, x_pass, x_break, x_cont, x_drop, x_un, x_and, x_or, x_not, x_for, x_wh, x_tb, x_ys, x_hold, x_app, x_iR1, x_iR2, x_iR3, x_iS, x_aug, x_tp, x_gsCons, x_gsNil, x_comp, x_some, x_no, x_andV, x_orV, x_notV, x_catL, x_repL, x_rev, rep_one, asLst_lst, asList_lst, fixS_lst, fixS_tup, Vi.v_catT, Vi.v_mulZ, Vi.v_div, Vi.v_mod, Vi.v_pow, Vi.v_add, Vi.v_sub, Vi.v_lt, Vi.v_le, Vi.v_gt, Vi.v_ge, Vi.v_int, Vi.v_intB, Vi.v_abs, Vi.v_max2, Vi.v_min2, Vi.v_neg, Vi.v_eqI, Vi.v_neI, Vi.v_eqT, Vi.v_neT, Vi.v_eqL, Vi.v_eqS, Vi.v_neS, Vi.v_R1, Vi.v_R2, Vi.v_tupL, Vi.v_tupT, Vi.v_lenL, Vi.v_lenT, Vi.v_lenF, y_ok, y_toO, y_nx, y_rt, y_bk, y_ct, List.cons_append, List.nil_append, List.append_nil, List.getElem?_cons_zero, List.getElem?_cons_succ, List.set_cons_zero, List.set_cons_succ, List.length_cons, List.length_nil, List.map_cons, List.map_nil, List.replicate_succ, List.replicate_zero, Nat.reduceSub, Nat.reduceAdd, Nat.reduceLeDiff, Int.reduceToNat, Int.reducePow, Int.reduceMul, Int.reduceEq, Int.reduceLT, Int.reduceLE, Int.reduceGT, Int.reduceNeg, Int.reduceAdd, Int.reduceSub, Int.reduceDiv, Int.reduceMod, Nat.reduceMul, Nat.reduceEqDiff, lim_val, true_and, and_true, and_self, decide_eq_true_eq, big_val, if_true, if_false, ite_true, ite_false, reduceIte, g1, hz2, g2]
  have en := eq_none (m := m ++ [.lst (iL1 zs)]) (n := m.length) (zs := zs) (get_end _ _)
  by_cases draw : (way ≠ 5) ∨ zs = []
  · obtain ⟨r, us, e1, r0, r1, e2, e3⟩ := take_ok (hd_app (x := .lst (iL1 zs)) h) q (by omega) (by omega) (by omega)
    rw [set_app hn] at e1 e3
    obtain ⟨g', a', b', f1, f2⟩ := e3
    have f3 : (m.set n (.lst us))[n]? = some (.lst [.int g', .int a', .int b']) := by
      rw [List.getElem?_append_left (by rw [List.length_set]; exact hn)] at f1
      exact f1
    refine ⟨1 + r, (1 + r) - (if way = 4 then 1 else 0), us, by omega, by omega, e2, ⟨g', a', b', f3, f2⟩, ?_⟩
    rw [← fin (1 + r) us (by omega) (by simp)]
    have t1 : (sOr (sBinT gNe (sVar 3) (sC (.int 5))) (sBinT gEq (sVar 5) (sFrz (sLst sNil)))) [some (.ref n), some (.int most), some (.int left), some (.int way), some (.int top), some (.ref m.length), some (.int q)] (m ++ [.lst (iL1 zs)]) = .ok true (m ++ [.lst (iL1 zs)]) := by
      by_cases w5 : way = 5
      · have hz0 : zs = [] := draw.resolve_left fun z => z w5
        have en' : gEq (.ref m.length) (.lst []) (m ++ [Cell.lst (iL1 zs)]) = .ok true (m ++ [Cell.lst (iL1 zs)]) := by rw [en, decide_eq_true hz0]
        have h0 : (0 : Nat) ≤ 16777216 := by decide
        simp only [x_var, x_c, x_bin, x_binT, x_ofT, x_seq, x_ret, x_asg, x_ifS, x_if, x_nm, x_sb, x_nil, x_cons, x_tup, x_lst, x_frz, x_new, x_call, x_callL, x_par, x_pass, x_break, x_cont, x_drop, x_un, x_and, x_or, x_not, x_for, x_wh, x_tb, x_ys, x_hold, x_app, x_iR1, x_iR2, x_iR3, x_iS, x_aug, x_tp, x_gsCons, x_gsNil, x_comp, x_some, x_no, x_andV, x_orV, x_notV, x_catL, x_repL, x_rev, rep_one, asLst_lst, asList_lst, fixS_lst, fixS_tup, Vi.v_catT, Vi.v_mulZ, Vi.v_div, Vi.v_mod, Vi.v_pow, Vi.v_add, Vi.v_sub, Vi.v_lt, Vi.v_le, Vi.v_gt, Vi.v_ge, Vi.v_int, Vi.v_intB, Vi.v_abs, Vi.v_max2, Vi.v_min2, Vi.v_neg, Vi.v_eqI, Vi.v_neI, Vi.v_eqT, Vi.v_neT, Vi.v_eqL, Vi.v_eqS, Vi.v_neS, Vi.v_R1, Vi.v_R2, Vi.v_tupL, Vi.v_tupT, Vi.v_lenL, Vi.v_lenT, Vi.v_lenF, y_ok, y_toO, y_nx, y_rt, y_bk, y_ct, List.cons_append, List.nil_append, List.append_nil, List.getElem?_cons_zero, List.getElem?_cons_succ, List.set_cons_zero, List.set_cons_succ, List.length_cons, List.length_nil, List.map_cons, List.map_nil, List.replicate_succ, List.replicate_zero, Nat.reduceSub, Nat.reduceAdd, Nat.reduceLeDiff, Int.reduceToNat, Int.reducePow, Int.reduceMul, Int.reduceEq, Int.reduceLT, Int.reduceLE, Int.reduceGT, Int.reduceNeg, Int.reduceAdd, Int.reduceSub, Int.reduceDiv, Int.reduceMod, Nat.reduceMul, Nat.reduceEqDiff, lim_val, true_and, and_true, and_self, decide_eq_true_eq, big_val, if_true, if_false, ite_true, ite_false, reduceIte, en', w5, h0, decide_true, Bool.not_true, Bool.false_eq_true]
      · simp only [x_var, x_c, x_bin, x_binT, x_ofT, x_seq, x_ret, x_asg, x_ifS, x_if, x_nm, x_sb, x_nil, x_cons, x_tup, x_lst, x_frz, x_new, x_call, x_callL, x_par, x_pass, x_break, x_cont, x_drop, x_un, x_and, x_or, x_not, x_for, x_wh, x_tb, x_ys, x_hold, x_app, x_iR1, x_iR2, x_iR3, x_iS, x_aug, x_tp, x_gsCons, x_gsNil, x_comp, x_some, x_no, x_andV, x_orV, x_notV, x_catL, x_repL, x_rev, rep_one, asLst_lst, asList_lst, fixS_lst, fixS_tup, Vi.v_catT, Vi.v_mulZ, Vi.v_div, Vi.v_mod, Vi.v_pow, Vi.v_add, Vi.v_sub, Vi.v_lt, Vi.v_le, Vi.v_gt, Vi.v_ge, Vi.v_int, Vi.v_intB, Vi.v_abs, Vi.v_max2, Vi.v_min2, Vi.v_neg, Vi.v_eqI, Vi.v_neI, Vi.v_eqT, Vi.v_neT, Vi.v_eqL, Vi.v_eqS, Vi.v_neS, Vi.v_R1, Vi.v_R2, Vi.v_tupL, Vi.v_tupT, Vi.v_lenL, Vi.v_lenT, Vi.v_lenF, y_ok, y_toO, y_nx, y_rt, y_bk, y_ct, List.cons_append, List.nil_append, List.append_nil, List.getElem?_cons_zero, List.getElem?_cons_succ, List.set_cons_zero, List.set_cons_succ, List.length_cons, List.length_nil, List.map_cons, List.map_nil, List.replicate_succ, List.replicate_zero, Nat.reduceSub, Nat.reduceAdd, Nat.reduceLeDiff, Int.reduceToNat, Int.reducePow, Int.reduceMul, Int.reduceEq, Int.reduceLT, Int.reduceLE, Int.reduceGT, Int.reduceNeg, Int.reduceAdd, Int.reduceSub, Int.reduceDiv, Int.reduceMod, Nat.reduceMul, Nat.reduceEqDiff, lim_val, true_and, and_true, and_self, decide_eq_true_eq, big_val, if_true, if_false, ite_true, ite_false, reduceIte, w5, decide_false, Bool.not_false]
    have s0 : f_law_parting_3_0 [some (.ref n), some (.int most), some (.int left), some (.int way), some (.int top), some (.ref m.length), y6] (m ++ [.lst (iL1 zs)]) = .nx [some (.ref n), some (.int most), some (.int left), some (.int way), some (.int top), some (.ref m.length), some (.int q)] (m ++ [.lst (iL1 zs)]) := by
      simp only [f_law_parting_3_0, x_var, x_c, x_bin, x_binT, x_ofT, x_seq, x_ret, x_asg, x_ifS, x_if, x_nm, x_sb, x_nil, x_cons, x_tup, x_lst, x_frz, x_new, x_call, x_callL, x_par, x_pass, x_break, x_cont, x_drop, x_un, x_and, x_or, x_not, x_for, x_wh, x_tb, x_ys, x_hold, x_app, x_iR1, x_iR2, x_iR3, x_iS, x_aug, x_tp, x_gsCons, x_gsNil, x_comp, x_some, x_no, x_andV, x_orV, x_notV, x_catL, x_repL, x_rev, rep_one, asLst_lst, asList_lst, fixS_lst, fixS_tup, Vi.v_catT, Vi.v_mulZ, Vi.v_div, Vi.v_mod, Vi.v_pow, Vi.v_add, Vi.v_sub, Vi.v_lt, Vi.v_le, Vi.v_gt, Vi.v_ge, Vi.v_int, Vi.v_intB, Vi.v_abs, Vi.v_max2, Vi.v_min2, Vi.v_neg, Vi.v_eqI, Vi.v_neI, Vi.v_eqT, Vi.v_neT, Vi.v_eqL, Vi.v_eqS, Vi.v_neS, Vi.v_R1, Vi.v_R2, Vi.v_tupL, Vi.v_tupT, Vi.v_lenL, Vi.v_lenT, Vi.v_lenF, y_ok, y_toO, y_nx, y_rt, y_bk, y_ct, List.cons_append, List.nil_append, List.append_nil, List.getElem?_cons_zero, List.getElem?_cons_succ, List.set_cons_zero, List.set_cons_succ, List.length_cons, List.length_nil, List.map_cons, List.map_nil, List.replicate_succ, List.replicate_zero, Nat.reduceSub, Nat.reduceAdd, Nat.reduceLeDiff, Int.reduceToNat, Int.reducePow, Int.reduceMul, Int.reduceEq, Int.reduceLT, Int.reduceLE, Int.reduceGT, Int.reduceNeg, Int.reduceAdd, Int.reduceSub, Int.reduceDiv, Int.reduceMod, Nat.reduceMul, Nat.reduceEqDiff, lim_val, true_and, and_true, and_self, decide_eq_true_eq, big_val, if_true, if_false, ite_true, ite_false, reduceIte, ← eq]
    have s1 : f_law_parting_3_1 [some (.ref n), some (.int most), some (.int left), some (.int way), some (.int top), some (.ref m.length), some (.int q)] (m ++ [.lst (iL1 zs)]) = .nx [some (.ref n), some (.int most), some (.int left), some (.int way), some (.int top), some (.ref m.length), some (.int (1 + r))] (m.set n (.lst us) ++ [.lst (iL1 zs)]) := by
      unfold f_law_parting_3_1
      rw [x_ifS, t1]
      simp only [f_law_parting_3_1a0, x_var, x_c, x_bin, x_binT, x_ofT, x_seq, x_ret, x_asg, x_ifS, x_if, x_nm, x_sb, x_nil, x_cons, x_tup, x_lst, x_frz, x_new, x_call, x_callL, x_par, x_pass, x_break, x_cont, x_drop, x_un, x_and, x_or, x_not, x_for, x_wh, x_tb, x_ys, x_hold, x_app, x_iR1, x_iR2, x_iR3, x_iS, x_aug, x_tp, x_gsCons, x_gsNil, x_comp, x_some, x_no, x_andV, x_orV, x_notV, x_catL, x_repL, x_rev, rep_one, asLst_lst, asList_lst, fixS_lst, fixS_tup, Vi.v_catT, Vi.v_mulZ, Vi.v_div, Vi.v_mod, Vi.v_pow, Vi.v_add, Vi.v_sub, Vi.v_lt, Vi.v_le, Vi.v_gt, Vi.v_ge, Vi.v_int, Vi.v_intB, Vi.v_abs, Vi.v_max2, Vi.v_min2, Vi.v_neg, Vi.v_eqI, Vi.v_neI, Vi.v_eqT, Vi.v_neT, Vi.v_eqL, Vi.v_eqS, Vi.v_neS, Vi.v_R1, Vi.v_R2, Vi.v_tupL, Vi.v_tupT, Vi.v_lenL, Vi.v_lenT, Vi.v_lenF, y_ok, y_toO, y_nx, y_rt, y_bk, y_ct, List.cons_append, List.nil_append, List.append_nil, List.getElem?_cons_zero, List.getElem?_cons_succ, List.set_cons_zero, List.set_cons_succ, List.length_cons, List.length_nil, List.map_cons, List.map_nil, List.replicate_succ, List.replicate_zero, Nat.reduceSub, Nat.reduceAdd, Nat.reduceLeDiff, Int.reduceToNat, Int.reducePow, Int.reduceMul, Int.reduceEq, Int.reduceLT, Int.reduceLE, Int.reduceGT, Int.reduceNeg, Int.reduceAdd, Int.reduceSub, Int.reduceDiv, Int.reduceMod, Nat.reduceMul, Nat.reduceEqDiff, lim_val, true_and, and_true, and_self, decide_eq_true_eq, big_val, if_true, if_false, ite_true, ite_false, reduceIte, e1]
    rw [x_seq _ _ f_law_parting_3_0, s0, y_nx, x_seq _ _ f_law_parting_3_1, s1, y_nx]
  · have hself := set_self hm
    have w5 : way = 5 := Classical.not_not.mp fun z => draw (.inl z)
    have hz0 : zs ≠ [] := fun z => draw (.inr z)
    refine ⟨q, q - (if way = 4 then 1 else 0), [.int hg, .int ha, .int hb], q0, q1, rfl, by rw [hself]; exact hd_mono h (by omega), ?_⟩
    rw [← fin q _ q0 (by simp)]
    rw [hself]
    have s0 : f_law_parting_3_0 [some (.ref n), some (.int most), some (.int left), some (.int way), some (.int top), some (.ref m.length), y6] (m ++ [.lst (iL1 zs)]) = .nx [some (.ref n), some (.int most), some (.int left), some (.int way), some (.int top), some (.ref m.length), some (.int q)] (m ++ [.lst (iL1 zs)]) := by
      simp only [f_law_parting_3_0, x_var, x_c, x_bin, x_binT, x_ofT, x_seq, x_ret, x_asg, x_ifS, x_if, x_nm, x_sb, x_nil, x_cons, x_tup, x_lst, x_frz, x_new, x_call, x_callL, x_par, x_pass, x_break, x_cont, x_drop, x_un, x_and, x_or, x_not, x_for, x_wh, x_tb, x_ys, x_hold, x_app, x_iR1, x_iR2, x_iR3, x_iS, x_aug, x_tp, x_gsCons, x_gsNil, x_comp, x_some, x_no, x_andV, x_orV, x_notV, x_catL, x_repL, x_rev, rep_one, asLst_lst, asList_lst, fixS_lst, fixS_tup, Vi.v_catT, Vi.v_mulZ, Vi.v_div, Vi.v_mod, Vi.v_pow, Vi.v_add, Vi.v_sub, Vi.v_lt, Vi.v_le, Vi.v_gt, Vi.v_ge, Vi.v_int, Vi.v_intB, Vi.v_abs, Vi.v_max2, Vi.v_min2, Vi.v_neg, Vi.v_eqI, Vi.v_neI, Vi.v_eqT, Vi.v_neT, Vi.v_eqL, Vi.v_eqS, Vi.v_neS, Vi.v_R1, Vi.v_R2, Vi.v_tupL, Vi.v_tupT, Vi.v_lenL, Vi.v_lenT, Vi.v_lenF, y_ok, y_toO, y_nx, y_rt, y_bk, y_ct, List.cons_append, List.nil_append, List.append_nil, List.getElem?_cons_zero, List.getElem?_cons_succ, List.set_cons_zero, List.set_cons_succ, List.length_cons, List.length_nil, List.map_cons, List.map_nil, List.replicate_succ, List.replicate_zero, Nat.reduceSub, Nat.reduceAdd, Nat.reduceLeDiff, Int.reduceToNat, Int.reducePow, Int.reduceMul, Int.reduceEq, Int.reduceLT, Int.reduceLE, Int.reduceGT, Int.reduceNeg, Int.reduceAdd, Int.reduceSub, Int.reduceDiv, Int.reduceMod, Nat.reduceMul, Nat.reduceEqDiff, lim_val, true_and, and_true, and_self, decide_eq_true_eq, big_val, if_true, if_false, ite_true, ite_false, reduceIte, ← eq]
    have s1 : f_law_parting_3_1 [some (.ref n), some (.int most), some (.int left), some (.int way), some (.int top), some (.ref m.length), some (.int q)] (m ++ [.lst (iL1 zs)]) = .nx [some (.ref n), some (.int most), some (.int left), some (.int way), some (.int top), some (.ref m.length), some (.int q)] (m ++ [.lst (iL1 zs)]) := by
      have h0 : (0 : Nat) ≤ 16777216 := by decide
      simp only [f_law_parting_3_1, x_var, x_c, x_bin, x_binT, x_ofT, x_seq, x_ret, x_asg, x_ifS, x_if, x_nm, x_sb, x_nil, x_cons, x_tup, x_lst, x_frz, x_new, x_call, x_callL, x_par, x_pass, x_break, x_cont, x_drop, x_un, x_and, x_or, x_not, x_for, x_wh, x_tb, x_ys, x_hold, x_app, x_iR1, x_iR2, x_iR3, x_iS, x_aug, x_tp, x_gsCons, x_gsNil, x_comp, x_some, x_no, x_andV, x_orV, x_notV, x_catL, x_repL, x_rev, rep_one, asLst_lst, asList_lst, fixS_lst, fixS_tup, Vi.v_catT, Vi.v_mulZ, Vi.v_div, Vi.v_mod, Vi.v_pow, Vi.v_add, Vi.v_sub, Vi.v_lt, Vi.v_le, Vi.v_gt, Vi.v_ge, Vi.v_int, Vi.v_intB, Vi.v_abs, Vi.v_max2, Vi.v_min2, Vi.v_neg, Vi.v_eqI, Vi.v_neI, Vi.v_eqT, Vi.v_neT, Vi.v_eqL, Vi.v_eqS, Vi.v_neS, Vi.v_R1, Vi.v_R2, Vi.v_tupL, Vi.v_tupT, Vi.v_lenL, Vi.v_lenT, Vi.v_lenF, y_ok, y_toO, y_nx, y_rt, y_bk, y_ct, List.cons_append, List.nil_append, List.append_nil, List.getElem?_cons_zero, List.getElem?_cons_succ, List.set_cons_zero, List.set_cons_succ, List.length_cons, List.length_nil, List.map_cons, List.map_nil, List.replicate_succ, List.replicate_zero, Nat.reduceSub, Nat.reduceAdd, Nat.reduceLeDiff, Int.reduceToNat, Int.reducePow, Int.reduceMul, Int.reduceEq, Int.reduceLT, Int.reduceLE, Int.reduceGT, Int.reduceNeg, Int.reduceAdd, Int.reduceSub, Int.reduceDiv, Int.reduceMod, Nat.reduceMul, Nat.reduceEqDiff, lim_val, true_and, and_true, and_self, decide_eq_true_eq, big_val, if_true, if_false, ite_true, ite_false, reduceIte, h0, en, w5, hz0, decide_false, decide_true, Bool.not_true, Bool.false_eq_true]
    rw [x_seq _ _ f_law_parting_3_0, s0, y_nx, x_seq _ _ f_law_parting_3_1, s1, y_nx]
end Lk38

set_option Elab.async false
set_option linter.all false
set_option maxRecDepth 100000
set_option maxHeartbeats 4000000
namespace Lk38
open PySem PySem.Spec PyProof.Rows L2 Vi

theorem sum_ge : ∀ zs : List Int, (∀ z ∈ zs, 1 ≤ z) → (zs.length : Int) ≤ zs.sum
  | [], _ => by simp
  | z :: zs, h => by
    have := h z (List.mem_cons_self ..)
    have := sum_ge zs fun y hy => h y (List.mem_cons_of_mem _ hy)
    simp only [List.length_cons, List.sum_cons]; omega
theorem perm_sum {a b : List Int} (h : a.Perm b) : a.sum = b.sum := by
  induction h with
  | nil => rfl
  | cons x _ ih => simp [ih]
  | swap x y l => simp only [List.sum_cons]; omega
  | trans _ _ i1 i2 => exact i1.trans i2
theorem pick6 {t a b c d e f : Int} (h0 : 0 ≤ t) (h1 : t < 6) (m : M) : ∃ v, gIx (.lst [.int a, .int b, .int c, .int d, .int e, .int f]) (.int t) m = .ok (.int v) m := by
  have : t = 0 ∨ t = 1 ∨ t = 2 ∨ t = 3 ∨ t = 4 ∨ t = 5 := by omega
  rcases this with rfl | rfl | rfl | rfl | rfl | rfl
  · exact ⟨a, v_ixL (i := 0) m rfl⟩
  · exact ⟨b, v_ixL (i := 1) m rfl⟩
  · exact ⟨c, v_ixL (i := 2) m rfl⟩
  · exact ⟨d, v_ixL (i := 3) m rfl⟩
  · exact ⟨e, v_ixL (i := 4) m rfl⟩
  · exact ⟨f, v_ixL (i := 5) m rfl⟩
theorem parting_ok {c : Int} {m : M} {n : Nat} (h : Hd c m n) (hc : c < 2 ^ 38) (most : Int) (hm0 : 0 ≤ most) (hm1 : most < 900) :
    ∃ (zs : List Int) (us : List D), f_law_parting [.ref n, .int most] m = .ok (.tup (iL1 zs)) (m.set n (.lst us)) ∧ Pt most zs ∧ Hd (c + 1000) (m.set n (.lst us)) n := by
  obtain ⟨L, x1, a1, l0, l1, n1, h1⟩ := take_ok h (most + 1) (by omega) (by omega) (by omega)
  obtain ⟨w, x2, a2, w0, w1, n2, h2⟩ := take_ok h1 6 (by omega) (by omega) (by omega)
  rw [set_set] at a2 h2
  obtain ⟨t, b2⟩ := pick6 (a := L) (b := 3) (c := 6) (d := 12) (e := L) (f := L) w0 w1 (m.set n (.lst x2))
  have hn : n < m.length := by
    obtain ⟨_, _, _, q, _⟩ := h
    exact (List.getElem?_eq_some_iff.mp q).1
  let I : Nat → En → M → Prop := fun k ρ m' => ∃ (zs : List Int) (us : List D) (left top : Int) (y6 : Option D), ρ = [some (.ref n), some (.int most), some (.int left), some (.int w), some (.int top), some (.ref m.length), y6] ∧
    m' = m.set n (.lst us) ++ [Cell.lst (iL1 zs)] ∧ noRefs us = true ∧ Hd (c + 1 + 1 + (zs.length : Int)) (m.set n (.lst us)) n ∧ (∀ z ∈ zs, 1 ≤ z) ∧ 0 ≤ left ∧ zs.sum + left = L ∧ k = left.toNat
  let Dn : En → M → Prop := fun ρ m' => ∃ k, I k ρ m'
  have run := wh_inv (t := sAnd (sBinT gGt (sVar 2) (sC (.int 0))) (sBinT gGt (sVar 4) (sC (.int 0)))) (b := sSeq f_law_parting_3_0 (sSeq f_law_parting_3_1 (sSeq f_law_parting_3_2 (sSeq f_law_parting_3_3 f_law_parting_3_4)))) I Dn (fun k ρ m' hI => ?_)
    fuelN L.toNat [some (.ref n), some (.int most), some (.int L), some (.int w), some (.int t), some (.ref m.length), none] (m.set n (.lst x2) ++ [Cell.lst []]) (by show L.toNat < 1000000; omega)
    ⟨[], x2, L, t, none, rfl, rfl, n2, by simpa using h2, fun _ hz => (by cases hz), l0, by simp, rfl⟩
  · obtain ⟨ρ', m', e1, k, zs, us, left, top, y6, e2, e3, e4, e5, e6, e7, e8, e9⟩ := run
    obtain ⟨qs, f1, f2, _⟩ := v_sortI zs (m.set n (.lst us)) true
    have hl : (m.set n (.lst us)).length = m.length := List.length_set ..
    have hlen := sum_ge zs e6
    have f1' : gSorted true [.ref m.length] (m.set n (.lst us) ++ [Cell.lst (iL1 zs)]) = .ok (iL1 qs) (m.set n (.lst us) ++ [Cell.lst (iL1 zs)]) := by
      have g : asList (.ref m.length) (m.set n (.lst us) ++ [Cell.lst (iL1 zs)]) = some (iL1 zs) := by
        have := get_end (m.set n (.lst us)) (Cell.lst (iL1 zs))
        rw [hl] at this
        simp only [asList, this]
      simp only [gSorted, asList, tag_ints] at f1
      rw [if_pos (.inr (sortOk_ints zs))] at f1
      have f3 : sortD true (zs.map fun i => (D.int i, PyData.int i)) = iL1 qs := by
        injection f1
      simp only [gSorted, g, tag_ints]
      rw [if_pos (.inr (sortOk_ints zs)), f3]
    refine ⟨qs, us, exit_setapp (j := [Cell.lst (iL1 zs)]) ?_ e4 (by simp only [noRef]; exact noRefs_ints qs), ⟨fun z hz => e6 z (f2.mem_iff.mp hz), by rw [perm_sum f2]; omega⟩, hd_mono e5 (by omega)⟩
    have h0 : (0 : Nat) ≤ 16777216 := by decide
    have s2 : f_law_parting_2 [some (.ref n), some (.int most), some (.int L), some (.int w), some (.int t), none, none] (m.set n (.lst x2)) = .nx [some (.ref n), some (.int most), some (.int L), some (.int w), some (.int t), some (.ref m.length), none] (m.set n (.lst x2) ++ [Cell.lst []]) := by
      simp only [f_law_parting_2, x_var, x_c, x_bin, x_binT, x_ofT, x_seq, x_ret, x_asg, x_ifS, x_if, x_nm, x_sb, x_nil, x_cons, x_tup, x_lst, x_frz, x_new, x_call, x_callL, x_par, x_pass, x_break, x_cont, x_drop, x_un, x_and, x_or, x_not, x_for, x_wh, x_tb, x_ys, x_hold, x_app, x_iR1, x_iR2, x_iR3, x_iS, x_aug, x_tp, x_gsCons, x_gsNil, x_comp, x_some, x_no, x_andV, x_orV, x_notV, x_catL, x_repL, x_rev, rep_one, asLst_lst, asList_lst, fixS_lst, fixS_tup, Vi.v_catT, Vi.v_mulZ, Vi.v_div, Vi.v_mod, Vi.v_pow, Vi.v_add, Vi.v_sub, Vi.v_lt, Vi.v_le, Vi.v_gt, Vi.v_ge, Vi.v_int, Vi.v_intB, Vi.v_abs, Vi.v_max2, Vi.v_min2, Vi.v_neg, Vi.v_eqI, Vi.v_neI, Vi.v_eqT, Vi.v_neT, Vi.v_eqL, Vi.v_eqS, Vi.v_neS, Vi.v_R1, Vi.v_R2, Vi.v_tupL, Vi.v_tupT, Vi.v_lenL, Vi.v_lenT, Vi.v_lenF, y_ok, y_toO, y_nx, y_rt, y_bk, y_ct, List.cons_append, List.nil_append, List.append_nil, List.getElem?_cons_zero, List.getElem?_cons_succ, List.set_cons_zero, List.set_cons_succ, List.length_cons, List.length_nil, List.map_cons, List.map_nil, List.replicate_succ, List.replicate_zero, Nat.reduceSub, Nat.reduceAdd, Nat.reduceLeDiff, Int.reduceToNat, Int.reducePow, Int.reduceMul, Int.reduceEq, Int.reduceLT, Int.reduceLE, Int.reduceGT, Int.reduceNeg, Int.reduceAdd, Int.reduceSub, Int.reduceDiv, Int.reduceMod, Nat.reduceMul, Nat.reduceEqDiff, lim_val, true_and, and_true, and_self, decide_eq_true_eq, big_val, if_true, if_false, ite_true, ite_false, reduceIte, h0, List.length_set]
    have s3 : f_law_parting_3 [some (.ref n), some (.int most), some (.int L), some (.int w), some (.int t), some (.ref m.length), none] (m.set n (.lst x2) ++ [Cell.lst []]) = .nx ρ' m' := by
      unfold f_law_parting_3
      rw [x_wh]; exact e1
    unfold runDef
    simp (disch := omega) only [f_law_parting_0, f_law_parting_1, x_var, x_c, x_bin, x_binT, x_ofT, x_seq, x_ret, x_asg, x_ifS, x_if, x_nm, x_sb, x_nil, x_cons, x_tup, x_lst, x_frz, x_new, x_call, x_callL, x_par, x_pass, x_break, x_cont, x_drop, x_un, x_and, x_or, x_not, x_for, x_wh, x_tb, x_ys, x_hold, x_app, x_iR1, x_iR2, x_iR3, x_iS, x_aug, x_tp, x_gsCons, x_gsNil, x_comp, x_some, x_no, x_andV, x_orV, x_notV, x_catL, x_repL, x_rev, rep_one, asLst_lst, asList_lst, fixS_lst, fixS_tup, Vi.v_catT, Vi.v_mulZ, Vi.v_div, Vi.v_mod, Vi.v_pow, Vi.v_add, Vi.v_sub, Vi.v_lt, Vi.v_le, Vi.v_gt, Vi.v_ge, Vi.v_int, Vi.v_intB, Vi.v_abs, Vi.v_max2, Vi.v_min2, Vi.v_neg, Vi.v_eqI, Vi.v_neI, Vi.v_eqT, Vi.v_neT, Vi.v_eqL, Vi.v_eqS, Vi.v_neS, Vi.v_R1, Vi.v_R2, Vi.v_tupL, Vi.v_tupT, Vi.v_lenL, Vi.v_lenT, Vi.v_lenF, y_ok, y_toO, y_nx, y_rt, y_bk, y_ct, List.cons_append, List.nil_append, List.append_nil, List.getElem?_cons_zero, List.getElem?_cons_succ, List.set_cons_zero, List.set_cons_succ, List.length_cons, List.length_nil, List.map_cons, List.map_nil, List.replicate_succ, List.replicate_zero, Nat.reduceSub, Nat.reduceAdd, Nat.reduceLeDiff, Int.reduceToNat, Int.reducePow, Int.reduceMul, Int.reduceEq, Int.reduceLT, Int.reduceLE, Int.reduceGT, Int.reduceNeg, Int.reduceAdd, Int.reduceSub, Int.reduceDiv, Int.reduceMod, Nat.reduceMul, Nat.reduceEqDiff, lim_val, true_and, and_true, and_self, decide_eq_true_eq, big_val, if_true, if_false, ite_true, ite_false, reduceIte, a1, a2, b2]
    rw [s2, y_nx, x_seq, s3, y_nx, e2, e3]
    simp only [f_law_parting_4, x_var, x_c, x_bin, x_binT, x_ofT, x_seq, x_ret, x_asg, x_ifS, x_if, x_nm, x_sb, x_nil, x_cons, x_tup, x_lst, x_frz, x_new, x_call, x_callL, x_par, x_pass, x_break, x_cont, x_drop, x_un, x_and, x_or, x_not, x_for, x_wh, x_tb, x_ys, x_hold, x_app, x_iR1, x_iR2, x_iR3, x_iS, x_aug, x_tp, x_gsCons, x_gsNil, x_comp, x_some, x_no, x_andV, x_orV, x_notV, x_catL, x_repL, x_rev, rep_one, asLst_lst, asList_lst, fixS_lst, fixS_tup, Vi.v_catT, Vi.v_mulZ, Vi.v_div, Vi.v_mod, Vi.v_pow, Vi.v_add, Vi.v_sub, Vi.v_lt, Vi.v_le, Vi.v_gt, Vi.v_ge, Vi.v_int, Vi.v_intB, Vi.v_abs, Vi.v_max2, Vi.v_min2, Vi.v_neg, Vi.v_eqI, Vi.v_neI, Vi.v_eqT, Vi.v_neT, Vi.v_eqL, Vi.v_eqS, Vi.v_neS, Vi.v_R1, Vi.v_R2, Vi.v_tupL, Vi.v_tupT, Vi.v_lenL, Vi.v_lenT, Vi.v_lenF, y_ok, y_toO, y_nx, y_rt, y_bk, y_ct, List.cons_append, List.nil_append, List.append_nil, List.getElem?_cons_zero, List.getElem?_cons_succ, List.set_cons_zero, List.set_cons_succ, List.length_cons, List.length_nil, List.map_cons, List.map_nil, List.replicate_succ, List.replicate_zero, Nat.reduceSub, Nat.reduceAdd, Nat.reduceLeDiff, Int.reduceToNat, Int.reducePow, Int.reduceMul, Int.reduceEq, Int.reduceLT, Int.reduceLE, Int.reduceGT, Int.reduceNeg, Int.reduceAdd, Int.reduceSub, Int.reduceDiv, Int.reduceMod, Nat.reduceMul, Nat.reduceEqDiff, lim_val, true_and, and_true, and_self, decide_eq_true_eq, big_val, if_true, if_false, ite_true, ite_false, reduceIte, f1']
  · obtain ⟨zs, us, left, top, y6, e2, e3, e4, e5, e6, e7, e8, e9⟩ := hI
    subst e2; subst e3
    have hlen := sum_ge zs e6
    have hl : (m.set n (.lst us)).length = m.length := List.length_set ..
    by_cases c1 : 0 < left
    · by_cases c2 : 0 < top
      · right
        refine ⟨m.set n (.lst us) ++ [Cell.lst (iL1 zs)], by simp only [x_var, x_c, x_bin, x_binT, x_ofT, x_seq, x_ret, x_asg, x_ifS, x_if, x_nm, x_sb, x_nil, x_cons, x_tup, x_lst, x_frz, x_new, x_call, x_callL, x_par, x_pass, x_break, x_cont, x_drop, x_un, x_and, x_or, x_not, x_for, x_wh, x_tb, x_ys, x_hold, x_app, x_iR1, x_iR2, x_iR3, x_iS, x_aug, x_tp, x_gsCons, x_gsNil, x_comp, x_some, x_no, x_andV, x_orV, x_notV, x_catL, x_repL, x_rev, rep_one, asLst_lst, asList_lst, fixS_lst, fixS_tup, Vi.v_catT, Vi.v_mulZ, Vi.v_div, Vi.v_mod, Vi.v_pow, Vi.v_add, Vi.v_sub, Vi.v_lt, Vi.v_le, Vi.v_gt, Vi.v_ge, Vi.v_int, Vi.v_intB, Vi.v_abs, Vi.v_max2, Vi.v_min2, Vi.v_neg, Vi.v_eqI, Vi.v_neI, Vi.v_eqT, Vi.v_neT, Vi.v_eqL, Vi.v_eqS, Vi.v_neS, Vi.v_R1, Vi.v_R2, Vi.v_tupL, Vi.v_tupT, Vi.v_lenL, Vi.v_lenT, Vi.v_lenF, y_ok, y_toO, y_nx, y_rt, y_bk, y_ct, List.cons_append, List.nil_append, List.append_nil, List.getElem?_cons_zero, List.getElem?_cons_succ, List.set_cons_zero, List.set_cons_succ, List.length_cons, List.length_nil, List.map_cons, List.map_nil, List.replicate_succ, List.replicate_zero, Nat.reduceSub, Nat.reduceAdd, Nat.reduceLeDiff, Int.reduceToNat, Int.reducePow, Int.reduceMul, Int.reduceEq, Int.reduceLT, Int.reduceLE, Int.reduceGT, Int.reduceNeg, Int.reduceAdd, Int.reduceSub, Int.reduceDiv, Int.reduceMod, Nat.reduceMul, Nat.reduceEqDiff, lim_val, true_and, and_true, and_self, decide_eq_true_eq, big_val, if_true, if_false, ite_true, ite_false, reduceIte, c1, c2, decide_true], ?_⟩
        obtain ⟨p, top', vs, p0, p1, v0, v1, v2⟩ := body_ok e5 (by omega) most left w top zs y6 (by omega) c1 (by omega) c2
        rw [hl, set_set] at v2
        rw [set_set] at v1
        refine ⟨_, _, v2, (left - p).toNat, by omega, zs ++ [p], vs, left - p, top', _, rfl, rfl, v0, ?_, ?_, by omega, by rw [sum_snoc]; omega, rfl⟩
        · rw [List.length_append]
          exact hd_mono v1 (by simp; omega)
        · intro z hz
          rcases List.mem_append.mp hz with q | q
          · exact e6 z q
          · rw [List.mem_singleton.mp q]; exact p0
      · left
        exact ⟨_, by simp only [x_var, x_c, x_bin, x_binT, x_ofT, x_seq, x_ret, x_asg, x_ifS, x_if, x_nm, x_sb, x_nil, x_cons, x_tup, x_lst, x_frz, x_new, x_call, x_callL, x_par, x_pass, x_break, x_cont, x_drop, x_un, x_and, x_or, x_not, x_for, x_wh, x_tb, x_ys, x_hold, x_app, x_iR1, x_iR2, x_iR3, x_iS, x_aug, x_tp, x_gsCons, x_gsNil, x_comp, x_some, x_no, x_andV, x_orV, x_notV, x_catL, x_repL, x_rev, rep_one, asLst_lst, asList_lst, fixS_lst, fixS_tup, Vi.v_catT, Vi.v_mulZ, Vi.v_div, Vi.v_mod, Vi.v_pow, Vi.v_add, Vi.v_sub, Vi.v_lt, Vi.v_le, Vi.v_gt, Vi.v_ge, Vi.v_int, Vi.v_intB, Vi.v_abs, Vi.v_max2, Vi.v_min2, Vi.v_neg, Vi.v_eqI, Vi.v_neI, Vi.v_eqT, Vi.v_neT, Vi.v_eqL, Vi.v_eqS, Vi.v_neS, Vi.v_R1, Vi.v_R2, Vi.v_tupL, Vi.v_tupT, Vi.v_lenL, Vi.v_lenT, Vi.v_lenF, y_ok, y_toO, y_nx, y_rt, y_bk, y_ct, List.cons_append, List.nil_append, List.append_nil, List.getElem?_cons_zero, List.getElem?_cons_succ, List.set_cons_zero, List.set_cons_succ, List.length_cons, List.length_nil, List.map_cons, List.map_nil, List.replicate_succ, List.replicate_zero, Nat.reduceSub, Nat.reduceAdd, Nat.reduceLeDiff, Int.reduceToNat, Int.reducePow, Int.reduceMul, Int.reduceEq, Int.reduceLT, Int.reduceLE, Int.reduceGT, Int.reduceNeg, Int.reduceAdd, Int.reduceSub, Int.reduceDiv, Int.reduceMod, Nat.reduceMul, Nat.reduceEqDiff, lim_val, true_and, and_true, and_self, decide_eq_true_eq, big_val, if_true, if_false, ite_true, ite_false, reduceIte, c1, c2, decide_true, decide_false], k, zs, us, left, top, y6, rfl, rfl, e4, e5, e6, e7, e8, e9⟩
    · left
      exact ⟨_, by simp only [x_var, x_c, x_bin, x_binT, x_ofT, x_seq, x_ret, x_asg, x_ifS, x_if, x_nm, x_sb, x_nil, x_cons, x_tup, x_lst, x_frz, x_new, x_call, x_callL, x_par, x_pass, x_break, x_cont, x_drop, x_un, x_and, x_or, x_not, x_for, x_wh, x_tb, x_ys, x_hold, x_app, x_iR1, x_iR2, x_iR3, x_iS, x_aug, x_tp, x_gsCons, x_gsNil, x_comp, x_some, x_no, x_andV, x_orV, x_notV, x_catL, x_repL, x_rev, rep_one, asLst_lst, asList_lst, fixS_lst, fixS_tup, Vi.v_catT, Vi.v_mulZ, Vi.v_div, Vi.v_mod, Vi.v_pow, Vi.v_add, Vi.v_sub, Vi.v_lt, Vi.v_le, Vi.v_gt, Vi.v_ge, Vi.v_int, Vi.v_intB, Vi.v_abs, Vi.v_max2, Vi.v_min2, Vi.v_neg, Vi.v_eqI, Vi.v_neI, Vi.v_eqT, Vi.v_neT, Vi.v_eqL, Vi.v_eqS, Vi.v_neS, Vi.v_R1, Vi.v_R2, Vi.v_tupL, Vi.v_tupT, Vi.v_lenL, Vi.v_lenT, Vi.v_lenF, y_ok, y_toO, y_nx, y_rt, y_bk, y_ct, List.cons_append, List.nil_append, List.append_nil, List.getElem?_cons_zero, List.getElem?_cons_succ, List.set_cons_zero, List.set_cons_succ, List.length_cons, List.length_nil, List.map_cons, List.map_nil, List.replicate_succ, List.replicate_zero, Nat.reduceSub, Nat.reduceAdd, Nat.reduceLeDiff, Int.reduceToNat, Int.reducePow, Int.reduceMul, Int.reduceEq, Int.reduceLT, Int.reduceLE, Int.reduceGT, Int.reduceNeg, Int.reduceAdd, Int.reduceSub, Int.reduceDiv, Int.reduceMod, Nat.reduceMul, Nat.reduceEqDiff, lim_val, true_and, and_true, and_self, decide_eq_true_eq, big_val, if_true, if_false, ite_true, ite_false, reduceIte, c1, decide_false, Bool.false_eq_true], k, zs, us, left, top, y6, rfl, rfl, e4, e5, e6, e7, e8, e9⟩
end Lk38

set_option Elab.async false
set_option linter.all false
set_option maxRecDepth 100000
set_option maxHeartbeats 4000000
namespace Lk38
open PySem PySem.Spec PyProof.Rows L2 Vi

/-! ### hooks -/
def bn (zs : List Int) (i j : Nat) : Int := (((zs.drop (i + 1)).filter fun o => decide ((j : Int) < o)).length : Nat)
def rowOf (zs : List Int) (i : Nat) (p : Int) : List Int := (List.range p.toNat).map fun (j : Nat) => p - (j : Int) + bn zs i j
def rowD (zs : List Int) (i : Nat) : D := .tup (iL1 (rowOf zs i (zs.getD i 0)))
def HD (zs : List Int) : D := .tup ((List.range zs.length).map (rowD zs))
theorem cut_from (xs : List D) (i : Nat) : Vi.cutD xs (some ((i : Int) + 1)) none = xs.drop (i + 1) := by
  unfold Vi.cutD
  rw [show ((i : Int) + 1) = ((i + 1 : Nat) : Int) by omega, HT.sIx_nat, HT.sIx_none]
  rcases Nat.lt_or_ge (i + 1) xs.length with q | q
  · rw [Nat.min_eq_left (Nat.le_of_lt q), List.take_of_length_le (by simp)]
  · rw [Nat.min_eq_right q, List.drop_length, List.drop_eq_nil_of_le q]
    simp
theorem bn_comp (zs : List Int) (i j k : Nat) (hk : k ≠ 0) (ρ : En) (m : M) (idx : Nat) (hj : ρ[idx]? = some (some (.int (j : Int)))) (hx : k < ρ.length) (hne : k ≠ idx) :
    compL (gNm k) (sBinT gGt (sVar k) (sVar idx)) (sVar k) ρ ((iL1 zs).drop (i + 1)) m = .ok (iL1 ((zs.drop (i + 1)).filter fun o => decide ((j : Int) < o))) m := by
  rw [comp_pure (p := fun x => match x with | .int z => decide ((j : Int) < z) | _ => false) (f := id) _ fun x hx' => ?_]
  · rw [List.map_id]
    congr 1
    unfold iL1
    rw [← List.map_drop, List.filter_map]
    rfl
  · obtain ⟨z, _, rfl⟩ := List.mem_map.mp (List.mem_of_mem_drop hx')
    have e1 : (ρ.set k (some (D.int z)))[idx]? = some (some (.int (j : Int))) := by rw [List.getElem?_set_ne hne, hj]
    have e2 : (ρ.set k (some (D.int z)))[k]? = some (some (.int z)) := by rw [List.getElem?_set_self hx]
    refine ⟨_, rfl, ?_, fun _ => ?_⟩
    · simp only [x_binT, x_var, e1, e2, y_ok, Vi.v_gt]
    · simp only [x_var, e2, id]
theorem hook_row (zs : List Int) (i : Nat) (p : Int) (hi : i < zs.length) (hp : 1 ≤ p ∧ p < 900) (hz : zs.length < 900) (m : M) (y5 y6 y7 : Option D) (w1 : D) :
    ∃ (y5' y6' : Option D), forLoop (gNm 5) (sSeq fhooks_1_1_0 fhooks_1_1_1) (rngD 0 1 p.toNat) [some (.tup (iL1 zs)), some w1, some (.int (i : Int)), some (.int p), some (.ref m.length), y5, y6, y7] (m ++ [.lst []]) =
      .nx [some (.tup (iL1 zs)), some w1, some (.int (i : Int)), some (.int p), some (.ref m.length), y5', y6', y7] (m ++ [.lst (iL1 (rowOf zs i p))]) := by
  let I : Nat → En → M → Prop := fun t ρ m' => ∃ y5' y6' : Option D, ρ = [some (.tup (iL1 zs)), some w1, some (.int (i : Int)), some (.int p), some (.ref m.length), y5', y6', y7] ∧
    m' = m ++ [Cell.lst (iL1 ((List.range t).map fun (j : Nat) => p - (j : Int) + bn zs i j))]
  have run := for_rng (g := gNm 5) (b := sSeq fhooks_1_1_0 fhooks_1_1_1) (n := p.toNat) (lo := 0) I (fun t ρ m' ht hI => ?_) [some (.tup (iL1 zs)), some w1, some (.int (i : Int)), some (.int p), some (.ref m.length), y5, y6, y7] (m ++ [.lst []]) ⟨y5, y6, rfl, rfl⟩
  · obtain ⟨ρ', m', e1, y5', y6', e2, e3⟩ := run
    exact ⟨y5', y6', by rw [e1, e2, e3]; rfl⟩
  · obtain ⟨y5', y6', e2, e3⟩ := hI
    subst e2; subst e3
    rw [Int.zero_add]
    have hl : ((iL1 zs).drop (i + 1)).length ≤ 16777216 := by
      rw [List.length_drop, List.length_map]; omega
    have g1 : (m ++ [Cell.lst (iL1 ((List.range t).map fun (j : Nat) => p - (j : Int) + bn zs i j))])[m.length]? = some (.lst (iL1 ((List.range t).map fun (j : Nat) => p - (j : Int) + bn zs i j))) := get_end _ _
    have g2 : (iL1 ((List.range t).map fun (j : Nat) => p - (j : Int) + bn zs i j)).length < 16777216 := by
      simp only [List.length_map, List.length_range]; omega
    refine ⟨_, _, rfl, [some (.tup (iL1 zs)), some w1, some (.int (i : Int)), some (.int p), some (.ref m.length), some (.int (t : Int)), some (.int (bn zs i t)), y7], _, ?_, _, _, rfl, rfl⟩
    have s0 : fhooks_1_1_0 [some (.tup (iL1 zs)), some w1, some (.int (i : Int)), some (.int p), some (.ref m.length), some (.int (t : Int)), y6', y7] (m ++ [Cell.lst (iL1 ((List.range t).map fun (j : Nat) => p - (j : Int) + bn zs i j))]) =
        .nx [some (.tup (iL1 zs)), some w1, some (.int (i : Int)), some (.int p), some (.ref m.length), some (.int (t : Int)), some (.int (bn zs i t)), y7] (m ++ [Cell.lst (iL1 ((List.range t).map fun (j : Nat) => p - (j : Int) + bn zs i j))]) := by
      have ct : ∀ (ρ : En) (m0 : M), ρ[0]? = some (some (.tup (iL1 zs))) → ρ[2]? = some (some (.int (i : Int))) → sCutT (sVar 0) (sSome (sBin gAdd (sVar 2) (sC (.int 1)))) sNo ρ m0 = .ok (.tup ((iL1 zs).drop (i + 1))) m0 := by
        intro ρ m0 h1 h2
        unfold sCutT
        simp only [x_var, x_c, x_bin, x_binT, x_ofT, x_seq, x_ret, x_asg, x_ifS, x_if, x_nm, x_sb, x_nil, x_cons, x_tup, x_lst, x_frz, x_new, x_call, x_callL, x_par, x_pass, x_break, x_cont, x_drop, x_un, x_and, x_or, x_not, x_for, x_wh, x_tb, x_ys, x_hold, x_app, x_iR1, x_iR2, x_iR3, x_iS, x_aug, x_tp, x_gsCons, x_gsNil, x_comp, x_some, x_no, x_andV, x_orV, x_notV, x_catL, x_repL, x_rev, rep_one, asLst_lst, asList_lst, fixS_lst, fixS_tup, Vi.v_catT, Vi.v_mulZ, Vi.v_div, Vi.v_mod, Vi.v_pow, Vi.v_add, Vi.v_sub, Vi.v_lt, Vi.v_le, Vi.v_gt, Vi.v_ge, Vi.v_int, Vi.v_intB, Vi.v_abs, Vi.v_max2, Vi.v_min2, Vi.v_neg, Vi.v_eqI, Vi.v_neI, Vi.v_eqT, Vi.v_neT, Vi.v_eqL, Vi.v_eqS, Vi.v_neS, Vi.v_R1, Vi.v_R2, Vi.v_tupL, Vi.v_tupT, Vi.v_lenL, Vi.v_lenT, Vi.v_lenF, y_ok, y_toO, y_nx, y_rt, y_bk, y_ct, List.cons_append, List.nil_append, List.append_nil, List.getElem?_cons_zero, List.getElem?_cons_succ, List.set_cons_zero, List.set_cons_succ, List.length_cons, List.length_nil, List.map_cons, List.map_nil, List.replicate_succ, List.replicate_zero, Nat.reduceSub, Nat.reduceAdd, Nat.reduceLeDiff, Int.reduceToNat, Int.reducePow, Int.reduceMul, Int.reduceEq, Int.reduceLT, Int.reduceLE, Int.reduceGT, Int.reduceNeg, Int.reduceAdd, Int.reduceSub, Int.reduceDiv, Int.reduceMod, Nat.reduceMul, Nat.reduceEqDiff, lim_val, true_and, and_true, and_self, decide_eq_true_eq, big_val, if_true, if_false, ite_true, ite_false, reduceIte, h1, h2]
        rw [cut_from]
      simp only [fhooks_1_1_0, x_var, x_c, x_bin, x_binT, x_ofT, x_seq, x_ret, x_asg, x_ifS, x_if, x_nm, x_sb, x_nil, x_cons, x_tup, x_lst, x_frz, x_new, x_call, x_callL, x_par, x_pass, x_break, x_cont, x_drop, x_un, x_and, x_or, x_not, x_for, x_wh, x_tb, x_ys, x_hold, x_app, x_iR1, x_iR2, x_iR3, x_iS, x_aug, x_tp, x_gsCons, x_gsNil, x_comp, x_some, x_no, x_andV, x_orV, x_notV, x_catL, x_repL, x_rev, rep_one, asLst_lst, asList_lst, fixS_lst, fixS_tup, Vi.v_catT, Vi.v_mulZ, Vi.v_div, Vi.v_mod, Vi.v_pow, Vi.v_add, Vi.v_sub, Vi.v_lt, Vi.v_le, Vi.v_gt, Vi.v_ge, Vi.v_int, Vi.v_intB, Vi.v_abs, Vi.v_max2, Vi.v_min2, Vi.v_neg, Vi.v_eqI, Vi.v_neI, Vi.v_eqT, Vi.v_neT, Vi.v_eqL, Vi.v_eqS, Vi.v_neS, Vi.v_R1, Vi.v_R2, Vi.v_tupL, Vi.v_tupT, Vi.v_lenL, Vi.v_lenT, Vi.v_lenF, y_ok, y_toO, y_nx, y_rt, y_bk, y_ct, List.cons_append, List.nil_append, List.append_nil, List.getElem?_cons_zero, List.getElem?_cons_succ, List.set_cons_zero, List.set_cons_succ, List.length_cons, List.length_nil, List.map_cons, List.map_nil, List.replicate_succ, List.replicate_zero, Nat.reduceSub, Nat.reduceAdd, Nat.reduceLeDiff, Int.reduceToNat, Int.reducePow, Int.reduceMul, Int.reduceEq, Int.reduceLT, Int.reduceLE, Int.reduceGT, Int.reduceNeg, Int.reduceAdd, Int.reduceSub, Int.reduceDiv, Int.reduceMod, Nat.reduceMul, Nat.reduceEqDiff, lim_val, true_and, and_true, and_self, decide_eq_true_eq, big_val, if_true, if_false, ite_true, ite_false, reduceIte]
      rw [ct _ _ rfl rfl]
      simp only [x_var, x_c, x_bin, x_binT, x_ofT, x_seq, x_ret, x_asg, x_ifS, x_if, x_nm, x_sb, x_nil, x_cons, x_tup, x_lst, x_frz, x_new, x_call, x_callL, x_par, x_pass, x_break, x_cont, x_drop, x_un, x_and, x_or, x_not, x_for, x_wh, x_tb, x_ys, x_hold, x_app, x_iR1, x_iR2, x_iR3, x_iS, x_aug, x_tp, x_gsCons, x_gsNil, x_comp, x_some, x_no, x_andV, x_orV, x_notV, x_catL, x_repL, x_rev, rep_one, asLst_lst, asList_lst, fixS_lst, fixS_tup, Vi.v_catT, Vi.v_mulZ, Vi.v_div, Vi.v_mod, Vi.v_pow, Vi.v_add, Vi.v_sub, Vi.v_lt, Vi.v_le, Vi.v_gt, Vi.v_ge, Vi.v_int, Vi.v_intB, Vi.v_abs, Vi.v_max2, Vi.v_min2, Vi.v_neg, Vi.v_eqI, Vi.v_neI, Vi.v_eqT, Vi.v_neT, Vi.v_eqL, Vi.v_eqS, Vi.v_neS, Vi.v_R1, Vi.v_R2, Vi.v_tupL, Vi.v_tupT, Vi.v_lenL, Vi.v_lenT, Vi.v_lenF, y_ok, y_toO, y_nx, y_rt, y_bk, y_ct, List.cons_append, List.nil_append, List.append_nil, List.getElem?_cons_zero, List.getElem?_cons_succ, List.set_cons_zero, List.set_cons_succ, List.length_cons, List.length_nil, List.map_cons, List.map_nil, List.replicate_succ, List.replicate_zero, Nat.reduceSub, Nat.reduceAdd, Nat.reduceLeDiff, Int.reduceToNat, Int.reducePow, Int.reduceMul, Int.reduceEq, Int.reduceLT, Int.reduceLE, Int.reduceGT, Int.reduceNeg, Int.reduceAdd, Int.reduceSub, Int.reduceDiv, Int.reduceMod, Nat.reduceMul, Nat.reduceEqDiff, lim_val, true_and, and_true, and_self, decide_eq_true_eq, big_val, if_true, if_false, ite_true, ite_false, reduceIte, hl]
      rw [bn_comp zs i t 7 (by decide) _ _ 5 rfl (by simp [wipeE]) (by decide)]
      simp only [x_var, x_c, x_bin, x_binT, x_ofT, x_seq, x_ret, x_asg, x_ifS, x_if, x_nm, x_sb, x_nil, x_cons, x_tup, x_lst, x_frz, x_new, x_call, x_callL, x_par, x_pass, x_break, x_cont, x_drop, x_un, x_and, x_or, x_not, x_for, x_wh, x_tb, x_ys, x_hold, x_app, x_iR1, x_iR2, x_iR3, x_iS, x_aug, x_tp, x_gsCons, x_gsNil, x_comp, x_some, x_no, x_andV, x_orV, x_notV, x_catL, x_repL, x_rev, rep_one, asLst_lst, asList_lst, fixS_lst, fixS_tup, Vi.v_catT, Vi.v_mulZ, Vi.v_div, Vi.v_mod, Vi.v_pow, Vi.v_add, Vi.v_sub, Vi.v_lt, Vi.v_le, Vi.v_gt, Vi.v_ge, Vi.v_int, Vi.v_intB, Vi.v_abs, Vi.v_max2, Vi.v_min2, Vi.v_neg, Vi.v_eqI, Vi.v_neI, Vi.v_eqT, Vi.v_neT, Vi.v_eqL, Vi.v_eqS, Vi.v_neS, Vi.v_R1, Vi.v_R2, Vi.v_tupL, Vi.v_tupT, Vi.v_lenL, Vi.v_lenT, Vi.v_lenF, y_ok, y_toO, y_nx, y_rt, y_bk, y_ct, List.cons_append, List.nil_append, List.append_nil, List.getElem?_cons_zero, List.getElem?_cons_succ, List.set_cons_zero, List.set_cons_succ, List.length_cons, List.length_nil, List.map_cons, List.map_nil, List.replicate_succ, List.replicate_zero, Nat.reduceSub, Nat.reduceAdd, Nat.reduceLeDiff, Int.reduceToNat, Int.reducePow, Int.reduceMul, Int.reduceEq, Int.reduceLT, Int.reduceLE, Int.reduceGT, Int.reduceNeg, Int.reduceAdd, Int.reduceSub, Int.reduceDiv, Int.reduceMod, Nat.reduceMul, Nat.reduceEqDiff, lim_val, true_and, and_true, and_self, decide_eq_true_eq, big_val, if_true, if_false, ite_true, ite_false, reduceIte, noexn_ok, List.length_map, bn]
    simp only [List.set_cons_zero, List.set_cons_succ]
    rw [x_seq, s0, y_nx]
    simp only [fhooks_1_1_1, x_var, x_c, x_bin, x_binT, x_ofT, x_seq, x_ret, x_asg, x_ifS, x_if, x_nm, x_sb, x_nil, x_cons, x_tup, x_lst, x_frz, x_new, x_call, x_callL, x_par, x_pass, x_break, x_cont, x_drop, x_un, x_and, x_or, x_not, x_for, x_wh, x_tb, x_ys, x_hold, x_app, x_iR1, x_iR2, x_iR3, x_iS, x_aug, x_tp, x_gsCons, x_gsNil, x_comp, x_some, x_no, x_andV, x_orV, x_notV, x_catL, x_repL, x_rev, rep_one, asLst_lst, asList_lst, fixS_lst, fixS_tup, Vi.v_catT, Vi.v_mulZ, Vi.v_div, Vi.v_mod, Vi.v_pow, Vi.v_add, Vi.v_sub, Vi.v_lt, Vi.v_le, Vi.v_gt, Vi.v_ge, Vi.v_int, Vi.v_intB, Vi.v_abs, Vi.v_max2, Vi.v_min2, Vi.v_neg, Vi.v_eqI, Vi.v_neI, Vi.v_eqT, Vi.v_neT, Vi.v_eqL, Vi.v_eqS, Vi.v_neS, Vi.v_R1, Vi.v_R2, Vi.v_tupL, Vi.v_tupT, Vi.v_lenL, Vi.v_lenT, Vi.v_lenF, y_ok, y_toO, y_nx, y_rt, y_bk, y_ct, List.cons_append, List.nil_append, List.append_nil, List.getElem?_cons_zero, List.getElem?_cons_succ, List.set_cons_zero, List.set_cons_succ, List.length_cons, List.length_nil, List.map_cons, List.map_nil, List.replicate_succ, List.replicate_zero, Nat.reduceSub, Nat.reduceAdd, Nat.reduceLeDiff, Int.reduceToNat, Int.reducePow, Int.reduceMul, Int.reduceEq, Int.reduceLT, Int.reduceLE, Int.reduceGT, Int.reduceNeg, Int.reduceAdd, Int.reduceSub, Int.reduceDiv, Int.reduceMod, Nat.reduceMul, Nat.reduceEqDiff, lim_val, true_and, and_true, and_self, decide_eq_true_eq, big_val, if_true, if_false, ite_true, ite_false, reduceIte, g1, g2, set_end]
    rw [List.range_succ, List.map_append]
    simp [iL1]
theorem enum_at {zs : List Int} {t : Nat} {x : D} (h : (enumD (iL1 zs))[t]? = some x) : ∃ ht : t < zs.length, x = .tup [.int (t : Int), .int zs[t]] := by
  obtain ⟨y, h1, rfl⟩ := enumD_get h
  have ht : t < zs.length := by
    have := (List.getElem?_eq_some_iff.mp h1).1
    simpa using this
  refine ⟨ht, ?_⟩
  rw [List.getElem?_map, List.getElem?_eq_getElem ht] at h1
  cases h1
  rfl
structure Ok (zs : List Int) : Prop where
  pos : ∀ z ∈ zs, 1 ≤ z ∧ z < 900
  len : zs.length < 900
theorem set_far {m j : M} {c c' : Cell} : (m ++ [c] ++ j).set m.length c' = m ++ [c'] ++ j := by
  rw [List.append_assoc, List.append_assoc]
  simp
theorem get_far {m j : M} {c : Cell} : (m ++ [c] ++ j)[m.length]? = some c := by simp
theorem hooks_ok (zs : List Int) (h : Ok zs) (m : M) : fhooks [.tup (iL1 zs)] m = .ok (HD zs) m := by
  let I : Nat → En → M → Prop := fun t ρ m' => ∃ (J : M) (y2 y3 y4 y5 y6 : Option D), ρ = [some (.tup (iL1 zs)), some (.ref m.length), y2, y3, y4, y5, y6, none] ∧ m' = m ++ [Cell.lst ((List.range t).map (rowD zs))] ++ J
  have run := for_ix (g := gTp 2 (gsCons (gNm 2) (gsCons (gNm 3) gsNil))) (b := sSeq fhooks_1_0 (sSeq fhooks_1_1 fhooks_1_2)) I (enumD (iL1 zs)) (fun t x ρ m' ht hI => ?_)
    [some (.tup (iL1 zs)), some (.ref m.length), none, none, none, none, none, none] (m ++ [Cell.lst []]) ⟨[], none, none, none, none, none, rfl, by simp⟩
  · obtain ⟨ρ', m', e1, J, y2, y3, y4, y5, y6, e2, e3⟩ := run
    rw [enumD_len, List.length_map] at e3
    have g1 : gTuple [.ref m.length] (m ++ [Cell.lst ((List.range zs.length).map (rowD zs))] ++ J) = .ok (HD zs) (m ++ [Cell.lst ((List.range zs.length).map (rowD zs))] ++ J) := by
      simp only [gTuple, asList, get_far]; rfl
    have nr : noRef (HD zs) = true := by
      have : ∀ l : List Nat, noRefs (l.map (rowD zs)) = true := by
        intro l
        induction l with
        | nil => rfl
        | cons a l ih => simp only [List.map_cons, noRefs, ih, Bool.and_true, rowD, noRef]; exact noRefs_ints _
      exact this _
    refine exit_app (j := [Cell.lst ((List.range zs.length).map (rowD zs))] ++ J) ?_ nr
    rw [← List.append_assoc]
    have h0 : (0 : Nat) ≤ 16777216 := by decide
    have ie : iEn (sCons (sVar 0) sNil) [some (.tup (iL1 zs)), some (.ref m.length), none, none, none, none, none, none] (m ++ [Cell.lst []]) = .ok (enumD (iL1 zs)) (m ++ [Cell.lst []]) := by
      unfold iEn
      simp only [x_var, x_c, x_bin, x_binT, x_ofT, x_seq, x_ret, x_asg, x_ifS, x_if, x_nm, x_sb, x_nil, x_cons, x_tup, x_lst, x_frz, x_new, x_call, x_callL, x_par, x_pass, x_break, x_cont, x_drop, x_un, x_and, x_or, x_not, x_for, x_wh, x_tb, x_ys, x_hold, x_app, x_iR1, x_iR2, x_iR3, x_iS, x_aug, x_tp, x_gsCons, x_gsNil, x_comp, x_some, x_no, x_andV, x_orV, x_notV, x_catL, x_repL, x_rev, rep_one, asLst_lst, asList_lst, fixS_lst, fixS_tup, Vi.v_catT, Vi.v_mulZ, Vi.v_div, Vi.v_mod, Vi.v_pow, Vi.v_add, Vi.v_sub, Vi.v_lt, Vi.v_le, Vi.v_gt, Vi.v_ge, Vi.v_int, Vi.v_intB, Vi.v_abs, Vi.v_max2, Vi.v_min2, Vi.v_neg, Vi.v_eqI, Vi.v_neI, Vi.v_eqT, Vi.v_neT, Vi.v_eqL, Vi.v_eqS, Vi.v_neS, Vi.v_R1, Vi.v_R2, Vi.v_tupL, Vi.v_tupT, Vi.v_lenL, Vi.v_lenT, Vi.v_lenF, y_ok, y_toO, y_nx, y_rt, y_bk, y_ct, List.cons_append, List.nil_append, List.append_nil, List.getElem?_cons_zero, List.getElem?_cons_succ, List.set_cons_zero, List.set_cons_succ, List.length_cons, List.length_nil, List.map_cons, List.map_nil, List.replicate_succ, List.replicate_zero, Nat.reduceSub, Nat.reduceAdd, Nat.reduceLeDiff, Int.reduceToNat, Int.reducePow, Int.reduceMul, Int.reduceEq, Int.reduceLT, Int.reduceLE, Int.reduceGT, Int.reduceNeg, Int.reduceAdd, Int.reduceSub, Int.reduceDiv, Int.reduceMod, Nat.reduceMul, Nat.reduceEqDiff, lim_val, true_and, and_true, and_self, decide_eq_true_eq, big_val, if_true, if_false, ite_true, ite_false, reduceIte]
    have s1 : fhooks_1 [some (.tup (iL1 zs)), some (.ref m.length), none, none, none, none, none, none] (m ++ [Cell.lst []]) = .nx ρ' m' := by
      unfold fhooks_1
      rw [x_for, ie]; exact e1
    unfold runDef
    simp only [fhooks_0, x_var, x_c, x_bin, x_binT, x_ofT, x_seq, x_ret, x_asg, x_ifS, x_if, x_nm, x_sb, x_nil, x_cons, x_tup, x_lst, x_frz, x_new, x_call, x_callL, x_par, x_pass, x_break, x_cont, x_drop, x_un, x_and, x_or, x_not, x_for, x_wh, x_tb, x_ys, x_hold, x_app, x_iR1, x_iR2, x_iR3, x_iS, x_aug, x_tp, x_gsCons, x_gsNil, x_comp, x_some, x_no, x_andV, x_orV, x_notV, x_catL, x_repL, x_rev, rep_one, asLst_lst, asList_lst, fixS_lst, fixS_tup, Vi.v_catT, Vi.v_mulZ, Vi.v_div, Vi.v_mod, Vi.v_pow, Vi.v_add, Vi.v_sub, Vi.v_lt, Vi.v_le, Vi.v_gt, Vi.v_ge, Vi.v_int, Vi.v_intB, Vi.v_abs, Vi.v_max2, Vi.v_min2, Vi.v_neg, Vi.v_eqI, Vi.v_neI, Vi.v_eqT, Vi.v_neT, Vi.v_eqL, Vi.v_eqS, Vi.v_neS, Vi.v_R1, Vi.v_R2, Vi.v_tupL, Vi.v_tupT, Vi.v_lenL, Vi.v_lenT, Vi.v_lenF, y_ok, y_toO, y_nx, y_rt, y_bk, y_ct, List.cons_append, List.nil_append, List.append_nil, List.getElem?_cons_zero, List.getElem?_cons_succ, List.set_cons_zero, List.set_cons_succ, List.length_cons, List.length_nil, List.map_cons, List.map_nil, List.replicate_succ, List.replicate_zero, Nat.reduceSub, Nat.reduceAdd, Nat.reduceLeDiff, Int.reduceToNat, Int.reducePow, Int.reduceMul, Int.reduceEq, Int.reduceLT, Int.reduceLE, Int.reduceGT, Int.reduceNeg, Int.reduceAdd, Int.reduceSub, Int.reduceDiv, Int.reduceMod, Nat.reduceMul, Nat.reduceEqDiff, lim_val, true_and, and_true, and_self, decide_eq_true_eq, big_val, if_true, if_false, ite_true, ite_false, reduceIte, h0]
    rw [s1, y_nx, e2, e3]
    simp only [fhooks_2, x_var, x_c, x_bin, x_binT, x_ofT, x_seq, x_ret, x_asg, x_ifS, x_if, x_nm, x_sb, x_nil, x_cons, x_tup, x_lst, x_frz, x_new, x_call, x_callL, x_par, x_pass, x_break, x_cont, x_drop, x_un, x_and, x_or, x_not, x_for, x_wh, x_tb, x_ys, x_hold, x_app, x_iR1, x_iR2, x_iR3, x_iS, x_aug, x_tp, x_gsCons, x_gsNil, x_comp, x_some, x_no, x_andV, x_orV, x_notV, x_catL, x_repL, x_rev, rep_one, asLst_lst, asList_lst, fixS_lst, fixS_tup, Vi.v_catT, Vi.v_mulZ, Vi.v_div, Vi.v_mod, Vi.v_pow, Vi.v_add, Vi.v_sub, Vi.v_lt, Vi.v_le, Vi.v_gt, Vi.v_ge, Vi.v_int, Vi.v_intB, Vi.v_abs, Vi.v_max2, Vi.v_min2, Vi.v_neg, Vi.v_eqI, Vi.v_neI, Vi.v_eqT, Vi.v_neT, Vi.v_eqL, Vi.v_eqS, Vi.v_neS, Vi.v_R1, Vi.v_R2, Vi.v_tupL, Vi.v_tupT, Vi.v_lenL, Vi.v_lenT, Vi.v_lenF, y_ok, y_toO, y_nx, y_rt, y_bk, y_ct, List.cons_append, List.nil_append, List.append_nil, List.getElem?_cons_zero, List.getElem?_cons_succ, List.set_cons_zero, List.set_cons_succ, List.length_cons, List.length_nil, List.map_cons, List.map_nil, List.replicate_succ, List.replicate_zero, Nat.reduceSub, Nat.reduceAdd, Nat.reduceLeDiff, Int.reduceToNat, Int.reducePow, Int.reduceMul, Int.reduceEq, Int.reduceLT, Int.reduceLE, Int.reduceGT, Int.reduceNeg, Int.reduceAdd, Int.reduceSub, Int.reduceDiv, Int.reduceMod, Nat.reduceMul, Nat.reduceEqDiff, lim_val, true_and, and_true, and_self, decide_eq_true_eq, big_val, if_true, if_false, ite_true, ite_false, reduceIte, g1]
  · obtain ⟨J, y2, y3, y4, y5, y6, e2, e3⟩ := hI
    subst e2; subst e3
    obtain ⟨hlt, rfl⟩ := enum_at ht
    obtain ⟨y5', y6', e4⟩ := hook_row zs t zs[t] hlt (h.pos _ (List.getElem_mem hlt)) h.len (m ++ [Cell.lst ((List.range t).map (rowD zs))] ++ J) y5 y6 none (.ref m.length)
    have hz := h.pos _ (List.getElem_mem hlt)
    have h0 : (0 : Nat) ≤ 16777216 := by decide
    refine ⟨_, _, rfl, [some (.tup (iL1 zs)), some (.ref m.length), some (.int (t : Int)), some (.int zs[t]), some (.ref (m ++ [Cell.lst ((List.range t).map (rowD zs))] ++ J : M).length), y5', y6', none],
      m ++ [Cell.lst ((List.range (t + 1)).map (rowD zs))] ++ (J ++ [Cell.lst (iL1 (rowOf zs t zs[t]))]), ?_, J ++ [Cell.lst (iL1 (rowOf zs t zs[t]))], _, _, _, _, _, rfl, rfl⟩
    simp only [List.set_cons_zero, List.set_cons_succ]
    have s0 : ∀ (a b c d e : Option D), fhooks_1_0 [some (.tup (iL1 zs)), some (.ref m.length), a, b, c, d, e, none] (m ++ [Cell.lst ((List.range t).map (rowD zs))] ++ J) =
        .nx [some (.tup (iL1 zs)), some (.ref m.length), a, b, some (.ref (m ++ [Cell.lst ((List.range t).map (rowD zs))] ++ J : M).length), d, e, none] (m ++ [Cell.lst ((List.range t).map (rowD zs))] ++ J ++ [Cell.lst []]) := by
      intro a b c d e
      simp only [fhooks_1_0, x_var, x_c, x_bin, x_binT, x_ofT, x_seq, x_ret, x_asg, x_ifS, x_if, x_nm, x_sb, x_nil, x_cons, x_tup, x_lst, x_frz, x_new, x_call, x_callL, x_par, x_pass, x_break, x_cont, x_drop, x_un, x_and, x_or, x_not, x_for, x_wh, x_tb, x_ys, x_hold, x_app, x_iR1, x_iR2, x_iR3, x_iS, x_aug, x_tp, x_gsCons, x_gsNil, x_comp, x_some, x_no, x_andV, x_orV, x_notV, x_catL, x_repL, x_rev, rep_one, asLst_lst, asList_lst, fixS_lst, fixS_tup, Vi.v_catT, Vi.v_mulZ, Vi.v_div, Vi.v_mod, Vi.v_pow, Vi.v_add, Vi.v_sub, Vi.v_lt, Vi.v_le, Vi.v_gt, Vi.v_ge, Vi.v_int, Vi.v_intB, Vi.v_abs, Vi.v_max2, Vi.v_min2, Vi.v_neg, Vi.v_eqI, Vi.v_neI, Vi.v_eqT, Vi.v_neT, Vi.v_eqL, Vi.v_eqS, Vi.v_neS, Vi.v_R1, Vi.v_R2, Vi.v_tupL, Vi.v_tupT, Vi.v_lenL, Vi.v_lenT, Vi.v_lenF, y_ok, y_toO, y_nx, y_rt, y_bk, y_ct, List.cons_append, List.nil_append, List.append_nil, List.getElem?_cons_zero, List.getElem?_cons_succ, List.set_cons_zero, List.set_cons_succ, List.length_cons, List.length_nil, List.map_cons, List.map_nil, List.replicate_succ, List.replicate_zero, Nat.reduceSub, Nat.reduceAdd, Nat.reduceLeDiff, Int.reduceToNat, Int.reducePow, Int.reduceMul, Int.reduceEq, Int.reduceLT, Int.reduceLE, Int.reduceGT, Int.reduceNeg, Int.reduceAdd, Int.reduceSub, Int.reduceDiv, Int.reduceMod, Nat.reduceMul, Nat.reduceEqDiff, lim_val, true_and, and_true, and_self, decide_eq_true_eq, big_val, if_true, if_false, ite_true, ite_false, reduceIte, h0]
    have s1 : fhooks_1_1 [some (.tup (iL1 zs)), some (.ref m.length), some (.int (t : Int)), some (.int zs[t]), some (.ref (m ++ [Cell.lst ((List.range t).map (rowD zs))] ++ J : M).length), y5, y6, none] (m ++ [Cell.lst ((List.range t).map (rowD zs))] ++ J ++ [Cell.lst []]) =
        .nx [some (.tup (iL1 zs)), some (.ref m.length), some (.int (t : Int)), some (.int zs[t]), some (.ref (m ++ [Cell.lst ((List.range t).map (rowD zs))] ++ J : M).length), y5', y6', none] (m ++ [Cell.lst ((List.range t).map (rowD zs))] ++ J ++ [Cell.lst (iL1 (rowOf zs t zs[t]))]) := by
      unfold fhooks_1_1
      simp (disch := omega) only [x_var, x_c, x_bin, x_binT, x_ofT, x_seq, x_ret, x_asg, x_ifS, x_if, x_nm, x_sb, x_nil, x_cons, x_tup, x_lst, x_frz, x_new, x_call, x_callL, x_par, x_pass, x_break, x_cont, x_drop, x_un, x_and, x_or, x_not, x_for, x_wh, x_tb, x_ys, x_hold, x_app, x_iR1, x_iR2, x_iR3, x_iS, x_aug, x_tp, x_gsCons, x_gsNil, x_comp, x_some, x_no, x_andV, x_orV, x_notV, x_catL, x_repL, x_rev, rep_one, asLst_lst, asList_lst, fixS_lst, fixS_tup, Vi.v_catT, Vi.v_mulZ, Vi.v_div, Vi.v_mod, Vi.v_pow, Vi.v_add, Vi.v_sub, Vi.v_lt, Vi.v_le, Vi.v_gt, Vi.v_ge, Vi.v_int, Vi.v_intB, Vi.v_abs, Vi.v_max2, Vi.v_min2, Vi.v_neg, Vi.v_eqI, Vi.v_neI, Vi.v_eqT, Vi.v_neT, Vi.v_eqL, Vi.v_eqS, Vi.v_neS, Vi.v_R1, Vi.v_R2, Vi.v_tupL, Vi.v_tupT, Vi.v_lenL, Vi.v_lenT, Vi.v_lenF, y_ok, y_toO, y_nx, y_rt, y_bk, y_ct, List.cons_append, List.nil_append, List.append_nil, List.getElem?_cons_zero, List.getElem?_cons_succ, List.set_cons_zero, List.set_cons_succ, List.length_cons, List.length_nil, List.map_cons, List.map_nil, List.replicate_succ, List.replicate_zero, Nat.reduceSub, Nat.reduceAdd, Nat.reduceLeDiff, Int.reduceToNat, Int.reducePow, Int.reduceMul, Int.reduceEq, Int.reduceLT, Int.reduceLE, Int.reduceGT, Int.reduceNeg, Int.reduceAdd, Int.reduceSub, Int.reduceDiv, Int.reduceMod, Nat.reduceMul, Nat.reduceEqDiff, lim_val, true_and, and_true, and_self, decide_eq_true_eq, big_val, if_true, if_false, ite_true, ite_false, reduceIte]
      exact e4
    rw [x_seq, s0, y_nx, x_seq, s1, y_nx]
    have gt1 : gTuple [.ref (m ++ [Cell.lst ((List.range t).map (rowD zs))] ++ J : M).length] (m ++ [Cell.lst ((List.range t).map (rowD zs))] ++ J ++ [Cell.lst (iL1 (rowOf zs t zs[t]))]) = .ok (.tup (iL1 (rowOf zs t zs[t]))) (m ++ [Cell.lst ((List.range t).map (rowD zs))] ++ J ++ [Cell.lst (iL1 (rowOf zs t zs[t]))]) := by
      simp only [gTuple, asList, get_end]
    have gf : (m ++ [Cell.lst ((List.range t).map (rowD zs))] ++ J ++ [Cell.lst (iL1 (rowOf zs t zs[t]))])[m.length]? = some (.lst ((List.range t).map (rowD zs))) := by
      rw [List.append_assoc (m ++ _)]; exact get_far
    have gs : (m ++ [Cell.lst ((List.range t).map (rowD zs))] ++ J ++ [Cell.lst (iL1 (rowOf zs t zs[t]))]).set m.length (Cell.lst ((List.range t).map (rowD zs) ++ [.tup (iL1 (rowOf zs t zs[t]))])) =
        m ++ [Cell.lst ((List.range (t + 1)).map (rowD zs))] ++ (J ++ [Cell.lst (iL1 (rowOf zs t zs[t]))]) := by
      rw [List.append_assoc (m ++ _), set_far, List.range_succ, List.map_append]
      have : rowD zs t = .tup (iL1 (rowOf zs t zs[t])) := by
        unfold rowD
        rw [List.getD_eq_getElem?_getD, List.getElem?_eq_getElem hlt]; rfl
      simp [this]
    have hz2 : ((List.range t).map (rowD zs)).length < 16777216 := by
      have := h.len
      simp only [List.length_map, List.length_range]; omega
    simp only [fhooks_1_2, x_var, x_c, x_bin, x_binT, x_ofT, x_seq, x_ret, x_asg, x_ifS, x_if, x_nm, x_sb, x_nil, x_cons, x_tup, x_lst, x_frz, x_new, x_call, x_callL, x_par, x_pass, x_break, x_cont, x_drop, x_un, x_and, x_or, x_not, x_for, x_wh, x_tb, x_ys, x_hold, x_app, x_iR1, x_iR2, x_iR3, x_iS, x_aug, x_tp, x_gsCons, x_gsNil, x_comp, x_some, x_no, x_andV, x_orV, x_notV, x_catL, x_repL, x_rev, rep_one, asLst_lst, asList_lst, fixS_lst, fixS_tup, Vi.v_catT, Vi.v_mulZ, Vi.v_div, Vi.v_mod, Vi.v_pow, Vi.v_add, Vi.v_sub, Vi.v_lt, Vi.v_le, Vi.v_gt, Vi.v_ge, Vi.v_int, Vi.v_intB, Vi.v_abs, Vi.v_max2, Vi.v_min2, Vi.v_neg, Vi.v_eqI, Vi.v_neI, Vi.v_eqT, Vi.v_neT, Vi.v_eqL, Vi.v_eqS, Vi.v_neS, Vi.v_R1, Vi.v_R2, Vi.v_tupL, Vi.v_tupT, Vi.v_lenL, Vi.v_lenT, Vi.v_lenF, y_ok, y_toO, y_nx, y_rt, y_bk, y_ct, List.cons_append, List.nil_append, List.append_nil, List.getElem?_cons_zero, List.getElem?_cons_succ, List.set_cons_zero, List.set_cons_succ, List.length_cons, List.length_nil, List.map_cons, List.map_nil, List.replicate_succ, List.replicate_zero, Nat.reduceSub, Nat.reduceAdd, Nat.reduceLeDiff, Int.reduceToNat, Int.reducePow, Int.reduceMul, Int.reduceEq, Int.reduceLT, Int.reduceLE, Int.reduceGT, Int.reduceNeg, Int.reduceAdd, Int.reduceSub, Int.reduceDiv, Int.reduceMod, Nat.reduceMul, Nat.reduceEqDiff, lim_val, true_and, and_true, and_self, decide_eq_true_eq, big_val, if_true, if_false, ite_true, ite_false, reduceIte, gt1, gf, hz2, gs]
/-! ### the law's own rows -/
theorem lhooks_ok (zs : List Int) (h : Ok zs) (m : M) : f_law_hooks [.tup (iL1 zs)] m = .ok (HD zs) m := by
  let I : Nat → En → M → Prop := fun t ρ m' => ∃ (y2 y3 y4 : Option D), ρ = [some (.tup (iL1 zs)), some (.ref m.length), y2, y3, y4, none, none] ∧ m' = m ++ [Cell.lst ((List.range t).map (rowD zs))]
  have run := for_ix (g := gTp 2 (gsCons (gNm 2) (gsCons (gNm 3) gsNil))) (b := sSeq f_law_hooks_1_0 f_law_hooks_1_1) I (enumD (iL1 zs)) (fun t x ρ m' ht hI => ?_)
    [some (.tup (iL1 zs)), some (.ref m.length), none, none, none, none, none] (m ++ [Cell.lst []]) ⟨none, none, none, rfl, by simp⟩
  · obtain ⟨ρ', m', e1, y2, y3, y4, e2, e3⟩ := run
    rw [enumD_len, List.length_map] at e3
    have g1 : gTuple [.ref m.length] (m ++ [Cell.lst ((List.range zs.length).map (rowD zs))]) = .ok (HD zs) (m ++ [Cell.lst ((List.range zs.length).map (rowD zs))]) := by
      simp only [gTuple, asList, get_end]; rfl
    have nr : noRef (HD zs) = true := by
      have : ∀ l : List Nat, noRefs (l.map (rowD zs)) = true := by
        intro l
        induction l with
        | nil => rfl
        | cons a l ih => simp only [List.map_cons, noRefs, ih, Bool.and_true, rowD, noRef]; exact noRefs_ints _
      exact this _
    refine exit_app (j := [Cell.lst ((List.range zs.length).map (rowD zs))]) ?_ nr
    have h0 : (0 : Nat) ≤ 16777216 := by decide
    have ie : iEn (sCons (sVar 0) sNil) [some (.tup (iL1 zs)), some (.ref m.length), none, none, none, none, none] (m ++ [Cell.lst []]) = .ok (enumD (iL1 zs)) (m ++ [Cell.lst []]) := by
      unfold iEn
      simp only [x_var, x_c, x_bin, x_binT, x_ofT, x_seq, x_ret, x_asg, x_ifS, x_if, x_nm, x_sb, x_nil, x_cons, x_tup, x_lst, x_frz, x_new, x_call, x_callL, x_par, x_pass, x_break, x_cont, x_drop, x_un, x_and, x_or, x_not, x_for, x_wh, x_tb, x_ys, x_hold, x_app, x_iR1, x_iR2, x_iR3, x_iS, x_aug, x_tp, x_gsCons, x_gsNil, x_comp, x_some, x_no, x_andV, x_orV, x_notV, x_catL, x_repL, x_rev, rep_one, asLst_lst, asList_lst, fixS_lst, fixS_tup, Vi.v_catT, Vi.v_mulZ, Vi.v_div, Vi.v_mod, Vi.v_pow, Vi.v_add, Vi.v_sub, Vi.v_lt, Vi.v_le, Vi.v_gt, Vi.v_ge, Vi.v_int, Vi.v_intB, Vi.v_abs, Vi.v_max2, Vi.v_min2, Vi.v_neg, Vi.v_eqI, Vi.v_neI, Vi.v_eqT, Vi.v_neT, Vi.v_eqL, Vi.v_eqS, Vi.v_neS, Vi.v_R1, Vi.v_R2, Vi.v_tupL, Vi.v_tupT, Vi.v_lenL, Vi.v_lenT, Vi.v_lenF, y_ok, y_toO, y_nx, y_rt, y_bk, y_ct, List.cons_append, List.nil_append, List.append_nil, List.getElem?_cons_zero, List.getElem?_cons_succ, List.set_cons_zero, List.set_cons_succ, List.length_cons, List.length_nil, List.map_cons, List.map_nil, List.replicate_succ, List.replicate_zero, Nat.reduceSub, Nat.reduceAdd, Nat.reduceLeDiff, Int.reduceToNat, Int.reducePow, Int.reduceMul, Int.reduceEq, Int.reduceLT, Int.reduceLE, Int.reduceGT, Int.reduceNeg, Int.reduceAdd, Int.reduceSub, Int.reduceDiv, Int.reduceMod, Nat.reduceMul, Nat.reduceEqDiff, lim_val, true_and, and_true, and_self, decide_eq_true_eq, big_val, if_true, if_false, ite_true, ite_false, reduceIte]
    have s1 : f_law_hooks_1 [some (.tup (iL1 zs)), some (.ref m.length), none, none, none, none, none] (m ++ [Cell.lst []]) = .nx ρ' m' := by
      unfold f_law_hooks_1
      rw [x_for, ie]; exact e1
    unfold runDef
    simp only [f_law_hooks_0, x_var, x_c, x_bin, x_binT, x_ofT, x_seq, x_ret, x_asg, x_ifS, x_if, x_nm, x_sb, x_nil, x_cons, x_tup, x_lst, x_frz, x_new, x_call, x_callL, x_par, x_pass, x_break, x_cont, x_drop, x_un, x_and, x_or, x_not, x_for, x_wh, x_tb, x_ys, x_hold, x_app, x_iR1, x_iR2, x_iR3, x_iS, x_aug, x_tp, x_gsCons, x_gsNil, x_comp, x_some, x_no, x_andV, x_orV, x_notV, x_catL, x_repL, x_rev, rep_one, asLst_lst, asList_lst, fixS_lst, fixS_tup, Vi.v_catT, Vi.v_mulZ, Vi.v_div, Vi.v_mod, Vi.v_pow, Vi.v_add, Vi.v_sub, Vi.v_lt, Vi.v_le, Vi.v_gt, Vi.v_ge, Vi.v_int, Vi.v_intB, Vi.v_abs, Vi.v_max2, Vi.v_min2, Vi.v_neg, Vi.v_eqI, Vi.v_neI, Vi.v_eqT, Vi.v_neT, Vi.v_eqL, Vi.v_eqS, Vi.v_neS, Vi.v_R1, Vi.v_R2, Vi.v_tupL, Vi.v_tupT, Vi.v_lenL, Vi.v_lenT, Vi.v_lenF, y_ok, y_toO, y_nx, y_rt, y_bk, y_ct, List.cons_append, List.nil_append, List.append_nil, List.getElem?_cons_zero, List.getElem?_cons_succ, List.set_cons_zero, List.set_cons_succ, List.length_cons, List.length_nil, List.map_cons, List.map_nil, List.replicate_succ, List.replicate_zero, Nat.reduceSub, Nat.reduceAdd, Nat.reduceLeDiff, Int.reduceToNat, Int.reducePow, Int.reduceMul, Int.reduceEq, Int.reduceLT, Int.reduceLE, Int.reduceGT, Int.reduceNeg, Int.reduceAdd, Int.reduceSub, Int.reduceDiv, Int.reduceMod, Nat.reduceMul, Nat.reduceEqDiff, lim_val, true_and, and_true, and_self, decide_eq_true_eq, big_val, if_true, if_false, ite_true, ite_false, reduceIte, h0]
    rw [s1, y_nx, e2, e3]
    simp only [f_law_hooks_2, x_var, x_c, x_bin, x_binT, x_ofT, x_seq, x_ret, x_asg, x_ifS, x_if, x_nm, x_sb, x_nil, x_cons, x_tup, x_lst, x_frz, x_new, x_call, x_callL, x_par, x_pass, x_break, x_cont, x_drop, x_un, x_and, x_or, x_not, x_for, x_wh, x_tb, x_ys, x_hold, x_app, x_iR1, x_iR2, x_iR3, x_iS, x_aug, x_tp, x_gsCons, x_gsNil, x_comp, x_some, x_no, x_andV, x_orV, x_notV, x_catL, x_repL, x_rev, rep_one, asLst_lst, asList_lst, fixS_lst, fixS_tup, Vi.v_catT, Vi.v_mulZ, Vi.v_div, Vi.v_mod, Vi.v_pow, Vi.v_add, Vi.v_sub, Vi.v_lt, Vi.v_le, Vi.v_gt, Vi.v_ge, Vi.v_int, Vi.v_intB, Vi.v_abs, Vi.v_max2, Vi.v_min2, Vi.v_neg, Vi.v_eqI, Vi.v_neI, Vi.v_eqT, Vi.v_neT, Vi.v_eqL, Vi.v_eqS, Vi.v_neS, Vi.v_R1, Vi.v_R2, Vi.v_tupL, Vi.v_tupT, Vi.v_lenL, Vi.v_lenT, Vi.v_lenF, y_ok, y_toO, y_nx, y_rt, y_bk, y_ct, List.cons_append, List.nil_append, List.append_nil, List.getElem?_cons_zero, List.getElem?_cons_succ, List.set_cons_zero, List.set_cons_succ, List.length_cons, List.length_nil, List.map_cons, List.map_nil, List.replicate_succ, List.replicate_zero, Nat.reduceSub, Nat.reduceAdd, Nat.reduceLeDiff, Int.reduceToNat, Int.reducePow, Int.reduceMul, Int.reduceEq, Int.reduceLT, Int.reduceLE, Int.reduceGT, Int.reduceNeg, Int.reduceAdd, Int.reduceSub, Int.reduceDiv, Int.reduceMod, Nat.reduceMul, Nat.reduceEqDiff, lim_val, true_and, and_true, and_self, decide_eq_true_eq, big_val, if_true, if_false, ite_true, ite_false, reduceIte, g1]
  · obtain ⟨y2, y3, y4, e2, e3⟩ := hI
    subst e2; subst e3
    obtain ⟨hlt, rfl⟩ := enum_at ht
    have hz := h.pos _ (List.getElem_mem hlt)
    have hlen := h.len
    obtain ⟨p, hp⟩ : ∃ p, p = zs[t] := ⟨_, rfl⟩
    rw [← hp] at hz ⊢
    let B : List Int := (List.range p.toNat).map fun j => bn zs t j
    obtain ⟨M1, hM⟩ : ∃ M1 : M, M1 = m ++ [Cell.lst ((List.range t).map (rowD zs))] := ⟨_, rfl⟩
    rw [← hM]
    have hrl : (rngD 0 1 p.toNat).length ≤ 16777216 := by rw [rngD_len]; omega
    have c1 : compL (gNm 5) tYs (sCall gLen (sCons (sFrz (sComp [6] (iS (sCutT (sVar 0) (sSome (sBin gAdd (sVar 2) (sC (.int 1)))) sNo)) (gNm 6) (sBinT gGt (sVar 6) (sVar 5)) (sVar 6))) sNil))
        (wipeE [some (.tup (iL1 zs)), some (.ref m.length), some (.int (t : Int)), some (.int p), y4, none, none] [5]) (rngD 0 1 p.toNat) M1
        = .ok (((rngD 0 1 p.toNat).filter fun _ => true).map fun x => match x with | .int z => .int (bn zs t z.toNat) | _ => .non) M1 := by
      refine comp_pure _ fun x hx => ?_
      obtain ⟨j, _, rfl⟩ := List.mem_map.mp hx
      refine ⟨[some (.tup (iL1 zs)), some (.ref m.length), some (.int (t : Int)), some (.int p), y4, some (.int (0 + (j : Int) * 1)), none], rfl, rfl, fun _ => ?_⟩
      have ej : (0 + (j : Int) * 1) = (j : Int) := by omega
      rw [ej]
      have hl : ((iL1 zs).drop (t + 1)).length ≤ 16777216 := by
        rw [List.length_drop, List.length_map]; omega
      have ct : sCutT (sVar 0) (sSome (sBin gAdd (sVar 2) (sC (.int 1)))) sNo [some (.tup (iL1 zs)), some (.ref m.length), some (.int (t : Int)), some (.int p), y4, some (.int (j : Int)), none] M1 = .ok (.tup ((iL1 zs).drop (t + 1))) M1 := by
        unfold sCutT
        simp only [x_var, x_c, x_bin, x_binT, x_ofT, x_seq, x_ret, x_asg, x_ifS, x_if, x_nm, x_sb, x_nil, x_cons, x_tup, x_lst, x_frz, x_new, x_call, x_callL, x_par, x_pass, x_break, x_cont, x_drop, x_un, x_and, x_or, x_not, x_for, x_wh, x_tb, x_ys, x_hold, x_app, x_iR1, x_iR2, x_iR3, x_iS, x_aug, x_tp, x_gsCons, x_gsNil, x_comp, x_some, x_no, x_andV, x_orV, x_notV, x_catL, x_repL, x_rev, rep_one, asLst_lst, asList_lst, fixS_lst, fixS_tup, Vi.v_catT, Vi.v_mulZ, Vi.v_div, Vi.v_mod, Vi.v_pow, Vi.v_add, Vi.v_sub, Vi.v_lt, Vi.v_le, Vi.v_gt, Vi.v_ge, Vi.v_int, Vi.v_intB, Vi.v_abs, Vi.v_max2, Vi.v_min2, Vi.v_neg, Vi.v_eqI, Vi.v_neI, Vi.v_eqT, Vi.v_neT, Vi.v_eqL, Vi.v_eqS, Vi.v_neS, Vi.v_R1, Vi.v_R2, Vi.v_tupL, Vi.v_tupT, Vi.v_lenL, Vi.v_lenT, Vi.v_lenF, y_ok, y_toO, y_nx, y_rt, y_bk, y_ct, List.cons_append, List.nil_append, List.append_nil, List.getElem?_cons_zero, List.getElem?_cons_succ, List.set_cons_zero, List.set_cons_succ, List.length_cons, List.length_nil, List.map_cons, List.map_nil, List.replicate_succ, List.replicate_zero, Nat.reduceSub, Nat.reduceAdd, Nat.reduceLeDiff, Int.reduceToNat, Int.reducePow, Int.reduceMul, Int.reduceEq, Int.reduceLT, Int.reduceLE, Int.reduceGT, Int.reduceNeg, Int.reduceAdd, Int.reduceSub, Int.reduceDiv, Int.reduceMod, Nat.reduceMul, Nat.reduceEqDiff, lim_val, true_and, and_true, and_self, decide_eq_true_eq, big_val, if_true, if_false, ite_true, ite_false, reduceIte]
        rw [cut_from]
      simp only [x_var, x_c, x_bin, x_binT, x_ofT, x_seq, x_ret, x_asg, x_ifS, x_if, x_nm, x_sb, x_nil, x_cons, x_tup, x_lst, x_frz, x_new, x_call, x_callL, x_par, x_pass, x_break, x_cont, x_drop, x_un, x_and, x_or, x_not, x_for, x_wh, x_tb, x_ys, x_hold, x_app, x_iR1, x_iR2, x_iR3, x_iS, x_aug, x_tp, x_gsCons, x_gsNil, x_comp, x_some, x_no, x_andV, x_orV, x_notV, x_catL, x_repL, x_rev, rep_one, asLst_lst, asList_lst, fixS_lst, fixS_tup, Vi.v_catT, Vi.v_mulZ, Vi.v_div, Vi.v_mod, Vi.v_pow, Vi.v_add, Vi.v_sub, Vi.v_lt, Vi.v_le, Vi.v_gt, Vi.v_ge, Vi.v_int, Vi.v_intB, Vi.v_abs, Vi.v_max2, Vi.v_min2, Vi.v_neg, Vi.v_eqI, Vi.v_neI, Vi.v_eqT, Vi.v_neT, Vi.v_eqL, Vi.v_eqS, Vi.v_neS, Vi.v_R1, Vi.v_R2, Vi.v_tupL, Vi.v_tupT, Vi.v_lenL, Vi.v_lenT, Vi.v_lenF, y_ok, y_toO, y_nx, y_rt, y_bk, y_ct, List.cons_append, List.nil_append, List.append_nil, List.getElem?_cons_zero, List.getElem?_cons_succ, List.set_cons_zero, List.set_cons_succ, List.length_cons, List.length_nil, List.map_cons, List.map_nil, List.replicate_succ, List.replicate_zero, Nat.reduceSub, Nat.reduceAdd, Nat.reduceLeDiff, Int.reduceToNat, Int.reducePow, Int.reduceMul, Int.reduceEq, Int.reduceLT, Int.reduceLE, Int.reduceGT, Int.reduceNeg, Int.reduceAdd, Int.reduceSub, Int.reduceDiv, Int.reduceMod, Nat.reduceMul, Nat.reduceEqDiff, lim_val, true_and, and_true, and_self, decide_eq_true_eq, big_val, if_true, if_false, ite_true, ite_false, reduceIte]
      rw [ct]
      simp only [x_var, x_c, x_bin, x_binT, x_ofT, x_seq, x_ret, x_asg, x_ifS, x_if, x_nm, x_sb, x_nil, x_cons, x_tup, x_lst, x_frz, x_new, x_call, x_callL, x_par, x_pass, x_break, x_cont, x_drop, x_un, x_and, x_or, x_not, x_for, x_wh, x_tb, x_ys, x_hold, x_app, x_iR1, x_iR2, x_iR3, x_iS, x_aug, x_tp, x_gsCons, x_gsNil, x_comp, x_some, x_no, x_andV, x_orV, x_notV, x_catL, x_repL, x_rev, rep_one, asLst_lst, asList_lst, fixS_lst, fixS_tup, Vi.v_catT, Vi.v_mulZ, Vi.v_div, Vi.v_mod, Vi.v_pow, Vi.v_add, Vi.v_sub, Vi.v_lt, Vi.v_le, Vi.v_gt, Vi.v_ge, Vi.v_int, Vi.v_intB, Vi.v_abs, Vi.v_max2, Vi.v_min2, Vi.v_neg, Vi.v_eqI, Vi.v_neI, Vi.v_eqT, Vi.v_neT, Vi.v_eqL, Vi.v_eqS, Vi.v_neS, Vi.v_R1, Vi.v_R2, Vi.v_tupL, Vi.v_tupT, Vi.v_lenL, Vi.v_lenT, Vi.v_lenF, y_ok, y_toO, y_nx, y_rt, y_bk, y_ct, List.cons_append, List.nil_append, List.append_nil, List.getElem?_cons_zero, List.getElem?_cons_succ, List.set_cons_zero, List.set_cons_succ, List.length_cons, List.length_nil, List.map_cons, List.map_nil, List.replicate_succ, List.replicate_zero, Nat.reduceSub, Nat.reduceAdd, Nat.reduceLeDiff, Int.reduceToNat, Int.reducePow, Int.reduceMul, Int.reduceEq, Int.reduceLT, Int.reduceLE, Int.reduceGT, Int.reduceNeg, Int.reduceAdd, Int.reduceSub, Int.reduceDiv, Int.reduceMod, Nat.reduceMul, Nat.reduceEqDiff, lim_val, true_and, and_true, and_self, decide_eq_true_eq, big_val, if_true, if_false, ite_true, ite_false, reduceIte, hl]
      rw [bn_comp zs t j 6 (by decide) _ _ 5 rfl (by simp [wipeE]) (by decide)]
      simp only [x_var, x_c, x_bin, x_binT, x_ofT, x_seq, x_ret, x_asg, x_ifS, x_if, x_nm, x_sb, x_nil, x_cons, x_tup, x_lst, x_frz, x_new, x_call, x_callL, x_par, x_pass, x_break, x_cont, x_drop, x_un, x_and, x_or, x_not, x_for, x_wh, x_tb, x_ys, x_hold, x_app, x_iR1, x_iR2, x_iR3, x_iS, x_aug, x_tp, x_gsCons, x_gsNil, x_comp, x_some, x_no, x_andV, x_orV, x_notV, x_catL, x_repL, x_rev, rep_one, asLst_lst, asList_lst, fixS_lst, fixS_tup, Vi.v_catT, Vi.v_mulZ, Vi.v_div, Vi.v_mod, Vi.v_pow, Vi.v_add, Vi.v_sub, Vi.v_lt, Vi.v_le, Vi.v_gt, Vi.v_ge, Vi.v_int, Vi.v_intB, Vi.v_abs, Vi.v_max2, Vi.v_min2, Vi.v_neg, Vi.v_eqI, Vi.v_neI, Vi.v_eqT, Vi.v_neT, Vi.v_eqL, Vi.v_eqS, Vi.v_neS, Vi.v_R1, Vi.v_R2, Vi.v_tupL, Vi.v_tupT, Vi.v_lenL, Vi.v_lenT, Vi.v_lenF, y_ok, y_toO, y_nx, y_rt, y_bk, y_ct, List.cons_append, List.nil_append, List.append_nil, List.getElem?_cons_zero, List.getElem?_cons_succ, List.set_cons_zero, List.set_cons_succ, List.length_cons, List.length_nil, List.map_cons, List.map_nil, List.replicate_succ, List.replicate_zero, Nat.reduceSub, Nat.reduceAdd, Nat.reduceLeDiff, Int.reduceToNat, Int.reducePow, Int.reduceMul, Int.reduceEq, Int.reduceLT, Int.reduceLE, Int.reduceGT, Int.reduceNeg, Int.reduceAdd, Int.reduceSub, Int.reduceDiv, Int.reduceMod, Nat.reduceMul, Nat.reduceEqDiff, lim_val, true_and, and_true, and_self, decide_eq_true_eq, big_val, if_true, if_false, ite_true, ite_false, reduceIte, noexn_ok, List.length_map, bn, Int.toNat_natCast]
    have c1e : (((rngD 0 1 p.toNat).filter fun _ => true).map fun x => match x with | .int z => D.int (bn zs t z.toNat) | _ => .non) = iL1 B := by
      rw [List.filter_eq_self.mpr (fun _ _ => rfl)]
      simp only [rngD, iL1, B, List.map_map]
      apply List.map_congr_left
      intro j _
      simp only [Function.comp]
      rw [show (0 + (j : Int) * 1) = (j : Int) by omega, Int.toNat_natCast]
    have c2 : compL (gNm 5) tYs (sBin gAdd (sBin Vi.gSub (sVar 3) (sVar 5)) (sBin gIx (sVar 4) (sVar 5)))
        (wipeE [some (.tup (iL1 zs)), some (.ref m.length), some (.int (t : Int)), some (.int p), some (.lst (iL1 B)), none, none] [5]) (rngD 0 1 p.toNat) M1
        = .ok (((rngD 0 1 p.toNat).filter fun _ => true).map fun x => match x with | .int z => .int (p - z + bn zs t z.toNat) | _ => .non) M1 := by
      refine comp_pure _ fun x hx => ?_
      obtain ⟨j, hj, rfl⟩ := List.mem_map.mp hx
      have hj : j < p.toNat := List.mem_range.mp hj
      refine ⟨[some (.tup (iL1 zs)), some (.ref m.length), some (.int (t : Int)), some (.int p), some (.lst (iL1 B)), some (.int (0 + (j : Int) * 1)), none], rfl, rfl, fun _ => ?_⟩
      have ej : (0 + (j : Int) * 1) = (j : Int) := by omega
      rw [ej]
      have gi : gIx (.lst (iL1 B)) (.int (j : Int)) M1 = .ok (.int (bn zs t j)) M1 := v_ixL M1 (by simp [iL1, B, List.getElem?_map, List.getElem?_range hj])
      simp only [x_var, x_c, x_bin, x_binT, x_ofT, x_seq, x_ret, x_asg, x_ifS, x_if, x_nm, x_sb, x_nil, x_cons, x_tup, x_lst, x_frz, x_new, x_call, x_callL, x_par, x_pass, x_break, x_cont, x_drop, x_un, x_and, x_or, x_not, x_for, x_wh, x_tb, x_ys, x_hold, x_app, x_iR1, x_iR2, x_iR3, x_iS, x_aug, x_tp, x_gsCons, x_gsNil, x_comp, x_some, x_no, x_andV, x_orV, x_notV, x_catL, x_repL, x_rev, rep_one, asLst_lst, asList_lst, fixS_lst, fixS_tup, Vi.v_catT, Vi.v_mulZ, Vi.v_div, Vi.v_mod, Vi.v_pow, Vi.v_add, Vi.v_sub, Vi.v_lt, Vi.v_le, Vi.v_gt, Vi.v_ge, Vi.v_int, Vi.v_intB, Vi.v_abs, Vi.v_max2, Vi.v_min2, Vi.v_neg, Vi.v_eqI, Vi.v_neI, Vi.v_eqT, Vi.v_neT, Vi.v_eqL, Vi.v_eqS, Vi.v_neS, Vi.v_R1, Vi.v_R2, Vi.v_tupL, Vi.v_tupT, Vi.v_lenL, Vi.v_lenT, Vi.v_lenF, y_ok, y_toO, y_nx, y_rt, y_bk, y_ct, List.cons_append, List.nil_append, List.append_nil, List.getElem?_cons_zero, List.getElem?_cons_succ, List.set_cons_zero, List.set_cons_succ, List.length_cons, List.length_nil, List.map_cons, List.map_nil, List.replicate_succ, List.replicate_zero, Nat.reduceSub, Nat.reduceAdd, Nat.reduceLeDiff, Int.reduceToNat, Int.reducePow, Int.reduceMul, Int.reduceEq, Int.reduceLT, Int.reduceLE, Int.reduceGT, Int.reduceNeg, Int.reduceAdd, Int.reduceSub, Int.reduceDiv, Int.reduceMod, Nat.reduceMul, Nat.reduceEqDiff, lim_val, true_and, and_true, and_self, decide_eq_true_eq, big_val, if_true, if_false, ite_true, ite_false, reduceIte, gi, Int.toNat_natCast]
    have c2e : (((rngD 0 1 p.toNat).filter fun _ => true).map fun x => match x with | .int z => D.int (p - z + bn zs t z.toNat) | _ => .non) = iL1 (rowOf zs t p) := by
      rw [List.filter_eq_self.mpr (fun _ _ => rfl)]
      simp only [rngD, iL1, rowOf, List.map_map]
      apply List.map_congr_left
      intro j _
      simp only [Function.comp]
      rw [show (0 + (j : Int) * 1) = (j : Int) by omega, Int.toNat_natCast]
    have gf : M1[m.length]? = some (.lst ((List.range t).map (rowD zs))) := by rw [hM]; exact get_end _ _
    have gs : M1.set m.length (Cell.lst ((List.range t).map (rowD zs) ++ [.tup (iL1 (rowOf zs t p))])) = m ++ [Cell.lst ((List.range (t + 1)).map (rowD zs))] := by
      rw [hM, set_end, List.range_succ, List.map_append]
      have : rowD zs t = .tup (iL1 (rowOf zs t p)) := by
        unfold rowD
        rw [List.getD_eq_getElem?_getD, List.getElem?_eq_getElem hlt, hp]; rfl
      simp [this]
    have hz2 : ((List.range t).map (rowD zs)).length < 16777216 := by
      simp only [List.length_map, List.length_range]; omega
    refine ⟨_, _, rfl, [some (.tup (iL1 zs)), some (.ref m.length), some (.int (t : Int)), some (.int p), some (.lst (iL1 B)), none, none], _, ?_, _, _, _, rfl, rfl⟩
    simp only [List.set_cons_zero, List.set_cons_succ]
    have s0 : f_law_hooks_1_0 [some (.tup (iL1 zs)), some (.ref m.length), some (.int (t : Int)), some (.int p), y4, none, none] M1 = .nx [some (.tup (iL1 zs)), some (.ref m.length), some (.int (t : Int)), some (.int p), some (.lst (iL1 B)), none, none] M1 := by
      simp (disch := omega) only [f_law_hooks_1_0, x_var, x_c, x_bin, x_binT, x_ofT, x_seq, x_ret, x_asg, x_ifS, x_if, x_nm, x_sb, x_nil, x_cons, x_tup, x_lst, x_frz, x_new, x_call, x_callL, x_par, x_pass, x_break, x_cont, x_drop, x_un, x_and, x_or, x_not, x_for, x_wh, x_tb, x_ys, x_hold, x_app, x_iR1, x_iR2, x_iR3, x_iS, x_aug, x_tp, x_gsCons, x_gsNil, x_comp, x_some, x_no, x_andV, x_orV, x_notV, x_catL, x_repL, x_rev, rep_one, asLst_lst, asList_lst, fixS_lst, fixS_tup, Vi.v_catT, Vi.v_mulZ, Vi.v_div, Vi.v_mod, Vi.v_pow, Vi.v_add, Vi.v_sub, Vi.v_lt, Vi.v_le, Vi.v_gt, Vi.v_ge, Vi.v_int, Vi.v_intB, Vi.v_abs, Vi.v_max2, Vi.v_min2, Vi.v_neg, Vi.v_eqI, Vi.v_neI, Vi.v_eqT, Vi.v_neT, Vi.v_eqL, Vi.v_eqS, Vi.v_neS, Vi.v_R1, Vi.v_R2, Vi.v_tupL, Vi.v_tupT, Vi.v_lenL, Vi.v_lenT, Vi.v_lenF, y_ok, y_toO, y_nx, y_rt, y_bk, y_ct, List.cons_append, List.nil_append, List.append_nil, List.getElem?_cons_zero, List.getElem?_cons_succ, List.set_cons_zero, List.set_cons_succ, List.length_cons, List.length_nil, List.map_cons, List.map_nil, List.replicate_succ, List.replicate_zero, Nat.reduceSub, Nat.reduceAdd, Nat.reduceLeDiff, Int.reduceToNat, Int.reducePow, Int.reduceMul, Int.reduceEq, Int.reduceLT, Int.reduceLE, Int.reduceGT, Int.reduceNeg, Int.reduceAdd, Int.reduceSub, Int.reduceDiv, Int.reduceMod, Nat.reduceMul, Nat.reduceEqDiff, lim_val, true_and, and_true, and_self, decide_eq_true_eq, big_val, if_true, if_false, ite_true, ite_false, reduceIte, hrl]
      rw [c1, c1e]
      simp only [x_var, x_c, x_bin, x_binT, x_ofT, x_seq, x_ret, x_asg, x_ifS, x_if, x_nm, x_sb, x_nil, x_cons, x_tup, x_lst, x_frz, x_new, x_call, x_callL, x_par, x_pass, x_break, x_cont, x_drop, x_un, x_and, x_or, x_not, x_for, x_wh, x_tb, x_ys, x_hold, x_app, x_iR1, x_iR2, x_iR3, x_iS, x_aug, x_tp, x_gsCons, x_gsNil, x_comp, x_some, x_no, x_andV, x_orV, x_notV, x_catL, x_repL, x_rev, rep_one, asLst_lst, asList_lst, fixS_lst, fixS_tup, Vi.v_catT, Vi.v_mulZ, Vi.v_div, Vi.v_mod, Vi.v_pow, Vi.v_add, Vi.v_sub, Vi.v_lt, Vi.v_le, Vi.v_gt, Vi.v_ge, Vi.v_int, Vi.v_intB, Vi.v_abs, Vi.v_max2, Vi.v_min2, Vi.v_neg, Vi.v_eqI, Vi.v_neI, Vi.v_eqT, Vi.v_neT, Vi.v_eqL, Vi.v_eqS, Vi.v_neS, Vi.v_R1, Vi.v_R2, Vi.v_tupL, Vi.v_tupT, Vi.v_lenL, Vi.v_lenT, Vi.v_lenF, y_ok, y_toO, y_nx, y_rt, y_bk, y_ct, List.cons_append, List.nil_append, List.append_nil, List.getElem?_cons_zero, List.getElem?_cons_succ, List.set_cons_zero, List.set_cons_succ, List.length_cons, List.length_nil, List.map_cons, List.map_nil, List.replicate_succ, List.replicate_zero, Nat.reduceSub, Nat.reduceAdd, Nat.reduceLeDiff, Int.reduceToNat, Int.reducePow, Int.reduceMul, Int.reduceEq, Int.reduceLT, Int.reduceLE, Int.reduceGT, Int.reduceNeg, Int.reduceAdd, Int.reduceSub, Int.reduceDiv, Int.reduceMod, Nat.reduceMul, Nat.reduceEqDiff, lim_val, true_and, and_true, and_self, decide_eq_true_eq, big_val, if_true, if_false, ite_true, ite_false, reduceIte, noexn_ok]
    rw [x_seq, s0, y_nx]
    simp (disch := omega) only [f_law_hooks_1_1, x_var, x_c, x_bin, x_binT, x_ofT, x_seq, x_ret, x_asg, x_ifS, x_if, x_nm, x_sb, x_nil, x_cons, x_tup, x_lst, x_frz, x_new, x_call, x_callL, x_par, x_pass, x_break, x_cont, x_drop, x_un, x_and, x_or, x_not, x_for, x_wh, x_tb, x_ys, x_hold, x_app, x_iR1, x_iR2, x_iR3, x_iS, x_aug, x_tp, x_gsCons, x_gsNil, x_comp, x_some, x_no, x_andV, x_orV, x_notV, x_catL, x_repL, x_rev, rep_one, asLst_lst, asList_lst, fixS_lst, fixS_tup, Vi.v_catT, Vi.v_mulZ, Vi.v_div, Vi.v_mod, Vi.v_pow, Vi.v_add, Vi.v_sub, Vi.v_lt, Vi.v_le, Vi.v_gt, Vi.v_ge, Vi.v_int, Vi.v_intB, Vi.v_abs, Vi.v_max2, Vi.v_min2, Vi.v_neg, Vi.v_eqI, Vi.v_neI, Vi.v_eqT, Vi.v_neT, Vi.v_eqL, Vi.v_eqS, Vi.v_neS, Vi.v_R1, Vi.v_R2, Vi.v_tupL, Vi.v_tupT, Vi.v_lenL, Vi.v_lenT, Vi.v_lenF, y_ok, y_toO, y_nx, y_rt, y_bk, y_ct, List.cons_append, List.nil_append, List.append_nil, List.getElem?_cons_zero, List.getElem?_cons_succ, List.set_cons_zero, List.set_cons_succ, List.length_cons, List.length_nil, List.map_cons, List.map_nil, List.replicate_succ, List.replicate_zero, Nat.reduceSub, Nat.reduceAdd, Nat.reduceLeDiff, Int.reduceToNat, Int.reducePow, Int.reduceMul, Int.reduceEq, Int.reduceLT, Int.reduceLE, Int.reduceGT, Int.reduceNeg, Int.reduceAdd, Int.reduceSub, Int.reduceDiv, Int.reduceMod, Nat.reduceMul, Nat.reduceEqDiff, lim_val, true_and, and_true, and_self, decide_eq_true_eq, big_val, if_true, if_false, ite_true, ite_false, reduceIte, gf, hrl]
    rw [c2, c2e]
    simp only [x_var, x_c, x_bin, x_binT, x_ofT, x_seq, x_ret, x_asg, x_ifS, x_if, x_nm, x_sb, x_nil, x_cons, x_tup, x_lst, x_frz, x_new, x_call, x_callL, x_par, x_pass, x_break, x_cont, x_drop, x_un, x_and, x_or, x_not, x_for, x_wh, x_tb, x_ys, x_hold, x_app, x_iR1, x_iR2, x_iR3, x_iS, x_aug, x_tp, x_gsCons, x_gsNil, x_comp, x_some, x_no, x_andV, x_orV, x_notV, x_catL, x_repL, x_rev, rep_one, asLst_lst, asList_lst, fixS_lst, fixS_tup, Vi.v_catT, Vi.v_mulZ, Vi.v_div, Vi.v_mod, Vi.v_pow, Vi.v_add, Vi.v_sub, Vi.v_lt, Vi.v_le, Vi.v_gt, Vi.v_ge, Vi.v_int, Vi.v_intB, Vi.v_abs, Vi.v_max2, Vi.v_min2, Vi.v_neg, Vi.v_eqI, Vi.v_neI, Vi.v_eqT, Vi.v_neT, Vi.v_eqL, Vi.v_eqS, Vi.v_neS, Vi.v_R1, Vi.v_R2, Vi.v_tupL, Vi.v_tupT, Vi.v_lenL, Vi.v_lenT, Vi.v_lenF, y_ok, y_toO, y_nx, y_rt, y_bk, y_ct, List.cons_append, List.nil_append, List.append_nil, List.getElem?_cons_zero, List.getElem?_cons_succ, List.set_cons_zero, List.set_cons_succ, List.length_cons, List.length_nil, List.map_cons, List.map_nil, List.replicate_succ, List.replicate_zero, Nat.reduceSub, Nat.reduceAdd, Nat.reduceLeDiff, Int.reduceToNat, Int.reducePow, Int.reduceMul, Int.reduceEq, Int.reduceLT, Int.reduceLE, Int.reduceGT, Int.reduceNeg, Int.reduceAdd, Int.reduceSub, Int.reduceDiv, Int.reduceMod, Nat.reduceMul, Nat.reduceEqDiff, lim_val, true_and, and_true, and_self, decide_eq_true_eq, big_val, if_true, if_false, ite_true, ite_false, reduceIte, noexn_ok, gf, hz2, gs]
end Lk38

set_option Elab.async false
set_option linter.all false
set_option maxRecDepth 100000
set_option maxHeartbeats 4000000
namespace Lk38
open PySem PySem.Spec PyProof.Rows L2 Vi

/-! ### the same data -/
def nice : Nat → D → Bool
  | _, .int _ => true
  | k + 1, .tup xs => decide (xs.length ≤ 16777216) && xs.all (nice k)
  | _, _ => false
theorem neB (a b : Bool) (m : M) : gNe (.bl a) (.bl b) m = .ok (!(a == b)) m := by
  simp [gNe, gNeD, toPyR, toPy, SeqAt.shaped, PyData.eqv, PyData.canLay0, PyData.depth]
theorem k1 : kitB "int" "tuple" = some false := by decide +kernel
theorem k2 : kitB "int" "list" = some false := by decide +kernel
theorem k3 : kitB "int" "bool" = some false := by decide +kernel
theorem k4 : kitB "int" "str" = some false := by decide +kernel
theorem k5 : kitB "int" "int" = some true := by decide +kernel
theorem k6 : kitB "tuple" "tuple" = some true := by decide +kernel
theorem k7 : kitB "tuple" "list" = some false := by decide +kernel
theorem isi_int (T : String) (b : Bool) (h : kitB "int" T = some b) (d : SE) (ρ : En) (m : M) (i : Int) (hd : d ρ m = .ok (.int i) m) : sIsi T d ρ m = .ok (.bl b) m := by
  simp only [sIsi, hd, y_ok, tyN, h]
theorem isi_tup (T : String) (b : Bool) (h : kitB "tuple" T = some b) (d : SE) (ρ : En) (m : M) (xs : List D) (hd : d ρ m = .ok (.tup xs) m) : sIsi T d ρ m = .ok (.bl b) m := by
  simp only [sIsi, hd, y_ok, tyN, h]
theorem all_true (xs : List D) (m : M) : gAll [.lst (xs.map fun _ => D.bl true)] m = .ok (.bl true) m := by
  have : ∀ xs : List D, blsD (xs.map fun _ => D.bl true) = some (xs.map fun _ => true) := by
    intro xs
    induction xs with
    | nil => rfl
    | cons x xs ih => simp [blsD, ih]
  simp only [gAll, gBls, asList, this]
  congr 2
  rw [List.all_eq_true]
  intro b hb
  obtain ⟨_, _, rfl⟩ := List.mem_map.mp hb
  rfl
theorem same_ok : ∀ (k : Nat) (x : D) (m : M), nice k x = true → f_law_same (k + 1) [x, x] m = .ok (.bl true) m := by
  intro k
  induction k with
  | zero =>
    intro x m hx
    cases x with
    | int i =>
      show f_law_same_R (f_law_same 0) [.int i, .int i] m = _
      unfold f_law_same_R
      refine exit_same ?_ rfl
      have a1 : ∀ j, ([some (.int i), some (.int i), none, none] : En)[j]? = some (some (.int i)) → sVar j [some (.int i), some (.int i), none, none] m = .ok (.int i) m := fun j h => by simp only [x_var, h]
      have v0 := a1 0 rfl
      have v1 := a1 1 rfl
      have t1 : sIsi2 "tuple" "list" (sVar 1) [some (.int i), some (.int i), none, none] m = .ok (.bl false) m := by simp only [sIsi2, v1, y_ok, tyN, k1, k2, Bool.or_false]
      have t2 : sIsi2 "int" "str" (sVar 0) [some (.int i), some (.int i), none, none] m = .ok (.bl true) m := by simp only [sIsi2, v0, y_ok, tyN, k5, k4, Bool.or_false]
      have b0 := isi_int "bool" false k3 (sVar 0) _ m i v0
      have b1 := isi_int "bool" false k3 (sVar 1) _ m i v1
      have s0 := isi_int "str" false k4 (sVar 0) _ m i v0
      have s1 := isi_int "str" false k4 (sVar 1) _ m i v1
      have n0 : gIsN (.int i) .non m = .ok false m := rfl
      unfold runDef
      simp only [f_law_same_3, f_law_same_2a0, f_law_same_2, f_law_same_1a0, f_law_same_1, f_law_same_0a1, f_law_same_0a0a0, f_law_same_0a0, f_law_same_0, x_var, x_c, x_bin, x_binT, x_ofT, x_seq, x_ret, x_asg, x_ifS, x_if, x_nm, x_sb, x_nil, x_cons, x_tup, x_lst, x_frz, x_new, x_call, x_callL, x_par, x_pass, x_break, x_cont, x_drop, x_un, x_and, x_or, x_not, x_for, x_wh, x_tb, x_ys, x_hold, x_app, x_iR1, x_iR2, x_iR3, x_iS, x_aug, x_tp, x_gsCons, x_gsNil, x_comp, x_some, x_no, x_andV, x_orV, x_notV, x_catL, x_repL, x_rev, rep_one, asLst_lst, asList_lst, fixS_lst, fixS_tup, Vi.v_catT, Vi.v_mulZ, Vi.v_div, Vi.v_mod, Vi.v_pow, Vi.v_add, Vi.v_sub, Vi.v_lt, Vi.v_le, Vi.v_gt, Vi.v_ge, Vi.v_int, Vi.v_intB, Vi.v_abs, Vi.v_max2, Vi.v_min2, Vi.v_neg, Vi.v_eqI, Vi.v_neI, Vi.v_eqT, Vi.v_neT, Vi.v_eqL, Vi.v_eqS, Vi.v_neS, Vi.v_R1, Vi.v_R2, Vi.v_tupL, Vi.v_tupT, Vi.v_lenL, Vi.v_lenT, Vi.v_lenF, y_ok, y_toO, y_nx, y_rt, y_bk, y_ct, List.cons_append, List.nil_append, List.append_nil, List.getElem?_cons_zero, List.getElem?_cons_succ, List.set_cons_zero, List.set_cons_succ, List.length_cons, List.length_nil, List.map_cons, List.map_nil, List.replicate_succ, List.replicate_zero, Nat.reduceSub, Nat.reduceAdd, Nat.reduceLeDiff, Int.reduceToNat, Int.reducePow, Int.reduceMul, Int.reduceEq, Int.reduceLT, Int.reduceLE, Int.reduceGT, Int.reduceNeg, Int.reduceAdd, Int.reduceSub, Int.reduceDiv, Int.reduceMod, Nat.reduceMul, Nat.reduceEqDiff, lim_val, true_and, and_true, and_self, decide_eq_true_eq, big_val, if_true, if_false, ite_true, ite_false, reduceIte, t1, t2, b0, b1, s0, s1, neB, n0, Bool.false_eq_true, beq_self_eq_true, Bool.not_true, decide_true]
    | _ => simp [nice] at hx
  | succ k ih =>
    intro x m hx
    cases x with
    | int i =>
      show f_law_same_R (f_law_same (k + 1)) [.int i, .int i] m = _
      unfold f_law_same_R
      refine exit_same ?_ rfl
      have a1 : ∀ j, ([some (.int i), some (.int i), none, none] : En)[j]? = some (some (.int i)) → sVar j [some (.int i), some (.int i), none, none] m = .ok (.int i) m := fun j h => by simp only [x_var, h]
      have v0 := a1 0 rfl
      have v1 := a1 1 rfl
      have t1 : sIsi2 "tuple" "list" (sVar 1) [some (.int i), some (.int i), none, none] m = .ok (.bl false) m := by simp only [sIsi2, v1, y_ok, tyN, k1, k2, Bool.or_false]
      have t2 : sIsi2 "int" "str" (sVar 0) [some (.int i), some (.int i), none, none] m = .ok (.bl true) m := by simp only [sIsi2, v0, y_ok, tyN, k5, k4, Bool.or_false]
      have b0 := isi_int "bool" false k3 (sVar 0) _ m i v0
      have b1 := isi_int "bool" false k3 (sVar 1) _ m i v1
      have s0 := isi_int "str" false k4 (sVar 0) _ m i v0
      have s1 := isi_int "str" false k4 (sVar 1) _ m i v1
      have n0 : gIsN (.int i) .non m = .ok false m := rfl
      unfold runDef
      simp only [f_law_same_3, f_law_same_2a0, f_law_same_2, f_law_same_1a0, f_law_same_1, f_law_same_0a1, f_law_same_0a0a0, f_law_same_0a0, f_law_same_0, x_var, x_c, x_bin, x_binT, x_ofT, x_seq, x_ret, x_asg, x_ifS, x_if, x_nm, x_sb, x_nil, x_cons, x_tup, x_lst, x_frz, x_new, x_call, x_callL, x_par, x_pass, x_break, x_cont, x_drop, x_un, x_and, x_or, x_not, x_for, x_wh, x_tb, x_ys, x_hold, x_app, x_iR1, x_iR2, x_iR3, x_iS, x_aug, x_tp, x_gsCons, x_gsNil, x_comp, x_some, x_no, x_andV, x_orV, x_notV, x_catL, x_repL, x_rev, rep_one, asLst_lst, asList_lst, fixS_lst, fixS_tup, Vi.v_catT, Vi.v_mulZ, Vi.v_div, Vi.v_mod, Vi.v_pow, Vi.v_add, Vi.v_sub, Vi.v_lt, Vi.v_le, Vi.v_gt, Vi.v_ge, Vi.v_int, Vi.v_intB, Vi.v_abs, Vi.v_max2, Vi.v_min2, Vi.v_neg, Vi.v_eqI, Vi.v_neI, Vi.v_eqT, Vi.v_neT, Vi.v_eqL, Vi.v_eqS, Vi.v_neS, Vi.v_R1, Vi.v_R2, Vi.v_tupL, Vi.v_tupT, Vi.v_lenL, Vi.v_lenT, Vi.v_lenF, y_ok, y_toO, y_nx, y_rt, y_bk, y_ct, List.cons_append, List.nil_append, List.append_nil, List.getElem?_cons_zero, List.getElem?_cons_succ, List.set_cons_zero, List.set_cons_succ, List.length_cons, List.length_nil, List.map_cons, List.map_nil, List.replicate_succ, List.replicate_zero, Nat.reduceSub, Nat.reduceAdd, Nat.reduceLeDiff, Int.reduceToNat, Int.reducePow, Int.reduceMul, Int.reduceEq, Int.reduceLT, Int.reduceLE, Int.reduceGT, Int.reduceNeg, Int.reduceAdd, Int.reduceSub, Int.reduceDiv, Int.reduceMod, Nat.reduceMul, Nat.reduceEqDiff, lim_val, true_and, and_true, and_self, decide_eq_true_eq, big_val, if_true, if_false, ite_true, ite_false, reduceIte, t1, t2, b0, b1, s0, s1, neB, n0, Bool.false_eq_true, beq_self_eq_true, Bool.not_true, decide_true]
    | tup xs =>
      simp only [nice, Bool.and_eq_true, decide_eq_true_eq, List.all_eq_true] at hx
      show f_law_same_R (f_law_same (k + 1)) [.tup xs, .tup xs] m = _
      unfold f_law_same_R
      refine exit_same ?_ rfl
      have v0 : sVar 0 [some (.tup xs), some (.tup xs), none, none] m = .ok (.tup xs) m := rfl
      have v1 : sVar 1 [some (.tup xs), some (.tup xs), none, none] m = .ok (.tup xs) m := rfl
      have t1 : sIsi2 "tuple" "list" (sVar 1) [some (.tup xs), some (.tup xs), none, none] m = .ok (.bl true) m := by simp only [sIsi2, v1, y_ok, tyN, k6, k7, Bool.or_false]
      have b0 := isi_tup "tuple" true k6 (sVar 0) _ m xs v0
      have b1 := isi_tup "tuple" true k6 (sVar 1) _ m xs v1
      have s0 := isi_tup "list" false k7 (sVar 0) _ m xs v0
      have s1 := isi_tup "list" false k7 (sVar 1) _ m xs v1
      have cp : compL (gTp 2 (gsCons (gNm 2) (gsCons (gNm 3) gsNil))) tYs (sCall (f_law_same (k + 1)) (sCons (sVar 2) (sCons (sVar 3) sNil))) (wipeE [some (.tup xs), some (.tup xs), none, none] [2, 3]) (zipD xs xs) m
          = .ok (((zipD xs xs).filter fun _ => true).map fun _ => D.bl true) m := by
        refine comp_pure _ fun y hy => ?_
        obtain ⟨i, hi⟩ := List.getElem?_of_mem hy
        obtain ⟨a, b, ha, hb, rfl⟩ := zipD_get hi
        rw [ha] at hb
        cases hb
        refine ⟨[some (.tup xs), some (.tup xs), some a, some a], rfl, rfl, fun _ => ?_⟩
        have := ih a m (hx.2 a (List.mem_of_getElem? ha))
        simp only [x_var, x_c, x_bin, x_binT, x_ofT, x_seq, x_ret, x_asg, x_ifS, x_if, x_nm, x_sb, x_nil, x_cons, x_tup, x_lst, x_frz, x_new, x_call, x_callL, x_par, x_pass, x_break, x_cont, x_drop, x_un, x_and, x_or, x_not, x_for, x_wh, x_tb, x_ys, x_hold, x_app, x_iR1, x_iR2, x_iR3, x_iS, x_aug, x_tp, x_gsCons, x_gsNil, x_comp, x_some, x_no, x_andV, x_orV, x_notV, x_catL, x_repL, x_rev, rep_one, asLst_lst, asList_lst, fixS_lst, fixS_tup, Vi.v_catT, Vi.v_mulZ, Vi.v_div, Vi.v_mod, Vi.v_pow, Vi.v_add, Vi.v_sub, Vi.v_lt, Vi.v_le, Vi.v_gt, Vi.v_ge, Vi.v_int, Vi.v_intB, Vi.v_abs, Vi.v_max2, Vi.v_min2, Vi.v_neg, Vi.v_eqI, Vi.v_neI, Vi.v_eqT, Vi.v_neT, Vi.v_eqL, Vi.v_eqS, Vi.v_neS, Vi.v_R1, Vi.v_R2, Vi.v_tupL, Vi.v_tupT, Vi.v_lenL, Vi.v_lenT, Vi.v_lenF, y_ok, y_toO, y_nx, y_rt, y_bk, y_ct, List.cons_append, List.nil_append, List.append_nil, List.getElem?_cons_zero, List.getElem?_cons_succ, List.set_cons_zero, List.set_cons_succ, List.length_cons, List.length_nil, List.map_cons, List.map_nil, List.replicate_succ, List.replicate_zero, Nat.reduceSub, Nat.reduceAdd, Nat.reduceLeDiff, Int.reduceToNat, Int.reducePow, Int.reduceMul, Int.reduceEq, Int.reduceLT, Int.reduceLE, Int.reduceGT, Int.reduceNeg, Int.reduceAdd, Int.reduceSub, Int.reduceDiv, Int.reduceMod, Nat.reduceMul, Nat.reduceEqDiff, lim_val, true_and, and_true, and_self, decide_eq_true_eq, big_val, if_true, if_false, ite_true, ite_false, reduceIte, this]
      have hz : (zipD xs xs).length ≤ 16777216 := by rw [zipD_len, Nat.min_self]; exact hx.1
      have iz : iZi (sCons (sVar 0) (sCons (sVar 1) sNil)) [some (.tup xs), some (.tup xs), none, none] m = .ok (zipD xs xs) m := by
        unfold iZi
        simp only [x_var, x_c, x_bin, x_binT, x_ofT, x_seq, x_ret, x_asg, x_ifS, x_if, x_nm, x_sb, x_nil, x_cons, x_tup, x_lst, x_frz, x_new, x_call, x_callL, x_par, x_pass, x_break, x_cont, x_drop, x_un, x_and, x_or, x_not, x_for, x_wh, x_tb, x_ys, x_hold, x_app, x_iR1, x_iR2, x_iR3, x_iS, x_aug, x_tp, x_gsCons, x_gsNil, x_comp, x_some, x_no, x_andV, x_orV, x_notV, x_catL, x_repL, x_rev, rep_one, asLst_lst, asList_lst, fixS_lst, fixS_tup, Vi.v_catT, Vi.v_mulZ, Vi.v_div, Vi.v_mod, Vi.v_pow, Vi.v_add, Vi.v_sub, Vi.v_lt, Vi.v_le, Vi.v_gt, Vi.v_ge, Vi.v_int, Vi.v_intB, Vi.v_abs, Vi.v_max2, Vi.v_min2, Vi.v_neg, Vi.v_eqI, Vi.v_neI, Vi.v_eqT, Vi.v_neT, Vi.v_eqL, Vi.v_eqS, Vi.v_neS, Vi.v_R1, Vi.v_R2, Vi.v_tupL, Vi.v_tupT, Vi.v_lenL, Vi.v_lenT, Vi.v_lenF, y_ok, y_toO, y_nx, y_rt, y_bk, y_ct, List.cons_append, List.nil_append, List.append_nil, List.getElem?_cons_zero, List.getElem?_cons_succ, List.set_cons_zero, List.set_cons_succ, List.length_cons, List.length_nil, List.map_cons, List.map_nil, List.replicate_succ, List.replicate_zero, Nat.reduceSub, Nat.reduceAdd, Nat.reduceLeDiff, Int.reduceToNat, Int.reducePow, Int.reduceMul, Int.reduceEq, Int.reduceLT, Int.reduceLE, Int.reduceGT, Int.reduceNeg, Int.reduceAdd, Int.reduceSub, Int.reduceDiv, Int.reduceMod, Nat.reduceMul, Nat.reduceEqDiff, lim_val, true_and, and_true, and_self, decide_eq_true_eq, big_val, if_true, if_false, ite_true, ite_false, reduceIte]
      have al := all_true ((zipD xs xs).filter fun _ => true) m
      unfold runDef
      simp only [f_law_same_3, f_law_same_2a0, f_law_same_2, f_law_same_1a0, f_law_same_1, f_law_same_0a1, f_law_same_0a0a0, f_law_same_0a0, f_law_same_0, x_var, x_c, x_bin, x_binT, x_ofT, x_seq, x_ret, x_asg, x_ifS, x_if, x_nm, x_sb, x_nil, x_cons, x_tup, x_lst, x_frz, x_new, x_call, x_callL, x_par, x_pass, x_break, x_cont, x_drop, x_un, x_and, x_or, x_not, x_for, x_wh, x_tb, x_ys, x_hold, x_app, x_iR1, x_iR2, x_iR3, x_iS, x_aug, x_tp, x_gsCons, x_gsNil, x_comp, x_some, x_no, x_andV, x_orV, x_notV, x_catL, x_repL, x_rev, rep_one, asLst_lst, asList_lst, fixS_lst, fixS_tup, Vi.v_catT, Vi.v_mulZ, Vi.v_div, Vi.v_mod, Vi.v_pow, Vi.v_add, Vi.v_sub, Vi.v_lt, Vi.v_le, Vi.v_gt, Vi.v_ge, Vi.v_int, Vi.v_intB, Vi.v_abs, Vi.v_max2, Vi.v_min2, Vi.v_neg, Vi.v_eqI, Vi.v_neI, Vi.v_eqT, Vi.v_neT, Vi.v_eqL, Vi.v_eqS, Vi.v_neS, Vi.v_R1, Vi.v_R2, Vi.v_tupL, Vi.v_tupT, Vi.v_lenL, Vi.v_lenT, Vi.v_lenF, y_ok, y_toO, y_nx, y_rt, y_bk, y_ct, List.cons_append, List.nil_append, List.append_nil, List.getElem?_cons_zero, List.getElem?_cons_succ, List.set_cons_zero, List.set_cons_succ, List.length_cons, List.length_nil, List.map_cons, List.map_nil, List.replicate_succ, List.replicate_zero, Nat.reduceSub, Nat.reduceAdd, Nat.reduceLeDiff, Int.reduceToNat, Int.reducePow, Int.reduceMul, Int.reduceEq, Int.reduceLT, Int.reduceLE, Int.reduceGT, Int.reduceNeg, Int.reduceAdd, Int.reduceSub, Int.reduceDiv, Int.reduceMod, Nat.reduceMul, Nat.reduceEqDiff, lim_val, true_and, and_true, and_self, decide_eq_true_eq, big_val, if_true, if_false, ite_true, ite_false, reduceIte, t1, b0, b1, s0, s1, neB, iz, hz, Bool.false_eq_true, beq_self_eq_true, Bool.not_true, decide_true]
      rw [cp]
      simp only [x_var, x_c, x_bin, x_binT, x_ofT, x_seq, x_ret, x_asg, x_ifS, x_if, x_nm, x_sb, x_nil, x_cons, x_tup, x_lst, x_frz, x_new, x_call, x_callL, x_par, x_pass, x_break, x_cont, x_drop, x_un, x_and, x_or, x_not, x_for, x_wh, x_tb, x_ys, x_hold, x_app, x_iR1, x_iR2, x_iR3, x_iS, x_aug, x_tp, x_gsCons, x_gsNil, x_comp, x_some, x_no, x_andV, x_orV, x_notV, x_catL, x_repL, x_rev, rep_one, asLst_lst, asList_lst, fixS_lst, fixS_tup, Vi.v_catT, Vi.v_mulZ, Vi.v_div, Vi.v_mod, Vi.v_pow, Vi.v_add, Vi.v_sub, Vi.v_lt, Vi.v_le, Vi.v_gt, Vi.v_ge, Vi.v_int, Vi.v_intB, Vi.v_abs, Vi.v_max2, Vi.v_min2, Vi.v_neg, Vi.v_eqI, Vi.v_neI, Vi.v_eqT, Vi.v_neT, Vi.v_eqL, Vi.v_eqS, Vi.v_neS, Vi.v_R1, Vi.v_R2, Vi.v_tupL, Vi.v_tupT, Vi.v_lenL, Vi.v_lenT, Vi.v_lenF, y_ok, y_toO, y_nx, y_rt, y_bk, y_ct, List.cons_append, List.nil_append, List.append_nil, List.getElem?_cons_zero, List.getElem?_cons_succ, List.set_cons_zero, List.set_cons_succ, List.length_cons, List.length_nil, List.map_cons, List.map_nil, List.replicate_succ, List.replicate_zero, Nat.reduceSub, Nat.reduceAdd, Nat.reduceLeDiff, Int.reduceToNat, Int.reducePow, Int.reduceMul, Int.reduceEq, Int.reduceLT, Int.reduceLE, Int.reduceGT, Int.reduceNeg, Int.reduceAdd, Int.reduceSub, Int.reduceDiv, Int.reduceMod, Nat.reduceMul, Nat.reduceEqDiff, lim_val, true_and, and_true, and_self, decide_eq_true_eq, big_val, if_true, if_false, ite_true, ite_false, reduceIte, noexn_ok, al]
    | _ => simp [nice] at hx
end Lk38

set_option Elab.async false
set_option linter.all false
set_option maxRecDepth 100000
set_option maxHeartbeats 4000000
namespace Lk38
open PySem PySem.Spec PyProof.Rows L2 Vi

theorem cut_to (xs : List D) : Vi.cutD xs none (some 63) = xs.take 63 := by
  unfold Vi.cutD
  rw [show (63 : Int) = ((63 : Nat) : Int) from rfl, HT.sIx_nat, HT.sIx_none]
  rw [List.drop_zero, Nat.sub_zero]
  rcases Nat.le_total 63 xs.length with q | q
  · rw [Nat.min_eq_left q]
  · rw [Nat.min_eq_right q, List.take_length, List.take_of_length_le q]
theorem hand_1 (ns : List Int) (hl : ns.length ≤ 63) (m : M) : ∃ (g : Int) (y2 y3 : Option D), f_law_hand_1 [some (.frz (iL1 ns)), some (.ref m.length), none, none, none, none] (m ++ [Cell.lst [.int 0, .int 0, .int 0]]) =
    .nx [some (.frz (iL1 ns)), some (.ref m.length), y2, y3, none, none] (m ++ [Cell.lst [.int g, .int 0, .int 0]]) := by
  have hlen : (iL1 ns).length = ns.length := List.length_map ..
  unfold f_law_hand_1
  by_cases h1 : 0 < ns.length
  · obtain ⟨z, hz⟩ : ∃ z : Int, gIx (.frz (iL1 ns)) (.int 0) (m ++ [Cell.lst [.int 0, .int 0, .int 0]]) = .ok (.int z) (m ++ [Cell.lst [.int 0, .int 0, .int 0]]) :=
      ⟨ns[0], v_ixF (i := 0) _ (by simp [List.getElem?_map, List.getElem?_eq_getElem h1])⟩
    have h1' : (0 : Int) < (ns.length : Int) := by omega
    by_cases h2 : 1000000000000000000 ≤ z
    · let I : Nat → En → M → Prop := fun t ρ m' => ∃ (g far : Int) (y3 : Option D), ρ = [some (.frz (iL1 ns)), some (.ref m.length), some (.int far), y3, none, none] ∧ m' = m ++ [Cell.lst [.int g, .int 0, .int 0]] ∧ far.natAbs < 2 ^ (200 * t + 1)
      have run := for_ix (g := gNm 3) (b := sSeq f_law_hand_1a1_0 f_law_hand_1a1_1) I (iL1 (ns.take 63)) (fun t x ρ m' ht hI => ?_)
        [some (.frz (iL1 ns)), some (.ref m.length), some (.int 1), none, none, none] (m ++ [Cell.lst [.int 0, .int 0, .int 0]]) ⟨0, 1, none, rfl, rfl, by decide⟩
      · obtain ⟨ρ', m', e1, g, far, y3, e2, e3, _⟩ := run
        refine ⟨g, some (.int far), y3, ?_⟩
        have ct : sCutL (sVar 0) sNo (sSome (sC (.int 63))) [some (.frz (iL1 ns)), some (.ref m.length), some (.int 1), none, none, none] (m ++ [Cell.lst [.int 0, .int 0, .int 0]]) = .ok (iL1 (ns.take 63)) (m ++ [Cell.lst [.int 0, .int 0, .int 0]]) := by
          unfold sCutL
          simp only [x_var, x_c, x_bin, x_binT, x_ofT, x_seq, x_ret, x_asg, x_ifS, x_if, x_nm, x_sb, x_nil, x_cons, x_tup, x_lst, x_frz, x_new, x_call, x_callL, x_par, x_pass, x_break, x_cont, x_drop, x_un, x_and, x_or, x_not, x_for, x_wh, x_tb, x_ys, x_hold, x_app, x_iR1, x_iR2, x_iR3, x_iS, x_aug, x_tp, x_gsCons, x_gsNil, x_comp, x_some, x_no, x_andV, x_orV, x_notV, x_catL, x_repL, x_rev, rep_one, asLst_lst, asList_lst, fixS_lst, fixS_tup, Vi.v_catT, Vi.v_mulZ, Vi.v_div, Vi.v_mod, Vi.v_pow, Vi.v_add, Vi.v_sub, Vi.v_lt, Vi.v_le, Vi.v_gt, Vi.v_ge, Vi.v_int, Vi.v_intB, Vi.v_abs, Vi.v_max2, Vi.v_min2, Vi.v_neg, Vi.v_eqI, Vi.v_neI, Vi.v_eqT, Vi.v_neT, Vi.v_eqL, Vi.v_eqS, Vi.v_neS, Vi.v_R1, Vi.v_R2, Vi.v_tupL, Vi.v_tupT, Vi.v_lenL, Vi.v_lenT, Vi.v_lenF, y_ok, y_toO, y_nx, y_rt, y_bk, y_ct, List.cons_append, List.nil_append, List.append_nil, List.getElem?_cons_zero, List.getElem?_cons_succ, List.set_cons_zero, List.set_cons_succ, List.length_cons, List.length_nil, List.map_cons, List.map_nil, List.replicate_succ, List.replicate_zero, Nat.reduceSub, Nat.reduceAdd, Nat.reduceLeDiff, Int.reduceToNat, Int.reducePow, Int.reduceMul, Int.reduceEq, Int.reduceLT, Int.reduceLE, Int.reduceGT, Int.reduceNeg, Int.reduceAdd, Int.reduceSub, Int.reduceDiv, Int.reduceMod, Nat.reduceMul, Nat.reduceEqDiff, lim_val, true_and, and_true, and_self, decide_eq_true_eq, big_val, if_true, if_false, ite_true, ite_false, reduceIte, asList]
          rw [cut_to]
          simp [iL1, List.map_take]
        simp (disch := omega) only [f_law_hand_1a0, f_law_hand_1a1, x_var, x_c, x_bin, x_binT, x_ofT, x_seq, x_ret, x_asg, x_ifS, x_if, x_nm, x_sb, x_nil, x_cons, x_tup, x_lst, x_frz, x_new, x_call, x_callL, x_par, x_pass, x_break, x_cont, x_drop, x_un, x_and, x_or, x_not, x_for, x_wh, x_tb, x_ys, x_hold, x_app, x_iR1, x_iR2, x_iR3, x_iS, x_aug, x_tp, x_gsCons, x_gsNil, x_comp, x_some, x_no, x_andV, x_orV, x_notV, x_catL, x_repL, x_rev, rep_one, asLst_lst, asList_lst, fixS_lst, fixS_tup, Vi.v_catT, Vi.v_mulZ, Vi.v_div, Vi.v_mod, Vi.v_pow, Vi.v_add, Vi.v_sub, Vi.v_lt, Vi.v_le, Vi.v_gt, Vi.v_ge, Vi.v_int, Vi.v_intB, Vi.v_abs, Vi.v_max2, Vi.v_min2, Vi.v_neg, Vi.v_eqI, Vi.v_neI, Vi.v_eqT, Vi.v_neT, Vi.v_eqL, Vi.v_eqS, Vi.v_neS, Vi.v_R1, Vi.v_R2, Vi.v_tupL, Vi.v_tupT, Vi.v_lenL, Vi.v_lenT, Vi.v_lenF, y_ok, y_toO, y_nx, y_rt, y_bk, y_ct, List.cons_append, List.nil_append, List.append_nil, List.getElem?_cons_zero, List.getElem?_cons_succ, List.set_cons_zero, List.set_cons_succ, List.length_cons, List.length_nil, List.map_cons, List.map_nil, List.replicate_succ, List.replicate_zero, Nat.reduceSub, Nat.reduceAdd, Nat.reduceLeDiff, Int.reduceToNat, Int.reducePow, Int.reduceMul, Int.reduceEq, Int.reduceLT, Int.reduceLE, Int.reduceGT, Int.reduceNeg, Int.reduceAdd, Int.reduceSub, Int.reduceDiv, Int.reduceMod, Nat.reduceMul, Nat.reduceEqDiff, lim_val, true_and, and_true, and_self, decide_eq_true_eq, big_val, if_true, if_false, ite_true, ite_false, reduceIte, hlen, h1', hz, h2, decide_true]
        rw [ct]
        simp only [x_var, x_c, x_bin, x_binT, x_ofT, x_seq, x_ret, x_asg, x_ifS, x_if, x_nm, x_sb, x_nil, x_cons, x_tup, x_lst, x_frz, x_new, x_call, x_callL, x_par, x_pass, x_break, x_cont, x_drop, x_un, x_and, x_or, x_not, x_for, x_wh, x_tb, x_ys, x_hold, x_app, x_iR1, x_iR2, x_iR3, x_iS, x_aug, x_tp, x_gsCons, x_gsNil, x_comp, x_some, x_no, x_andV, x_orV, x_notV, x_catL, x_repL, x_rev, rep_one, asLst_lst, asList_lst, fixS_lst, fixS_tup, Vi.v_catT, Vi.v_mulZ, Vi.v_div, Vi.v_mod, Vi.v_pow, Vi.v_add, Vi.v_sub, Vi.v_lt, Vi.v_le, Vi.v_gt, Vi.v_ge, Vi.v_int, Vi.v_intB, Vi.v_abs, Vi.v_max2, Vi.v_min2, Vi.v_neg, Vi.v_eqI, Vi.v_neI, Vi.v_eqT, Vi.v_neT, Vi.v_eqL, Vi.v_eqS, Vi.v_neS, Vi.v_R1, Vi.v_R2, Vi.v_tupL, Vi.v_tupT, Vi.v_lenL, Vi.v_lenT, Vi.v_lenF, y_ok, y_toO, y_nx, y_rt, y_bk, y_ct, List.cons_append, List.nil_append, List.append_nil, List.getElem?_cons_zero, List.getElem?_cons_succ, List.set_cons_zero, List.set_cons_succ, List.length_cons, List.length_nil, List.map_cons, List.map_nil, List.replicate_succ, List.replicate_zero, Nat.reduceSub, Nat.reduceAdd, Nat.reduceLeDiff, Int.reduceToNat, Int.reducePow, Int.reduceMul, Int.reduceEq, Int.reduceLT, Int.reduceLE, Int.reduceGT, Int.reduceNeg, Int.reduceAdd, Int.reduceSub, Int.reduceDiv, Int.reduceMod, Nat.reduceMul, Nat.reduceEqDiff, lim_val, true_and, and_true, and_self, decide_eq_true_eq, big_val, if_true, if_false, ite_true, ite_false, reduceIte]
        rw [e1, e2, e3]
      · obtain ⟨g, far, y3, e2, e3, e4⟩ := hI
        subst e2; subst e3
        have ht' : t < 63 := by
          have := (List.getElem?_eq_some_iff.mp ht).1
          simp at this; omega
        obtain ⟨v, rfl⟩ : ∃ v : Int, x = .int v := by
          obtain ⟨v, _, e⟩ := List.mem_map.mp (List.mem_of_getElem? ht)
          exact ⟨v, e.symm⟩
        obtain ⟨u, hu⟩ : ∃ u : Int, u = (if v < 0 then -v else v) % 1000000000000000000000000000000000000000000000000000000000000 := ⟨_, rfl⟩
        have u0 : 0 ≤ u := by rw [hu]; exact Int.emod_nonneg _ (by decide)
        have u1 : u < 1000000000000000000000000000000000000000000000000000000000000 := by rw [hu]; exact Int.emod_lt_of_pos _ (by decide)
        have hf : far.natAbs < 2 ^ 499999 := Nat.lt_of_lt_of_le e4 (Nat.pow_le_pow_right (by decide) (by omega))
        have hu2 : u.natAbs < 2 ^ 499999 := Nat.lt_of_lt_of_le (show u.natAbs < 2 ^ 200 by omega) (Nat.pow_le_pow_right (by decide) (by decide))
        have ht2 : (1000000000000000000000000000000000000000000000000000000000000 : Int).natAbs < 2 ^ 499999 := Nat.lt_of_lt_of_le (show (1000000000000000000000000000000000000000000000000000000000000 : Int).natAbs < 2 ^ 200 by decide) (Nat.pow_le_pow_right (by decide) (by decide))
        have g0 : gIx (.ref m.length) (.int 0) (m ++ [Cell.lst [.int g, .int 0, .int 0]]) = .ok (.int g) (m ++ [Cell.lst [.int g, .int 0, .int 0]]) := v_ixR (i := 0) (get_end _ _) rfl
        have st : setIt (.ref m.length) (.int 0) (.int (g + u * far)) (m ++ [Cell.lst [.int g, .int 0, .int 0]]) = .ok () (m ++ [Cell.lst [.int (g + u * far), .int 0, .int 0]]) := by
          have z := v_setR (x := .int (g + u * far)) (i := 0) (get_end m (Cell.lst [.int g, .int 0, .int 0])) (by simp)
          rw [set_end] at z
          exact z
        have m1 := Vi.v_mul (m ++ [Cell.lst [.int g, .int 0, .int 0]]) hu2 hf
        have m2 := Vi.v_mul (m ++ [Cell.lst [.int (g + u * far), .int 0, .int 0]]) hf ht2
        refine ⟨_, _, rfl, [some (.frz (iL1 ns)), some (.ref m.length), some (.int (far * 1000000000000000000000000000000000000000000000000000000000000)), some (.int v), none, none], m ++ [Cell.lst [.int (g + u * far), .int 0, .int 0]], ?_, _, _, _, rfl, rfl, ?_⟩
        · simp only [List.set_cons_zero, List.set_cons_succ]
          have s0 : f_law_hand_1a1_0 [some (.frz (iL1 ns)), some (.ref m.length), some (.int far), some (.int v), none, none] (m ++ [Cell.lst [.int g, .int 0, .int 0]]) = .nx [some (.frz (iL1 ns)), some (.ref m.length), some (.int far), some (.int v), none, none] (m ++ [Cell.lst [.int (g + u * far), .int 0, .int 0]]) := by
            simp (disch := decide) only [f_law_hand_1a1_0, x_var, x_c, x_bin, x_binT, x_ofT, x_seq, x_ret, x_asg, x_ifS, x_if, x_nm, x_sb, x_nil, x_cons, x_tup, x_lst, x_frz, x_new, x_call, x_callL, x_par, x_pass, x_break, x_cont, x_drop, x_un, x_and, x_or, x_not, x_for, x_wh, x_tb, x_ys, x_hold, x_app, x_iR1, x_iR2, x_iR3, x_iS, x_aug, x_tp, x_gsCons, x_gsNil, x_comp, x_some, x_no, x_andV, x_orV, x_notV, x_catL, x_repL, x_rev, rep_one, asLst_lst, asList_lst, fixS_lst, fixS_tup, Vi.v_catT, Vi.v_mulZ, Vi.v_div, Vi.v_mod, Vi.v_pow, Vi.v_add, Vi.v_sub, Vi.v_lt, Vi.v_le, Vi.v_gt, Vi.v_ge, Vi.v_int, Vi.v_intB, Vi.v_abs, Vi.v_max2, Vi.v_min2, Vi.v_neg, Vi.v_eqI, Vi.v_neI, Vi.v_eqT, Vi.v_neT, Vi.v_eqL, Vi.v_eqS, Vi.v_neS, Vi.v_R1, Vi.v_R2, Vi.v_tupL, Vi.v_tupT, Vi.v_lenL, Vi.v_lenT, Vi.v_lenF, y_ok, y_toO, y_nx, y_rt, y_bk, y_ct, List.cons_append, List.nil_append, List.append_nil, List.getElem?_cons_zero, List.getElem?_cons_succ, List.set_cons_zero, List.set_cons_succ, List.length_cons, List.length_nil, List.map_cons, List.map_nil, List.replicate_succ, List.replicate_zero, Nat.reduceSub, Nat.reduceAdd, Nat.reduceLeDiff, Int.reduceToNat, Int.reducePow, Int.reduceMul, Int.reduceEq, Int.reduceLT, Int.reduceLE, Int.reduceGT, Int.reduceNeg, Int.reduceAdd, Int.reduceSub, Int.reduceDiv, Int.reduceMod, Nat.reduceMul, Nat.reduceEqDiff, lim_val, true_and, and_true, and_self, decide_eq_true_eq, big_val, if_true, if_false, ite_true, ite_false, reduceIte, g0]
            rw [← hu, m1]
            simp only [x_var, x_c, x_bin, x_binT, x_ofT, x_seq, x_ret, x_asg, x_ifS, x_if, x_nm, x_sb, x_nil, x_cons, x_tup, x_lst, x_frz, x_new, x_call, x_callL, x_par, x_pass, x_break, x_cont, x_drop, x_un, x_and, x_or, x_not, x_for, x_wh, x_tb, x_ys, x_hold, x_app, x_iR1, x_iR2, x_iR3, x_iS, x_aug, x_tp, x_gsCons, x_gsNil, x_comp, x_some, x_no, x_andV, x_orV, x_notV, x_catL, x_repL, x_rev, rep_one, asLst_lst, asList_lst, fixS_lst, fixS_tup, Vi.v_catT, Vi.v_mulZ, Vi.v_div, Vi.v_mod, Vi.v_pow, Vi.v_add, Vi.v_sub, Vi.v_lt, Vi.v_le, Vi.v_gt, Vi.v_ge, Vi.v_int, Vi.v_intB, Vi.v_abs, Vi.v_max2, Vi.v_min2, Vi.v_neg, Vi.v_eqI, Vi.v_neI, Vi.v_eqT, Vi.v_neT, Vi.v_eqL, Vi.v_eqS, Vi.v_neS, Vi.v_R1, Vi.v_R2, Vi.v_tupL, Vi.v_tupT, Vi.v_lenL, Vi.v_lenT, Vi.v_lenF, y_ok, y_toO, y_nx, y_rt, y_bk, y_ct, List.cons_append, List.nil_append, List.append_nil, List.getElem?_cons_zero, List.getElem?_cons_succ, List.set_cons_zero, List.set_cons_succ, List.length_cons, List.length_nil, List.map_cons, List.map_nil, List.replicate_succ, List.replicate_zero, Nat.reduceSub, Nat.reduceAdd, Nat.reduceLeDiff, Int.reduceToNat, Int.reducePow, Int.reduceMul, Int.reduceEq, Int.reduceLT, Int.reduceLE, Int.reduceGT, Int.reduceNeg, Int.reduceAdd, Int.reduceSub, Int.reduceDiv, Int.reduceMod, Nat.reduceMul, Nat.reduceEqDiff, lim_val, true_and, and_true, and_self, decide_eq_true_eq, big_val, if_true, if_false, ite_true, ite_false, reduceIte, st]
          rw [x_seq, s0, y_nx]
          simp (disch := decide) only [f_law_hand_1a1_1, x_var, x_c, x_bin, x_binT, x_ofT, x_seq, x_ret, x_asg, x_ifS, x_if, x_nm, x_sb, x_nil, x_cons, x_tup, x_lst, x_frz, x_new, x_call, x_callL, x_par, x_pass, x_break, x_cont, x_drop, x_un, x_and, x_or, x_not, x_for, x_wh, x_tb, x_ys, x_hold, x_app, x_iR1, x_iR2, x_iR3, x_iS, x_aug, x_tp, x_gsCons, x_gsNil, x_comp, x_some, x_no, x_andV, x_orV, x_notV, x_catL, x_repL, x_rev, rep_one, asLst_lst, asList_lst, fixS_lst, fixS_tup, Vi.v_catT, Vi.v_mulZ, Vi.v_div, Vi.v_mod, Vi.v_pow, Vi.v_add, Vi.v_sub, Vi.v_lt, Vi.v_le, Vi.v_gt, Vi.v_ge, Vi.v_int, Vi.v_intB, Vi.v_abs, Vi.v_max2, Vi.v_min2, Vi.v_neg, Vi.v_eqI, Vi.v_neI, Vi.v_eqT, Vi.v_neT, Vi.v_eqL, Vi.v_eqS, Vi.v_neS, Vi.v_R1, Vi.v_R2, Vi.v_tupL, Vi.v_tupT, Vi.v_lenL, Vi.v_lenT, Vi.v_lenF, y_ok, y_toO, y_nx, y_rt, y_bk, y_ct, List.cons_append, List.nil_append, List.append_nil, List.getElem?_cons_zero, List.getElem?_cons_succ, List.set_cons_zero, List.set_cons_succ, List.length_cons, List.length_nil, List.map_cons, List.map_nil, List.replicate_succ, List.replicate_zero, Nat.reduceSub, Nat.reduceAdd, Nat.reduceLeDiff, Int.reduceToNat, Int.reducePow, Int.reduceMul, Int.reduceEq, Int.reduceLT, Int.reduceLE, Int.reduceGT, Int.reduceNeg, Int.reduceAdd, Int.reduceSub, Int.reduceDiv, Int.reduceMod, Nat.reduceMul, Nat.reduceEqDiff, lim_val, true_and, and_true, and_self, decide_eq_true_eq, big_val, if_true, if_false, ite_true, ite_false, reduceIte]
          rw [m2]
          simp only [x_var, x_c, x_bin, x_binT, x_ofT, x_seq, x_ret, x_asg, x_ifS, x_if, x_nm, x_sb, x_nil, x_cons, x_tup, x_lst, x_frz, x_new, x_call, x_callL, x_par, x_pass, x_break, x_cont, x_drop, x_un, x_and, x_or, x_not, x_for, x_wh, x_tb, x_ys, x_hold, x_app, x_iR1, x_iR2, x_iR3, x_iS, x_aug, x_tp, x_gsCons, x_gsNil, x_comp, x_some, x_no, x_andV, x_orV, x_notV, x_catL, x_repL, x_rev, rep_one, asLst_lst, asList_lst, fixS_lst, fixS_tup, Vi.v_catT, Vi.v_mulZ, Vi.v_div, Vi.v_mod, Vi.v_pow, Vi.v_add, Vi.v_sub, Vi.v_lt, Vi.v_le, Vi.v_gt, Vi.v_ge, Vi.v_int, Vi.v_intB, Vi.v_abs, Vi.v_max2, Vi.v_min2, Vi.v_neg, Vi.v_eqI, Vi.v_neI, Vi.v_eqT, Vi.v_neT, Vi.v_eqL, Vi.v_eqS, Vi.v_neS, Vi.v_R1, Vi.v_R2, Vi.v_tupL, Vi.v_tupT, Vi.v_lenL, Vi.v_lenT, Vi.v_lenF, y_ok, y_toO, y_nx, y_rt, y_bk, y_ct, List.cons_append, List.nil_append, List.append_nil, List.getElem?_cons_zero, List.getElem?_cons_succ, List.set_cons_zero, List.set_cons_succ, List.length_cons, List.length_nil, List.map_cons, List.map_nil, List.replicate_succ, List.replicate_zero, Nat.reduceSub, Nat.reduceAdd, Nat.reduceLeDiff, Int.reduceToNat, Int.reducePow, Int.reduceMul, Int.reduceEq, Int.reduceLT, Int.reduceLE, Int.reduceGT, Int.reduceNeg, Int.reduceAdd, Int.reduceSub, Int.reduceDiv, Int.reduceMod, Nat.reduceMul, Nat.reduceEqDiff, lim_val, true_and, and_true, and_self, decide_eq_true_eq, big_val, if_true, if_false, ite_true, ite_false, reduceIte]
        · rw [Int.natAbs_mul]
          have : (1000000000000000000000000000000000000000000000000000000000000 : Int).natAbs < 2 ^ 200 := by decide
          calc far.natAbs * _ < 2 ^ (200 * t + 1) * 2 ^ 200 := Nat.mul_lt_mul'' e4 this
            _ = 2 ^ (200 * (t + 1) + 1) := by rw [← Nat.pow_add]; congr 1
    · refine ⟨0, none, none, ?_⟩
      simp (disch := omega) only [x_var, x_c, x_bin, x_binT, x_ofT, x_seq, x_ret, x_asg, x_ifS, x_if, x_nm, x_sb, x_nil, x_cons, x_tup, x_lst, x_frz, x_new, x_call, x_callL, x_par, x_pass, x_break, x_cont, x_drop, x_un, x_and, x_or, x_not, x_for, x_wh, x_tb, x_ys, x_hold, x_app, x_iR1, x_iR2, x_iR3, x_iS, x_aug, x_tp, x_gsCons, x_gsNil, x_comp, x_some, x_no, x_andV, x_orV, x_notV, x_catL, x_repL, x_rev, rep_one, asLst_lst, asList_lst, fixS_lst, fixS_tup, Vi.v_catT, Vi.v_mulZ, Vi.v_div, Vi.v_mod, Vi.v_pow, Vi.v_add, Vi.v_sub, Vi.v_lt, Vi.v_le, Vi.v_gt, Vi.v_ge, Vi.v_int, Vi.v_intB, Vi.v_abs, Vi.v_max2, Vi.v_min2, Vi.v_neg, Vi.v_eqI, Vi.v_neI, Vi.v_eqT, Vi.v_neT, Vi.v_eqL, Vi.v_eqS, Vi.v_neS, Vi.v_R1, Vi.v_R2, Vi.v_tupL, Vi.v_tupT, Vi.v_lenL, Vi.v_lenT, Vi.v_lenF, y_ok, y_toO, y_nx, y_rt, y_bk, y_ct, List.cons_append, List.nil_append, List.append_nil, List.getElem?_cons_zero, List.getElem?_cons_succ, List.set_cons_zero, List.set_cons_succ, List.length_cons, List.length_nil, List.map_cons, List.map_nil, List.replicate_succ, List.replicate_zero, Nat.reduceSub, Nat.reduceAdd, Nat.reduceLeDiff, Int.reduceToNat, Int.reducePow, Int.reduceMul, Int.reduceEq, Int.reduceLT, Int.reduceLE, Int.reduceGT, Int.reduceNeg, Int.reduceAdd, Int.reduceSub, Int.reduceDiv, Int.reduceMod, Nat.reduceMul, Nat.reduceEqDiff, lim_val, true_and, and_true, and_self, decide_eq_true_eq, big_val, if_true, if_false, ite_true, ite_false, reduceIte, hlen, h1', hz, h2, decide_true, decide_false, Bool.false_eq_true]
  · refine ⟨0, none, none, ?_⟩
    have h1' : ¬ (0 : Int) < (ns.length : Int) := by omega
    simp only [x_var, x_c, x_bin, x_binT, x_ofT, x_seq, x_ret, x_asg, x_ifS, x_if, x_nm, x_sb, x_nil, x_cons, x_tup, x_lst, x_frz, x_new, x_call, x_callL, x_par, x_pass, x_break, x_cont, x_drop, x_un, x_and, x_or, x_not, x_for, x_wh, x_tb, x_ys, x_hold, x_app, x_iR1, x_iR2, x_iR3, x_iS, x_aug, x_tp, x_gsCons, x_gsNil, x_comp, x_some, x_no, x_andV, x_orV, x_notV, x_catL, x_repL, x_rev, rep_one, asLst_lst, asList_lst, fixS_lst, fixS_tup, Vi.v_catT, Vi.v_mulZ, Vi.v_div, Vi.v_mod, Vi.v_pow, Vi.v_add, Vi.v_sub, Vi.v_lt, Vi.v_le, Vi.v_gt, Vi.v_ge, Vi.v_int, Vi.v_intB, Vi.v_abs, Vi.v_max2, Vi.v_min2, Vi.v_neg, Vi.v_eqI, Vi.v_neI, Vi.v_eqT, Vi.v_neT, Vi.v_eqL, Vi.v_eqS, Vi.v_neS, Vi.v_R1, Vi.v_R2, Vi.v_tupL, Vi.v_tupT, Vi.v_lenL, Vi.v_lenT, Vi.v_lenF, y_ok, y_toO, y_nx, y_rt, y_bk, y_ct, List.cons_append, List.nil_append, List.append_nil, List.getElem?_cons_zero, List.getElem?_cons_succ, List.set_cons_zero, List.set_cons_succ, List.length_cons, List.length_nil, List.map_cons, List.map_nil, List.replicate_succ, List.replicate_zero, Nat.reduceSub, Nat.reduceAdd, Nat.reduceLeDiff, Int.reduceToNat, Int.reducePow, Int.reduceMul, Int.reduceEq, Int.reduceLT, Int.reduceLE, Int.reduceGT, Int.reduceNeg, Int.reduceAdd, Int.reduceSub, Int.reduceDiv, Int.reduceMod, Nat.reduceMul, Nat.reduceEqDiff, lim_val, true_and, and_true, and_self, decide_eq_true_eq, big_val, if_true, if_false, ite_true, ite_false, reduceIte, hlen, h1', decide_false, Bool.false_eq_true]
theorem hand_ok (ns : List Int) (hl : ns.length ≤ 63) (m : M) : ∃ g a : Int, f_law_hand [.frz (iL1 ns)] m = .ok (.ref m.length) (m ++ [Cell.lst [.int g, .int a, .int 0]]) ∧ 0 ≤ a ∧ a < 2305843009213693951 := by
  obtain ⟨g, y2, y3, e0⟩ := hand_1 ns hl m
  let I : Nat → En → M → Prop := fun t ρ m' => ∃ (a : Int) (z3 z4 z5 : Option D), ρ = [some (.frz (iL1 ns)), some (.ref m.length), y2, z3, z4, z5] ∧ m' = m ++ [Cell.lst [.int g, .int a, .int 0]] ∧ 0 ≤ a ∧ a < 2305843009213693951
  have run := for_ix (g := gTp 2 (gsCons (gNm 4) (gsCons (gNm 3) gsNil))) (b := sSeq f_law_hand_2_0 f_law_hand_2_1) I (enumD (iL1 (ns.take 63))) (fun t x ρ m' ht hI => ?_)
    [some (.frz (iL1 ns)), some (.ref m.length), y2, y3, none, none] (m ++ [Cell.lst [.int g, .int 0, .int 0]]) ⟨0, y3, none, none, rfl, rfl, by decide, by decide⟩
  · obtain ⟨ρ', m', e1, a, z3, z4, z5, e2, e3, a0, a1⟩ := run
    refine ⟨g, a, ?_, a0, a1⟩
    have h0 : (3 : Nat) ≤ 16777216 := by decide
    have ie : iEn (sCons (sFrz (sCutL (sVar 0) sNo (sSome (sC (.int 63))))) sNil) [some (.frz (iL1 ns)), some (.ref m.length), y2, y3, none, none] (m ++ [Cell.lst [.int g, .int 0, .int 0]]) = .ok (enumD (iL1 (ns.take 63))) (m ++ [Cell.lst [.int g, .int 0, .int 0]]) := by
      have ct : sCutL (sVar 0) sNo (sSome (sC (.int 63))) [some (.frz (iL1 ns)), some (.ref m.length), y2, y3, none, none] (m ++ [Cell.lst [.int g, .int 0, .int 0]]) = .ok (iL1 (ns.take 63)) (m ++ [Cell.lst [.int g, .int 0, .int 0]]) := by
        unfold sCutL
        simp only [x_var, x_c, x_bin, x_binT, x_ofT, x_seq, x_ret, x_asg, x_ifS, x_if, x_nm, x_sb, x_nil, x_cons, x_tup, x_lst, x_frz, x_new, x_call, x_callL, x_par, x_pass, x_break, x_cont, x_drop, x_un, x_and, x_or, x_not, x_for, x_wh, x_tb, x_ys, x_hold, x_app, x_iR1, x_iR2, x_iR3, x_iS, x_aug, x_tp, x_gsCons, x_gsNil, x_comp, x_some, x_no, x_andV, x_orV, x_notV, x_catL, x_repL, x_rev, rep_one, asLst_lst, asList_lst, fixS_lst, fixS_tup, Vi.v_catT, Vi.v_mulZ, Vi.v_div, Vi.v_mod, Vi.v_pow, Vi.v_add, Vi.v_sub, Vi.v_lt, Vi.v_le, Vi.v_gt, Vi.v_ge, Vi.v_int, Vi.v_intB, Vi.v_abs, Vi.v_max2, Vi.v_min2, Vi.v_neg, Vi.v_eqI, Vi.v_neI, Vi.v_eqT, Vi.v_neT, Vi.v_eqL, Vi.v_eqS, Vi.v_neS, Vi.v_R1, Vi.v_R2, Vi.v_tupL, Vi.v_tupT, Vi.v_lenL, Vi.v_lenT, Vi.v_lenF, y_ok, y_toO, y_nx, y_rt, y_bk, y_ct, List.cons_append, List.nil_append, List.append_nil, List.getElem?_cons_zero, List.getElem?_cons_succ, List.set_cons_zero, List.set_cons_succ, List.length_cons, List.length_nil, List.map_cons, List.map_nil, List.replicate_succ, List.replicate_zero, Nat.reduceSub, Nat.reduceAdd, Nat.reduceLeDiff, Int.reduceToNat, Int.reducePow, Int.reduceMul, Int.reduceEq, Int.reduceLT, Int.reduceLE, Int.reduceGT, Int.reduceNeg, Int.reduceAdd, Int.reduceSub, Int.reduceDiv, Int.reduceMod, Nat.reduceMul, Nat.reduceEqDiff, lim_val, true_and, and_true, and_self, decide_eq_true_eq, big_val, if_true, if_false, ite_true, ite_false, reduceIte, asList]
        rw [cut_to]
        simp [iL1, List.map_take]
      unfold iEn
      simp only [x_var, x_c, x_bin, x_binT, x_ofT, x_seq, x_ret, x_asg, x_ifS, x_if, x_nm, x_sb, x_nil, x_cons, x_tup, x_lst, x_frz, x_new, x_call, x_callL, x_par, x_pass, x_break, x_cont, x_drop, x_un, x_and, x_or, x_not, x_for, x_wh, x_tb, x_ys, x_hold, x_app, x_iR1, x_iR2, x_iR3, x_iS, x_aug, x_tp, x_gsCons, x_gsNil, x_comp, x_some, x_no, x_andV, x_orV, x_notV, x_catL, x_repL, x_rev, rep_one, asLst_lst, asList_lst, fixS_lst, fixS_tup, Vi.v_catT, Vi.v_mulZ, Vi.v_div, Vi.v_mod, Vi.v_pow, Vi.v_add, Vi.v_sub, Vi.v_lt, Vi.v_le, Vi.v_gt, Vi.v_ge, Vi.v_int, Vi.v_intB, Vi.v_abs, Vi.v_max2, Vi.v_min2, Vi.v_neg, Vi.v_eqI, Vi.v_neI, Vi.v_eqT, Vi.v_neT, Vi.v_eqL, Vi.v_eqS, Vi.v_neS, Vi.v_R1, Vi.v_R2, Vi.v_tupL, Vi.v_tupT, Vi.v_lenL, Vi.v_lenT, Vi.v_lenF, y_ok, y_toO, y_nx, y_rt, y_bk, y_ct, List.cons_append, List.nil_append, List.append_nil, List.getElem?_cons_zero, List.getElem?_cons_succ, List.set_cons_zero, List.set_cons_succ, List.length_cons, List.length_nil, List.map_cons, List.map_nil, List.replicate_succ, List.replicate_zero, Nat.reduceSub, Nat.reduceAdd, Nat.reduceLeDiff, Int.reduceToNat, Int.reducePow, Int.reduceMul, Int.reduceEq, Int.reduceLT, Int.reduceLE, Int.reduceGT, Int.reduceNeg, Int.reduceAdd, Int.reduceSub, Int.reduceDiv, Int.reduceMod, Nat.reduceMul, Nat.reduceEqDiff, lim_val, true_and, and_true, and_self, decide_eq_true_eq, big_val, if_true, if_false, ite_true, ite_false, reduceIte]
      rw [ct]
      simp only [x_var, x_c, x_bin, x_binT, x_ofT, x_seq, x_ret, x_asg, x_ifS, x_if, x_nm, x_sb, x_nil, x_cons, x_tup, x_lst, x_frz, x_new, x_call, x_callL, x_par, x_pass, x_break, x_cont, x_drop, x_un, x_and, x_or, x_not, x_for, x_wh, x_tb, x_ys, x_hold, x_app, x_iR1, x_iR2, x_iR3, x_iS, x_aug, x_tp, x_gsCons, x_gsNil, x_comp, x_some, x_no, x_andV, x_orV, x_notV, x_catL, x_repL, x_rev, rep_one, asLst_lst, asList_lst, fixS_lst, fixS_tup, Vi.v_catT, Vi.v_mulZ, Vi.v_div, Vi.v_mod, Vi.v_pow, Vi.v_add, Vi.v_sub, Vi.v_lt, Vi.v_le, Vi.v_gt, Vi.v_ge, Vi.v_int, Vi.v_intB, Vi.v_abs, Vi.v_max2, Vi.v_min2, Vi.v_neg, Vi.v_eqI, Vi.v_neI, Vi.v_eqT, Vi.v_neT, Vi.v_eqL, Vi.v_eqS, Vi.v_neS, Vi.v_R1, Vi.v_R2, Vi.v_tupL, Vi.v_tupT, Vi.v_lenL, Vi.v_lenT, Vi.v_lenF, y_ok, y_toO, y_nx, y_rt, y_bk, y_ct, List.cons_append, List.nil_append, List.append_nil, List.getElem?_cons_zero, List.getElem?_cons_succ, List.set_cons_zero, List.set_cons_succ, List.length_cons, List.length_nil, List.map_cons, List.map_nil, List.replicate_succ, List.replicate_zero, Nat.reduceSub, Nat.reduceAdd, Nat.reduceLeDiff, Int.reduceToNat, Int.reducePow, Int.reduceMul, Int.reduceEq, Int.reduceLT, Int.reduceLE, Int.reduceGT, Int.reduceNeg, Int.reduceAdd, Int.reduceSub, Int.reduceDiv, Int.reduceMod, Nat.reduceMul, Nat.reduceEqDiff, lim_val, true_and, and_true, and_self, decide_eq_true_eq, big_val, if_true, if_false, ite_true, ite_false, reduceIte]
    have s2 : f_law_hand_2 [some (.frz (iL1 ns)), some (.ref m.length), y2, y3, none, none] (m ++ [Cell.lst [.int g, .int 0, .int 0]]) = .nx ρ' m' := by
      unfold f_law_hand_2
      rw [x_for, ie]; exact e1
    unfold f_law_hand runDef
    simp only [f_law_hand_0, x_var, x_c, x_bin, x_binT, x_ofT, x_seq, x_ret, x_asg, x_ifS, x_if, x_nm, x_sb, x_nil, x_cons, x_tup, x_lst, x_frz, x_new, x_call, x_callL, x_par, x_pass, x_break, x_cont, x_drop, x_un, x_and, x_or, x_not, x_for, x_wh, x_tb, x_ys, x_hold, x_app, x_iR1, x_iR2, x_iR3, x_iS, x_aug, x_tp, x_gsCons, x_gsNil, x_comp, x_some, x_no, x_andV, x_orV, x_notV, x_catL, x_repL, x_rev, rep_one, asLst_lst, asList_lst, fixS_lst, fixS_tup, Vi.v_catT, Vi.v_mulZ, Vi.v_div, Vi.v_mod, Vi.v_pow, Vi.v_add, Vi.v_sub, Vi.v_lt, Vi.v_le, Vi.v_gt, Vi.v_ge, Vi.v_int, Vi.v_intB, Vi.v_abs, Vi.v_max2, Vi.v_min2, Vi.v_neg, Vi.v_eqI, Vi.v_neI, Vi.v_eqT, Vi.v_neT, Vi.v_eqL, Vi.v_eqS, Vi.v_neS, Vi.v_R1, Vi.v_R2, Vi.v_tupL, Vi.v_tupT, Vi.v_lenL, Vi.v_lenT, Vi.v_lenF, y_ok, y_toO, y_nx, y_rt, y_bk, y_ct, List.cons_append, List.nil_append, List.append_nil, List.getElem?_cons_zero, List.getElem?_cons_succ, List.set_cons_zero, List.set_cons_succ, List.length_cons, List.length_nil, List.map_cons, List.map_nil, List.replicate_succ, List.replicate_zero, Nat.reduceSub, Nat.reduceAdd, Nat.reduceLeDiff, Int.reduceToNat, Int.reducePow, Int.reduceMul, Int.reduceEq, Int.reduceLT, Int.reduceLE, Int.reduceGT, Int.reduceNeg, Int.reduceAdd, Int.reduceSub, Int.reduceDiv, Int.reduceMod, Nat.reduceMul, Nat.reduceEqDiff, lim_val, true_and, and_true, and_self, decide_eq_true_eq, big_val, if_true, if_false, ite_true, ite_false, reduceIte, h0]
    rw [e0, y_nx, x_seq, s2, y_nx, e2, e3]
    simp only [f_law_hand_3, x_var, x_c, x_bin, x_binT, x_ofT, x_seq, x_ret, x_asg, x_ifS, x_if, x_nm, x_sb, x_nil, x_cons, x_tup, x_lst, x_frz, x_new, x_call, x_callL, x_par, x_pass, x_break, x_cont, x_drop, x_un, x_and, x_or, x_not, x_for, x_wh, x_tb, x_ys, x_hold, x_app, x_iR1, x_iR2, x_iR3, x_iS, x_aug, x_tp, x_gsCons, x_gsNil, x_comp, x_some, x_no, x_andV, x_orV, x_notV, x_catL, x_repL, x_rev, rep_one, asLst_lst, asList_lst, fixS_lst, fixS_tup, Vi.v_catT, Vi.v_mulZ, Vi.v_div, Vi.v_mod, Vi.v_pow, Vi.v_add, Vi.v_sub, Vi.v_lt, Vi.v_le, Vi.v_gt, Vi.v_ge, Vi.v_int, Vi.v_intB, Vi.v_abs, Vi.v_max2, Vi.v_min2, Vi.v_neg, Vi.v_eqI, Vi.v_neI, Vi.v_eqT, Vi.v_neT, Vi.v_eqL, Vi.v_eqS, Vi.v_neS, Vi.v_R1, Vi.v_R2, Vi.v_tupL, Vi.v_tupT, Vi.v_lenL, Vi.v_lenT, Vi.v_lenF, y_ok, y_toO, y_nx, y_rt, y_bk, y_ct, List.cons_append, List.nil_append, List.append_nil, List.getElem?_cons_zero, List.getElem?_cons_succ, List.set_cons_zero, List.set_cons_succ, List.length_cons, List.length_nil, List.map_cons, List.map_nil, List.replicate_succ, List.replicate_zero, Nat.reduceSub, Nat.reduceAdd, Nat.reduceLeDiff, Int.reduceToNat, Int.reducePow, Int.reduceMul, Int.reduceEq, Int.reduceLT, Int.reduceLE, Int.reduceGT, Int.reduceNeg, Int.reduceAdd, Int.reduceSub, Int.reduceDiv, Int.reduceMod, Nat.reduceMul, Nat.reduceEqDiff, lim_val, true_and, and_true, and_self, decide_eq_true_eq, big_val, if_true, if_false, ite_true, ite_false, reduceIte]
  · obtain ⟨a, z3, z4, z5, e2, e3, a0, a1⟩ := hI
    subst e2; subst e3
    obtain ⟨hlt, rfl⟩ := enum_at ht
    have ht' : t < 63 := by simp at hlt; omega
    obtain ⟨v, hv⟩ : ∃ v, v = (ns.take 63)[t] := ⟨_, rfl⟩
    rw [← hv]
    have i1 : gIx (.ref m.length) (.int 1) (m ++ [Cell.lst [.int g, .int a, .int 0]]) = .ok (.int a) (m ++ [Cell.lst [.int g, .int a, .int 0]]) := v_ixR (i := 1) (get_end _ _) rfl
    obtain ⟨b, hb⟩ : ∃ b : Int, b = (a * 48271 + (v % 2305843009213693951 + 7919 * (t : Int) + 3)) % 2305843009213693951 := ⟨_, rfl⟩
    have st : setIt (.ref m.length) (.int 1) (.int b) (m ++ [Cell.lst [.int g, .int a, .int 0]]) = .ok () (m ++ [Cell.lst [.int g, .int b, .int 0]]) := by
      have z := v_setR (x := .int b) (i := 1) (get_end m (Cell.lst [.int g, .int a, .int 0])) (by simp)
      rw [set_end] at z
      exact z
    refine ⟨_, _, rfl, [some (.frz (iL1 ns)), some (.ref m.length), y2, some (.int v), some (.int (t : Int)), some (.int (v % 2305843009213693951 + 7919 * (t : Int) + 3))], m ++ [Cell.lst [.int g, .int b, .int 0]], ?_, b, _, _, _, rfl, rfl, by rw [hb]; exact Int.emod_nonneg _ (by decide), by rw [hb]; exact Int.emod_lt_of_pos _ (by decide)⟩
    simp only [List.set_cons_zero, List.set_cons_succ]
    simp (disch := omega) only [f_law_hand_2_0, f_law_hand_2_1, x_var, x_c, x_bin, x_binT, x_ofT, x_seq, x_ret, x_asg, x_ifS, x_if, x_nm, x_sb, x_nil, x_cons, x_tup, x_lst, x_frz, x_new, x_call, x_callL, x_par, x_pass, x_break, x_cont, x_drop, x_un, x_and, x_or, x_not, x_for, x_wh, x_tb, x_ys, x_hold, x_app, x_iR1, x_iR2, x_iR3, x_iS, x_aug, x_tp, x_gsCons, x_gsNil, x_comp, x_some, x_no, x_andV, x_orV, x_notV, x_catL, x_repL, x_rev, rep_one, asLst_lst, asList_lst, fixS_lst, fixS_tup, Vi.v_catT, Vi.v_mulZ, Vi.v_div, Vi.v_mod, Vi.v_pow, Vi.v_add, Vi.v_sub, Vi.v_lt, Vi.v_le, Vi.v_gt, Vi.v_ge, Vi.v_int, Vi.v_intB, Vi.v_abs, Vi.v_max2, Vi.v_min2, Vi.v_neg, Vi.v_eqI, Vi.v_neI, Vi.v_eqT, Vi.v_neT, Vi.v_eqL, Vi.v_eqS, Vi.v_neS, Vi.v_R1, Vi.v_R2, Vi.v_tupL, Vi.v_tupT, Vi.v_lenL, Vi.v_lenT, Vi.v_lenF, y_ok, y_toO, y_nx, y_rt, y_bk, y_ct, List.cons_append, List.nil_append, List.append_nil, List.getElem?_cons_zero, List.getElem?_cons_succ, List.set_cons_zero, List.set_cons_succ, List.length_cons, List.length_nil, List.map_cons, List.map_nil, List.replicate_succ, List.replicate_zero, Nat.reduceSub, Nat.reduceAdd, Nat.reduceLeDiff, Int.reduceToNat, Int.reducePow, Int.reduceMul, Int.reduceEq, Int.reduceLT, Int.reduceLE, Int.reduceGT, Int.reduceNeg, Int.reduceAdd, Int.reduceSub, Int.reduceDiv, Int.reduceMod, Nat.reduceMul, Nat.reduceEqDiff, lim_val, true_and, and_true, and_self, decide_eq_true_eq, big_val, if_true, if_false, ite_true, ite_false, reduceIte, i1]
    rw [← hb, st]
    simp only [x_var, x_c, x_bin, x_binT, x_ofT, x_seq, x_ret, x_asg, x_ifS, x_if, x_nm, x_sb, x_nil, x_cons, x_tup, x_lst, x_frz, x_new, x_call, x_callL, x_par, x_pass, x_break, x_cont, x_drop, x_un, x_and, x_or, x_not, x_for, x_wh, x_tb, x_ys, x_hold, x_app, x_iR1, x_iR2, x_iR3, x_iS, x_aug, x_tp, x_gsCons, x_gsNil, x_comp, x_some, x_no, x_andV, x_orV, x_notV, x_catL, x_repL, x_rev, rep_one, asLst_lst, asList_lst, fixS_lst, fixS_tup, Vi.v_catT, Vi.v_mulZ, Vi.v_div, Vi.v_mod, Vi.v_pow, Vi.v_add, Vi.v_sub, Vi.v_lt, Vi.v_le, Vi.v_gt, Vi.v_ge, Vi.v_int, Vi.v_intB, Vi.v_abs, Vi.v_max2, Vi.v_min2, Vi.v_neg, Vi.v_eqI, Vi.v_neI, Vi.v_eqT, Vi.v_neT, Vi.v_eqL, Vi.v_eqS, Vi.v_neS, Vi.v_R1, Vi.v_R2, Vi.v_tupL, Vi.v_tupT, Vi.v_lenL, Vi.v_lenT, Vi.v_lenF, y_ok, y_toO, y_nx, y_rt, y_bk, y_ct, List.cons_append, List.nil_append, List.append_nil, List.getElem?_cons_zero, List.getElem?_cons_succ, List.set_cons_zero, List.set_cons_succ, List.length_cons, List.length_nil, List.map_cons, List.map_nil, List.replicate_succ, List.replicate_zero, Nat.reduceSub, Nat.reduceAdd, Nat.reduceLeDiff, Int.reduceToNat, Int.reducePow, Int.reduceMul, Int.reduceEq, Int.reduceLT, Int.reduceLE, Int.reduceGT, Int.reduceNeg, Int.reduceAdd, Int.reduceSub, Int.reduceDiv, Int.reduceMod, Nat.reduceMul, Nat.reduceEqDiff, lim_val, true_and, and_true, and_self, decide_eq_true_eq, big_val, if_true, if_false, ite_true, ite_false, reduceIte]
/-! ### the law -/
theorem nice_HD (zs : List Int) (h : Ok zs) : nice 2 (HD zs) = true := by
  have hlen := h.len
  simp only [nice, HD, Bool.and_eq_true, decide_eq_true_eq, List.all_eq_true, List.length_map, List.length_range]
  refine ⟨by omega, fun x hx => ?_⟩
  obtain ⟨i, hi, rfl⟩ := List.mem_map.mp hx
  have hi : i < zs.length := List.mem_range.mp hi
  have hz := h.pos zs[i] (List.getElem_mem hi)
  simp only [nice, rowD, Bool.and_eq_true, decide_eq_true_eq, List.all_eq_true, List.length_map, rowOf, List.length_range]
  rw [List.getD_eq_getElem?_getD, List.getElem?_eq_getElem hi]
  refine ⟨by simp only [Option.getD_some]; omega, fun x hx => ?_⟩
  obtain ⟨_, _, rfl⟩ := List.mem_map.mp hx
  rfl
theorem same8 (zs : List Int) (h : Ok zs) (m : M) : f_law_same 8 [HD zs, HD zs] m = .ok (.bl true) m := by
  refine same_ok 7 (HD zs) m ?_
  have := nice_HD zs h
  have up : ∀ (k : Nat) (x : D), nice k x = true → nice (k + 1) x = true := by
    intro k
    induction k with
    | zero => intro x hx; cases x <;> simp [nice] at hx ⊢
    | succ k ih =>
      intro x hx
      cases x with
      | int i => rfl
      | tup xs =>
        simp only [nice, Bool.and_eq_true, decide_eq_true_eq, List.all_eq_true] at hx ⊢
        exact ⟨hx.1, fun y hy => ih y (hx.2 y hy)⟩
      | _ => simp [nice] at hx
  exact up 6 _ (up 5 _ (up 4 _ (up 3 _ (up 2 _ this))))
end Lk38

set_option Elab.async false
set_option linter.all false
set_option maxRecDepth 100000
set_option maxHeartbeats 4000000
namespace Lk38
open PySem PySem.Spec PyProof.Rows L2 Vi

theorem intsD_ints : ∀ ns : List Int, intsD (iL1 ns) = some ns
  | [] => rfl
  | n :: ns => by simp only [iL1, List.map_cons, intsD]; rw [intsD_ints ns]; rfl
theorem sumL (ns : List Int) (m : M) : gSum [.lst (iL1 ns)] m = .ok (.int ns.sum) m := by simp only [gSum, asSeq, intsD_ints]
theorem sumT (ns : List Int) (m : M) : gSum [.tup (iL1 ns)] m = .ok (.int ns.sum) m := by simp only [gSum, asSeq, intsD_ints]
theorem le_sum : ∀ (zs : List Int), (∀ z ∈ zs, 1 ≤ z) → ∀ z ∈ zs, z ≤ zs.sum
  | [], _, _, h => by cases h
  | y :: zs, h, z, hz => by
    have h0 := h y (List.mem_cons_self ..)
    have hs := sum_ge zs fun x hx => h x (List.mem_cons_of_mem _ hx)
    rw [List.sum_cons]
    rcases List.mem_cons.mp hz with e | e
    · omega
    · have := le_sum zs (fun x hx => h x (List.mem_cons_of_mem _ hx)) z e
      omega
theorem ok_of {most : Int} {zs : List Int} (h : Pt most zs) (hm : most < 900) : Ok zs := by
  have hs := sum_ge zs h.pos
  have := h.sum
  exact ⟨fun z hz => ⟨h.pos z hz, by have := le_sum zs h.pos z hz; omega⟩, by omega⟩
theorem lens (zs : List Int) (h : Ok zs) (ρ : En) (hρ : 7 < ρ.length) (m : M) :
    compL (gNm 7) tYs (sCall gLen (sCons (sVar 7) sNil)) ρ ((List.range zs.length).map (rowD zs)) m = .ok (iL1 zs) m := by
  rw [comp_pure (p := fun _ => true) (f := fun x => match x with | .tup ys => .int (ys.length : Int) | _ => .non) _ fun x hx => ?_]
  · rw [List.filter_eq_self.mpr (fun _ _ => rfl), List.map_map]
    congr 1
    apply List.ext_getElem
    · simp
    · intro i h1 h2
      have hi : i < zs.length := by simpa using h2
      have := h.pos zs[i] (List.getElem_mem hi)
      simp only [List.getElem_map, List.getElem_range, Function.comp, rowD, rowOf, List.length_map, List.length_range, iL1]
      rw [List.getD_eq_getElem?_getD, List.getElem?_eq_getElem hi]
      simp only [Option.getD_some]
      congr 1
      omega
  · obtain ⟨i, _, rfl⟩ := List.mem_map.mp hx
    have e2 : (ρ.set 7 (some (rowD zs i)))[7]? = some (some (rowD zs i)) := by rw [List.getElem?_set_self hρ]
    obtain ⟨ys, hys⟩ : ∃ ys, rowD zs i = .tup ys := ⟨_, rfl⟩
    rw [hys] at e2
    refine ⟨_, rfl, rfl, fun _ => ?_⟩
    rw [hys]
    simp only [x_var, x_c, x_bin, x_binT, x_ofT, x_seq, x_ret, x_asg, x_ifS, x_if, x_nm, x_sb, x_nil, x_cons, x_tup, x_lst, x_frz, x_new, x_call, x_callL, x_par, x_pass, x_break, x_cont, x_drop, x_un, x_and, x_or, x_not, x_for, x_wh, x_tb, x_ys, x_hold, x_app, x_iR1, x_iR2, x_iR3, x_iS, x_aug, x_tp, x_gsCons, x_gsNil, x_comp, x_some, x_no, x_andV, x_orV, x_notV, x_catL, x_repL, x_rev, rep_one, asLst_lst, asList_lst, fixS_lst, fixS_tup, Vi.v_catT, Vi.v_mulZ, Vi.v_div, Vi.v_mod, Vi.v_pow, Vi.v_add, Vi.v_sub, Vi.v_lt, Vi.v_le, Vi.v_gt, Vi.v_ge, Vi.v_int, Vi.v_intB, Vi.v_abs, Vi.v_max2, Vi.v_min2, Vi.v_neg, Vi.v_eqI, Vi.v_neI, Vi.v_eqT, Vi.v_neT, Vi.v_eqL, Vi.v_eqS, Vi.v_neS, Vi.v_R1, Vi.v_R2, Vi.v_tupL, Vi.v_tupT, Vi.v_lenL, Vi.v_lenT, Vi.v_lenF, y_ok, y_toO, y_nx, y_rt, y_bk, y_ct, List.cons_append, List.nil_append, List.append_nil, List.getElem?_cons_zero, List.getElem?_cons_succ, List.set_cons_zero, List.set_cons_succ, List.length_cons, List.length_nil, List.map_cons, List.map_nil, List.replicate_succ, List.replicate_zero, Nat.reduceSub, Nat.reduceAdd, Nat.reduceLeDiff, Int.reduceToNat, Int.reducePow, Int.reduceMul, Int.reduceEq, Int.reduceLT, Int.reduceLE, Int.reduceGT, Int.reduceNeg, Int.reduceAdd, Int.reduceSub, Int.reduceDiv, Int.reduceMod, Nat.reduceMul, Nat.reduceEqDiff, lim_val, true_and, and_true, and_self, decide_eq_true_eq, big_val, if_true, if_false, ite_true, ite_false, reduceIte, e2]
theorem again_ok (zs : List Int) (h : Ok zs) (a b c d : Option D) (m : M) (y6 : Option D) : ∃ y : Option D, flaw_1_4 [a, b, c, d, some (.tup (iL1 zs)), some (HD zs), y6, none] m = .nx [a, b, c, d, some (.tup (iL1 zs)), some (HD zs), y, none] m := by
  let I : Nat → En → M → Prop := fun t ρ m' => ∃ y : Option D, ρ = [a, b, c, d, some (.tup (iL1 zs)), some (HD zs), y, none] ∧ m' = m
  have run := for_rng (g := gNm 6) (b := flaw_1_4_0) (n := 2) (lo := 0) I (fun t ρ m' ht hI => ?_) [a, b, c, d, some (.tup (iL1 zs)), some (HD zs), y6, none] m ⟨y6, rfl, rfl⟩
  · obtain ⟨ρ', m', e1, y, e2, e3⟩ := run
    refine ⟨y, ?_⟩
    have e2n : (2 : Int).toNat = 2 := rfl
    simp (disch := omega) only [flaw_1_4, x_var, x_c, x_bin, x_binT, x_ofT, x_seq, x_ret, x_asg, x_ifS, x_if, x_nm, x_sb, x_nil, x_cons, x_tup, x_lst, x_frz, x_new, x_call, x_callL, x_par, x_pass, x_break, x_cont, x_drop, x_un, x_and, x_or, x_not, x_for, x_wh, x_tb, x_ys, x_hold, x_app, x_iR1, x_iR2, x_iR3, x_iS, x_aug, x_tp, x_gsCons, x_gsNil, x_comp, x_some, x_no, x_andV, x_orV, x_notV, x_catL, x_repL, x_rev, rep_one, asLst_lst, asList_lst, fixS_lst, fixS_tup, Vi.v_catT, Vi.v_mulZ, Vi.v_div, Vi.v_mod, Vi.v_pow, Vi.v_add, Vi.v_sub, Vi.v_lt, Vi.v_le, Vi.v_gt, Vi.v_ge, Vi.v_int, Vi.v_intB, Vi.v_abs, Vi.v_max2, Vi.v_min2, Vi.v_neg, Vi.v_eqI, Vi.v_neI, Vi.v_eqT, Vi.v_neT, Vi.v_eqL, Vi.v_eqS, Vi.v_neS, Vi.v_R1, Vi.v_R2, Vi.v_tupL, Vi.v_tupT, Vi.v_lenL, Vi.v_lenT, Vi.v_lenF, y_ok, y_toO, y_nx, y_rt, y_bk, y_ct, List.cons_append, List.nil_append, List.append_nil, List.getElem?_cons_zero, List.getElem?_cons_succ, List.set_cons_zero, List.set_cons_succ, List.length_cons, List.length_nil, List.map_cons, List.map_nil, List.replicate_succ, List.replicate_zero, Nat.reduceSub, Nat.reduceAdd, Nat.reduceLeDiff, Int.reduceToNat, Int.reducePow, Int.reduceMul, Int.reduceEq, Int.reduceLT, Int.reduceLE, Int.reduceGT, Int.reduceNeg, Int.reduceAdd, Int.reduceSub, Int.reduceDiv, Int.reduceMod, Nat.reduceMul, Nat.reduceEqDiff, lim_val, true_and, and_true, and_self, decide_eq_true_eq, big_val, if_true, if_false, ite_true, ite_false, reduceIte]
    rw [e1, e2, e3]
  · obtain ⟨y, e2, e3⟩ := hI
    subst e2; subst e3
    have s := same8 zs h m'
    have k := hooks_ok zs h m'
    refine ⟨_, _, rfl, [a, b, c, d, some (.tup (iL1 zs)), some (HD zs), some (.int (0 + (t : Int))), none], m', ?_, _, rfl, rfl⟩
    simp only [flaw_1_4_0, x_var, x_c, x_bin, x_binT, x_ofT, x_seq, x_ret, x_asg, x_ifS, x_if, x_nm, x_sb, x_nil, x_cons, x_tup, x_lst, x_frz, x_new, x_call, x_callL, x_par, x_pass, x_break, x_cont, x_drop, x_un, x_and, x_or, x_not, x_for, x_wh, x_tb, x_ys, x_hold, x_app, x_iR1, x_iR2, x_iR3, x_iS, x_aug, x_tp, x_gsCons, x_gsNil, x_comp, x_some, x_no, x_andV, x_orV, x_notV, x_catL, x_repL, x_rev, rep_one, asLst_lst, asList_lst, fixS_lst, fixS_tup, Vi.v_catT, Vi.v_mulZ, Vi.v_div, Vi.v_mod, Vi.v_pow, Vi.v_add, Vi.v_sub, Vi.v_lt, Vi.v_le, Vi.v_gt, Vi.v_ge, Vi.v_int, Vi.v_intB, Vi.v_abs, Vi.v_max2, Vi.v_min2, Vi.v_neg, Vi.v_eqI, Vi.v_neI, Vi.v_eqT, Vi.v_neT, Vi.v_eqL, Vi.v_eqS, Vi.v_neS, Vi.v_R1, Vi.v_R2, Vi.v_tupL, Vi.v_tupT, Vi.v_lenL, Vi.v_lenT, Vi.v_lenF, y_ok, y_toO, y_nx, y_rt, y_bk, y_ct, List.cons_append, List.nil_append, List.append_nil, List.getElem?_cons_zero, List.getElem?_cons_succ, List.set_cons_zero, List.set_cons_succ, List.length_cons, List.length_nil, List.map_cons, List.map_nil, List.replicate_succ, List.replicate_zero, Nat.reduceSub, Nat.reduceAdd, Nat.reduceLeDiff, Int.reduceToNat, Int.reducePow, Int.reduceMul, Int.reduceEq, Int.reduceLT, Int.reduceLE, Int.reduceGT, Int.reduceNeg, Int.reduceAdd, Int.reduceSub, Int.reduceDiv, Int.reduceMod, Nat.reduceMul, Nat.reduceEqDiff, lim_val, true_and, and_true, and_self, decide_eq_true_eq, big_val, if_true, if_false, ite_true, ite_false, reduceIte, k, s, Bool.not_true, Bool.false_eq_true]
theorem turn_ok {c : Int} {m : M} {n : Nat} (h : Hd c m n) (hc : c < 2 ^ 37) (a t : D) (y3 y4 y5 y6 : Option D) :
    ∃ (m' : M) (z3 z4 z5 z6 : Option D), (sSeq flaw_1_0 (sSeq flaw_1_1 (sSeq flaw_1_2 (sSeq flaw_1_3 flaw_1_4)))) [some a, some (.ref n), some t, y3, y4, y5, y6, none] m = .nx [some a, some (.ref n), some t, z3, z4, z5, z6, none] m' ∧ Hd (c + 2000) m' n := by
  obtain ⟨r, x1, a1, r0, r1, n1, h1⟩ := take_ok h 8 (by omega) (by omega) (by omega)
  obtain ⟨most, e0, hm⟩ : ∃ most : Int, gIx (.lst [.int 60, .int 300]) (.int (if r = 0 then 1 else 0)) (m.set n (.lst x1)) = .ok (.int most) (m.set n (.lst x1)) ∧ (most = 60 ∨ most = 300) := by
    split
    · exact ⟨300, v_ixL (i := 1) _ rfl, .inr rfl⟩
    · exact ⟨60, v_ixL (i := 0) _ rfl, .inl rfl⟩
  obtain ⟨zs, us, e1, pt, h2⟩ := parting_ok h1 (by omega) most (by omega) (by omega)
  rw [set_set] at e1 h2
  have ok := ok_of pt (by omega)
  have hlen := ok.len
  have k := lhooks_ok zs ok (m.set n (.lst us))
  obtain ⟨y, e2⟩ := again_ok zs ok (some a) (some (.ref n)) (some t) (some (.int most)) (m.set n (.lst us)) y6
  refine ⟨m.set n (.lst us), some (.int most), some (.tup (iL1 zs)), some (HD zs), y, ?_, hd_mono h2 (by omega)⟩
  have h2' : (2 : Nat) ≤ 16777216 := by decide
  have hz : ((List.range zs.length).map (rowD zs)).length ≤ 16777216 := by simp only [List.length_map, List.length_range]; omega
  have s0 : flaw_1_0 [some a, some (.ref n), some t, y3, y4, y5, y6, none] m = .nx [some a, some (.ref n), some t, some (.int most), y4, y5, y6, none] (m.set n (.lst x1)) := by
    simp (disch := omega) only [flaw_1_0, x_var, x_c, x_bin, x_binT, x_ofT, x_seq, x_ret, x_asg, x_ifS, x_if, x_nm, x_sb, x_nil, x_cons, x_tup, x_lst, x_frz, x_new, x_call, x_callL, x_par, x_pass, x_break, x_cont, x_drop, x_un, x_and, x_or, x_not, x_for, x_wh, x_tb, x_ys, x_hold, x_app, x_iR1, x_iR2, x_iR3, x_iS, x_aug, x_tp, x_gsCons, x_gsNil, x_comp, x_some, x_no, x_andV, x_orV, x_notV, x_catL, x_repL, x_rev, rep_one, asLst_lst, asList_lst, fixS_lst, fixS_tup, Vi.v_catT, Vi.v_mulZ, Vi.v_div, Vi.v_mod, Vi.v_pow, Vi.v_add, Vi.v_sub, Vi.v_lt, Vi.v_le, Vi.v_gt, Vi.v_ge, Vi.v_int, Vi.v_intB, Vi.v_abs, Vi.v_max2, Vi.v_min2, Vi.v_neg, Vi.v_eqI, Vi.v_neI, Vi.v_eqT, Vi.v_neT, Vi.v_eqL, Vi.v_eqS, Vi.v_neS, Vi.v_R1, Vi.v_R2, Vi.v_tupL, Vi.v_tupT, Vi.v_lenL, Vi.v_lenT, Vi.v_lenF, y_ok, y_toO, y_nx, y_rt, y_bk, y_ct, List.cons_append, List.nil_append, List.append_nil, List.getElem?_cons_zero, List.getElem?_cons_succ, List.set_cons_zero, List.set_cons_succ, List.length_cons, List.length_nil, List.map_cons, List.map_nil, List.replicate_succ, List.replicate_zero, Nat.reduceSub, Nat.reduceAdd, Nat.reduceLeDiff, Int.reduceToNat, Int.reducePow, Int.reduceMul, Int.reduceEq, Int.reduceLT, Int.reduceLE, Int.reduceGT, Int.reduceNeg, Int.reduceAdd, Int.reduceSub, Int.reduceDiv, Int.reduceMod, Nat.reduceMul, Nat.reduceEqDiff, lim_val, true_and, and_true, and_self, decide_eq_true_eq, big_val, if_true, if_false, ite_true, ite_false, reduceIte, a1, h2', e0]
  have s1 : flaw_1_1 [some a, some (.ref n), some t, some (.int most), y4, y5, y6, none] (m.set n (.lst x1)) = .nx [some a, some (.ref n), some t, some (.int most), some (.tup (iL1 zs)), y5, y6, none] (m.set n (.lst us)) := by
    simp only [flaw_1_1, x_var, x_c, x_bin, x_binT, x_ofT, x_seq, x_ret, x_asg, x_ifS, x_if, x_nm, x_sb, x_nil, x_cons, x_tup, x_lst, x_frz, x_new, x_call, x_callL, x_par, x_pass, x_break, x_cont, x_drop, x_un, x_and, x_or, x_not, x_for, x_wh, x_tb, x_ys, x_hold, x_app, x_iR1, x_iR2, x_iR3, x_iS, x_aug, x_tp, x_gsCons, x_gsNil, x_comp, x_some, x_no, x_andV, x_orV, x_notV, x_catL, x_repL, x_rev, rep_one, asLst_lst, asList_lst, fixS_lst, fixS_tup, Vi.v_catT, Vi.v_mulZ, Vi.v_div, Vi.v_mod, Vi.v_pow, Vi.v_add, Vi.v_sub, Vi.v_lt, Vi.v_le, Vi.v_gt, Vi.v_ge, Vi.v_int, Vi.v_intB, Vi.v_abs, Vi.v_max2, Vi.v_min2, Vi.v_neg, Vi.v_eqI, Vi.v_neI, Vi.v_eqT, Vi.v_neT, Vi.v_eqL, Vi.v_eqS, Vi.v_neS, Vi.v_R1, Vi.v_R2, Vi.v_tupL, Vi.v_tupT, Vi.v_lenL, Vi.v_lenT, Vi.v_lenF, y_ok, y_toO, y_nx, y_rt, y_bk, y_ct, List.cons_append, List.nil_append, List.append_nil, List.getElem?_cons_zero, List.getElem?_cons_succ, List.set_cons_zero, List.set_cons_succ, List.length_cons, List.length_nil, List.map_cons, List.map_nil, List.replicate_succ, List.replicate_zero, Nat.reduceSub, Nat.reduceAdd, Nat.reduceLeDiff, Int.reduceToNat, Int.reducePow, Int.reduceMul, Int.reduceEq, Int.reduceLT, Int.reduceLE, Int.reduceGT, Int.reduceNeg, Int.reduceAdd, Int.reduceSub, Int.reduceDiv, Int.reduceMod, Nat.reduceMul, Nat.reduceEqDiff, lim_val, true_and, and_true, and_self, decide_eq_true_eq, big_val, if_true, if_false, ite_true, ite_false, reduceIte, e1]
  have s2 : flaw_1_2 [some a, some (.ref n), some t, some (.int most), some (.tup (iL1 zs)), y5, y6, none] (m.set n (.lst us)) = .nx [some a, some (.ref n), some t, some (.int most), some (.tup (iL1 zs)), some (HD zs), y6, none] (m.set n (.lst us)) := by
    simp only [flaw_1_2, x_var, x_c, x_bin, x_binT, x_ofT, x_seq, x_ret, x_asg, x_ifS, x_if, x_nm, x_sb, x_nil, x_cons, x_tup, x_lst, x_frz, x_new, x_call, x_callL, x_par, x_pass, x_break, x_cont, x_drop, x_un, x_and, x_or, x_not, x_for, x_wh, x_tb, x_ys, x_hold, x_app, x_iR1, x_iR2, x_iR3, x_iS, x_aug, x_tp, x_gsCons, x_gsNil, x_comp, x_some, x_no, x_andV, x_orV, x_notV, x_catL, x_repL, x_rev, rep_one, asLst_lst, asList_lst, fixS_lst, fixS_tup, Vi.v_catT, Vi.v_mulZ, Vi.v_div, Vi.v_mod, Vi.v_pow, Vi.v_add, Vi.v_sub, Vi.v_lt, Vi.v_le, Vi.v_gt, Vi.v_ge, Vi.v_int, Vi.v_intB, Vi.v_abs, Vi.v_max2, Vi.v_min2, Vi.v_neg, Vi.v_eqI, Vi.v_neI, Vi.v_eqT, Vi.v_neT, Vi.v_eqL, Vi.v_eqS, Vi.v_neS, Vi.v_R1, Vi.v_R2, Vi.v_tupL, Vi.v_tupT, Vi.v_lenL, Vi.v_lenT, Vi.v_lenF, y_ok, y_toO, y_nx, y_rt, y_bk, y_ct, List.cons_append, List.nil_append, List.append_nil, List.getElem?_cons_zero, List.getElem?_cons_succ, List.set_cons_zero, List.set_cons_succ, List.length_cons, List.length_nil, List.map_cons, List.map_nil, List.replicate_succ, List.replicate_zero, Nat.reduceSub, Nat.reduceAdd, Nat.reduceLeDiff, Int.reduceToNat, Int.reducePow, Int.reduceMul, Int.reduceEq, Int.reduceLT, Int.reduceLE, Int.reduceGT, Int.reduceNeg, Int.reduceAdd, Int.reduceSub, Int.reduceDiv, Int.reduceMod, Nat.reduceMul, Nat.reduceEqDiff, lim_val, true_and, and_true, and_self, decide_eq_true_eq, big_val, if_true, if_false, ite_true, ite_false, reduceIte, k]
  have s3 : flaw_1_3 [some a, some (.ref n), some t, some (.int most), some (.tup (iL1 zs)), some (HD zs), y6, none] (m.set n (.lst us)) = .nx [some a, some (.ref n), some t, some (.int most), some (.tup (iL1 zs)), some (HD zs), y6, none] (m.set n (.lst us)) := by
    simp only [flaw_1_3, HD, x_var, x_c, x_bin, x_binT, x_ofT, x_seq, x_ret, x_asg, x_ifS, x_if, x_nm, x_sb, x_nil, x_cons, x_tup, x_lst, x_frz, x_new, x_call, x_callL, x_par, x_pass, x_break, x_cont, x_drop, x_un, x_and, x_or, x_not, x_for, x_wh, x_tb, x_ys, x_hold, x_app, x_iR1, x_iR2, x_iR3, x_iS, x_aug, x_tp, x_gsCons, x_gsNil, x_comp, x_some, x_no, x_andV, x_orV, x_notV, x_catL, x_repL, x_rev, rep_one, asLst_lst, asList_lst, fixS_lst, fixS_tup, Vi.v_catT, Vi.v_mulZ, Vi.v_div, Vi.v_mod, Vi.v_pow, Vi.v_add, Vi.v_sub, Vi.v_lt, Vi.v_le, Vi.v_gt, Vi.v_ge, Vi.v_int, Vi.v_intB, Vi.v_abs, Vi.v_max2, Vi.v_min2, Vi.v_neg, Vi.v_eqI, Vi.v_neI, Vi.v_eqT, Vi.v_neT, Vi.v_eqL, Vi.v_eqS, Vi.v_neS, Vi.v_R1, Vi.v_R2, Vi.v_tupL, Vi.v_tupT, Vi.v_lenL, Vi.v_lenT, Vi.v_lenF, y_ok, y_toO, y_nx, y_rt, y_bk, y_ct, List.cons_append, List.nil_append, List.append_nil, List.getElem?_cons_zero, List.getElem?_cons_succ, List.set_cons_zero, List.set_cons_succ, List.length_cons, List.length_nil, List.map_cons, List.map_nil, List.replicate_succ, List.replicate_zero, Nat.reduceSub, Nat.reduceAdd, Nat.reduceLeDiff, Int.reduceToNat, Int.reducePow, Int.reduceMul, Int.reduceEq, Int.reduceLT, Int.reduceLE, Int.reduceGT, Int.reduceNeg, Int.reduceAdd, Int.reduceSub, Int.reduceDiv, Int.reduceMod, Nat.reduceMul, Nat.reduceEqDiff, lim_val, true_and, and_true, and_self, decide_eq_true_eq, big_val, if_true, if_false, ite_true, ite_false, reduceIte, hz]
    rw [lens zs ok _ (by simp [wipeE]) _]
    simp only [x_var, x_c, x_bin, x_binT, x_ofT, x_seq, x_ret, x_asg, x_ifS, x_if, x_nm, x_sb, x_nil, x_cons, x_tup, x_lst, x_frz, x_new, x_call, x_callL, x_par, x_pass, x_break, x_cont, x_drop, x_un, x_and, x_or, x_not, x_for, x_wh, x_tb, x_ys, x_hold, x_app, x_iR1, x_iR2, x_iR3, x_iS, x_aug, x_tp, x_gsCons, x_gsNil, x_comp, x_some, x_no, x_andV, x_orV, x_notV, x_catL, x_repL, x_rev, rep_one, asLst_lst, asList_lst, fixS_lst, fixS_tup, Vi.v_catT, Vi.v_mulZ, Vi.v_div, Vi.v_mod, Vi.v_pow, Vi.v_add, Vi.v_sub, Vi.v_lt, Vi.v_le, Vi.v_gt, Vi.v_ge, Vi.v_int, Vi.v_intB, Vi.v_abs, Vi.v_max2, Vi.v_min2, Vi.v_neg, Vi.v_eqI, Vi.v_neI, Vi.v_eqT, Vi.v_neT, Vi.v_eqL, Vi.v_eqS, Vi.v_neS, Vi.v_R1, Vi.v_R2, Vi.v_tupL, Vi.v_tupT, Vi.v_lenL, Vi.v_lenT, Vi.v_lenF, y_ok, y_toO, y_nx, y_rt, y_bk, y_ct, List.cons_append, List.nil_append, List.append_nil, List.getElem?_cons_zero, List.getElem?_cons_succ, List.set_cons_zero, List.set_cons_succ, List.length_cons, List.length_nil, List.map_cons, List.map_nil, List.replicate_succ, List.replicate_zero, Nat.reduceSub, Nat.reduceAdd, Nat.reduceLeDiff, Int.reduceToNat, Int.reducePow, Int.reduceMul, Int.reduceEq, Int.reduceLT, Int.reduceLE, Int.reduceGT, Int.reduceNeg, Int.reduceAdd, Int.reduceSub, Int.reduceDiv, Int.reduceMod, Nat.reduceMul, Nat.reduceEqDiff, lim_val, true_and, and_true, and_self, decide_eq_true_eq, big_val, if_true, if_false, ite_true, ite_false, reduceIte, noexn_ok, sumL, sumT, decide_true, Bool.not_true, Bool.false_eq_true]
  rw [x_seq, s0, y_nx, x_seq, s1, y_nx, x_seq, s2, y_nx, x_seq, s3, y_nx, e2]
theorem rep_ints' (k : Nat) (g : Int) : List.replicate k (D.int g) = iL1 (List.replicate k g) := by simp [iL1]
theorem law_holds (ns : List Int) (hl : ns.length ≤ 63) : ∃ m, flaw [.frz (ns.map D.int)] [] = .ok (.bl true) m := by
  obtain ⟨g, a, eh, a0, a1⟩ := hand_ok ns hl []
  have hd : Hd 0 [Cell.lst [.int g, .int a, .int 0]] 0 := ⟨g, a, 0, rfl, a0, a1, by omega, by omega⟩
  obtain ⟨r, x1, et, r0, r1, _, hd1⟩ := take_ok hd 6 (by omega) (by omega) (by omega)
  obtain ⟨m1, hm1⟩ : ∃ m1 : M, m1 = List.set [Cell.lst [.int g, .int a, .int 0]] 0 (.lst x1) := ⟨_, rfl⟩
  rw [← hm1] at et hd1
  let I : Nat → En → M → Prop := fun t ρ m' => Hd (1 + 2000 * (t : Int)) m' 0 ∧ ∃ (y2 y3 y4 y5 y6 : Option D), ρ = [some (.frz (iL1 ns)), some (.ref 0), y2, y3, y4, y5, y6, none]
  have run := for_rng (g := gNm 2) (b := sSeq flaw_1_0 (sSeq flaw_1_1 (sSeq flaw_1_2 (sSeq flaw_1_3 flaw_1_4)))) (n := (1 + r).toNat) (lo := 0) I (fun t ρ m' ht hI => ?_)
    [some (.frz (iL1 ns)), some (.ref 0), none, none, none, none, none, none] m1 ⟨by simpa using hd1, none, none, none, none, none, rfl⟩
  · obtain ⟨ρ', m', e1, _, y2, y3, y4, y5, y6, e2⟩ := run
    let J : Nat → En → M → Prop := fun t ρ m2 => m2 = m' ∧ ∃ (y2 y3 y4 y5 y6 : Option D), ρ = [some (.frz (iL1 ns)), some (.ref 0), y2, y3, y4, y5, y6, none]
    have run2 := for_ix (g := gNm 4) (b := flaw_2_0) J [D.tup (iL1 []), D.tup (iL1 [300]), D.tup (iL1 (List.replicate 300 1))] (fun t x ρ m2 ht hJ => ?_)
      [some (.frz (iL1 ns)), some (.ref 0), y2, y3, y4, y5, y6, none] m' ⟨rfl, y2, y3, y4, y5, y6, rfl⟩
    · obtain ⟨ρ2, m2, f1, f2, z2, z3, z4, z5, z6, f3⟩ := run2
      refine ⟨[], exit_gen (m' := m2) ?_ (by simp) rfl rfl⟩
      have s0 : flaw_0 [some (.frz (iL1 ns)), none, none, none, none, none, none, none] [] = .nx [some (.frz (iL1 ns)), some (.ref 0), none, none, none, none, none, none] [Cell.lst [.int g, .int a, .int 0]] := by
        have eh' : f_law_hand [.frz (iL1 ns)] [] = .ok (.ref 0) [Cell.lst [.int g, .int a, .int 0]] := eh
        simp only [flaw_0, x_var, x_c, x_bin, x_binT, x_ofT, x_seq, x_ret, x_asg, x_ifS, x_if, x_nm, x_sb, x_nil, x_cons, x_tup, x_lst, x_frz, x_new, x_call, x_callL, x_par, x_pass, x_break, x_cont, x_drop, x_un, x_and, x_or, x_not, x_for, x_wh, x_tb, x_ys, x_hold, x_app, x_iR1, x_iR2, x_iR3, x_iS, x_aug, x_tp, x_gsCons, x_gsNil, x_comp, x_some, x_no, x_andV, x_orV, x_notV, x_catL, x_repL, x_rev, rep_one, asLst_lst, asList_lst, fixS_lst, fixS_tup, Vi.v_catT, Vi.v_mulZ, Vi.v_div, Vi.v_mod, Vi.v_pow, Vi.v_add, Vi.v_sub, Vi.v_lt, Vi.v_le, Vi.v_gt, Vi.v_ge, Vi.v_int, Vi.v_intB, Vi.v_abs, Vi.v_max2, Vi.v_min2, Vi.v_neg, Vi.v_eqI, Vi.v_neI, Vi.v_eqT, Vi.v_neT, Vi.v_eqL, Vi.v_eqS, Vi.v_neS, Vi.v_R1, Vi.v_R2, Vi.v_tupL, Vi.v_tupT, Vi.v_lenL, Vi.v_lenT, Vi.v_lenF, y_ok, y_toO, y_nx, y_rt, y_bk, y_ct, List.cons_append, List.nil_append, List.append_nil, List.getElem?_cons_zero, List.getElem?_cons_succ, List.set_cons_zero, List.set_cons_succ, List.length_cons, List.length_nil, List.map_cons, List.map_nil, List.replicate_succ, List.replicate_zero, Nat.reduceSub, Nat.reduceAdd, Nat.reduceLeDiff, Int.reduceToNat, Int.reducePow, Int.reduceMul, Int.reduceEq, Int.reduceLT, Int.reduceLE, Int.reduceGT, Int.reduceNeg, Int.reduceAdd, Int.reduceSub, Int.reduceDiv, Int.reduceMod, Nat.reduceMul, Nat.reduceEqDiff, lim_val, true_and, and_true, and_self, decide_eq_true_eq, big_val, if_true, if_false, ite_true, ite_false, reduceIte, eh']
      have s1 : flaw_1 [some (.frz (iL1 ns)), some (.ref 0), none, none, none, none, none, none] [Cell.lst [.int g, .int a, .int 0]] = .nx [some (.frz (iL1 ns)), some (.ref 0), y2, y3, y4, y5, y6, none] m' := by
        simp (disch := omega) only [flaw_1, x_var, x_c, x_bin, x_binT, x_ofT, x_seq, x_ret, x_asg, x_ifS, x_if, x_nm, x_sb, x_nil, x_cons, x_tup, x_lst, x_frz, x_new, x_call, x_callL, x_par, x_pass, x_break, x_cont, x_drop, x_un, x_and, x_or, x_not, x_for, x_wh, x_tb, x_ys, x_hold, x_app, x_iR1, x_iR2, x_iR3, x_iS, x_aug, x_tp, x_gsCons, x_gsNil, x_comp, x_some, x_no, x_andV, x_orV, x_notV, x_catL, x_repL, x_rev, rep_one, asLst_lst, asList_lst, fixS_lst, fixS_tup, Vi.v_catT, Vi.v_mulZ, Vi.v_div, Vi.v_mod, Vi.v_pow, Vi.v_add, Vi.v_sub, Vi.v_lt, Vi.v_le, Vi.v_gt, Vi.v_ge, Vi.v_int, Vi.v_intB, Vi.v_abs, Vi.v_max2, Vi.v_min2, Vi.v_neg, Vi.v_eqI, Vi.v_neI, Vi.v_eqT, Vi.v_neT, Vi.v_eqL, Vi.v_eqS, Vi.v_neS, Vi.v_R1, Vi.v_R2, Vi.v_tupL, Vi.v_tupT, Vi.v_lenL, Vi.v_lenT, Vi.v_lenF, y_ok, y_toO, y_nx, y_rt, y_bk, y_ct, List.cons_append, List.nil_append, List.append_nil, List.getElem?_cons_zero, List.getElem?_cons_succ, List.set_cons_zero, List.set_cons_succ, List.length_cons, List.length_nil, List.map_cons, List.map_nil, List.replicate_succ, List.replicate_zero, Nat.reduceSub, Nat.reduceAdd, Nat.reduceLeDiff, Int.reduceToNat, Int.reducePow, Int.reduceMul, Int.reduceEq, Int.reduceLT, Int.reduceLE, Int.reduceGT, Int.reduceNeg, Int.reduceAdd, Int.reduceSub, Int.reduceDiv, Int.reduceMod, Nat.reduceMul, Nat.reduceEqDiff, lim_val, true_and, and_true, and_self, decide_eq_true_eq, big_val, if_true, if_false, ite_true, ite_false, reduceIte, et]
        rw [e1, e2]
      have s2 : flaw_2 [some (.frz (iL1 ns)), some (.ref 0), y2, y3, y4, y5, y6, none] m' = .nx ρ2 m2 := by
        have h0 : (0 : Nat) ≤ 16777216 := by decide
        have er := v_repT [.int 1] (k := 300) m' (by omega) (by decide)
        obtain ⟨u, hu⟩ : ∃ u, u = D.tup (iL1 (List.replicate 300 1)) := ⟨_, rfl⟩
        have er2 : gRepT (.tup [.int 1]) (.int 300) m' = .ok u m' := by
          rw [er, rep_one, hu, ← rep_ints']
          rfl
        rw [← hu] at f1
        have f1' : forLoop (gNm 4) flaw_2_0 [D.tup [], D.tup [.int 300], u] [some (.frz (iL1 ns)), some (.ref 0), y2, y3, y4, y5, y6, none] m' = .nx ρ2 m2 := f1
        have h3 : (3 : Nat) ≤ 16777216 := by decide
        simp only [flaw_2, x_for, x_iS, x_frz, x_lst, x_cons, x_nil, x_tup, x_bin, x_c, y_ok, y_toO, er2, fixS_lst, List.length_cons, List.length_nil, Nat.reduceAdd, big_val, if_true, h0, h3, Nat.reduceLeDiff]
        exact f1'
      unfold runDef
      simp only [List.map_cons, List.map_nil, List.length_cons, List.length_nil, Nat.reduceAdd, Nat.reduceSub, List.replicate_succ, List.replicate_zero, List.cons_append, List.nil_append]
      rw [x_seq, s0, y_nx, x_seq, s1, y_nx, x_seq, s2, y_nx, f3]
      simp only [flaw_3, x_var, x_c, x_bin, x_binT, x_ofT, x_seq, x_ret, x_asg, x_ifS, x_if, x_nm, x_sb, x_nil, x_cons, x_tup, x_lst, x_frz, x_new, x_call, x_callL, x_par, x_pass, x_break, x_cont, x_drop, x_un, x_and, x_or, x_not, x_for, x_wh, x_tb, x_ys, x_hold, x_app, x_iR1, x_iR2, x_iR3, x_iS, x_aug, x_tp, x_gsCons, x_gsNil, x_comp, x_some, x_no, x_andV, x_orV, x_notV, x_catL, x_repL, x_rev, rep_one, asLst_lst, asList_lst, fixS_lst, fixS_tup, Vi.v_catT, Vi.v_mulZ, Vi.v_div, Vi.v_mod, Vi.v_pow, Vi.v_add, Vi.v_sub, Vi.v_lt, Vi.v_le, Vi.v_gt, Vi.v_ge, Vi.v_int, Vi.v_intB, Vi.v_abs, Vi.v_max2, Vi.v_min2, Vi.v_neg, Vi.v_eqI, Vi.v_neI, Vi.v_eqT, Vi.v_neT, Vi.v_eqL, Vi.v_eqS, Vi.v_neS, Vi.v_R1, Vi.v_R2, Vi.v_tupL, Vi.v_tupT, Vi.v_lenL, Vi.v_lenT, Vi.v_lenF, y_ok, y_toO, y_nx, y_rt, y_bk, y_ct, List.cons_append, List.nil_append, List.append_nil, List.getElem?_cons_zero, List.getElem?_cons_succ, List.set_cons_zero, List.set_cons_succ, List.length_cons, List.length_nil, List.map_cons, List.map_nil, List.replicate_succ, List.replicate_zero, Nat.reduceSub, Nat.reduceAdd, Nat.reduceLeDiff, Int.reduceToNat, Int.reducePow, Int.reduceMul, Int.reduceEq, Int.reduceLT, Int.reduceLE, Int.reduceGT, Int.reduceNeg, Int.reduceAdd, Int.reduceSub, Int.reduceDiv, Int.reduceMod, Nat.reduceMul, Nat.reduceEqDiff, lim_val, true_and, and_true, and_self, decide_eq_true_eq, big_val, if_true, if_false, ite_true, ite_false, reduceIte]
    · obtain ⟨e3, y2, y3, y4, y5, y6, e4⟩ := hJ
      subst e3; subst e4
      obtain ⟨zs, rfl, ok⟩ : ∃ zs, x = .tup (iL1 zs) ∧ Ok zs := by
        have : t = 0 ∨ t = 1 ∨ t = 2 := by
          have := (List.getElem?_eq_some_iff.mp ht).1
          simp at this; omega
        rcases this with rfl | rfl | rfl
        · cases ht; exact ⟨[], rfl, ⟨fun _ h => (by cases h), by decide⟩⟩
        · cases ht; exact ⟨[300], rfl, ⟨fun z h => (by rw [List.mem_singleton.mp h]; omega), by decide⟩⟩
        · have e : x = D.tup (iL1 (List.replicate 300 1)) := (Option.some.inj ht).symm
          exact ⟨List.replicate 300 1, e, ⟨fun z h => (by rw [(List.mem_replicate.mp h).2]; omega), by rw [List.length_replicate]; omega⟩⟩
      have s := same8 zs ok m2
      have k := hooks_ok zs ok m2
      have k2 := lhooks_ok zs ok m2
      refine ⟨_, _, rfl, [some (.frz (iL1 ns)), some (.ref 0), y2, y3, some (.tup (iL1 zs)), y5, y6, none], m2, ?_, rfl, _, _, _, _, _, rfl⟩
      simp only [List.set_cons_zero, List.set_cons_succ]
      simp only [flaw_2_0, x_var, x_c, x_bin, x_binT, x_ofT, x_seq, x_ret, x_asg, x_ifS, x_if, x_nm, x_sb, x_nil, x_cons, x_tup, x_lst, x_frz, x_new, x_call, x_callL, x_par, x_pass, x_break, x_cont, x_drop, x_un, x_and, x_or, x_not, x_for, x_wh, x_tb, x_ys, x_hold, x_app, x_iR1, x_iR2, x_iR3, x_iS, x_aug, x_tp, x_gsCons, x_gsNil, x_comp, x_some, x_no, x_andV, x_orV, x_notV, x_catL, x_repL, x_rev, rep_one, asLst_lst, asList_lst, fixS_lst, fixS_tup, Vi.v_catT, Vi.v_mulZ, Vi.v_div, Vi.v_mod, Vi.v_pow, Vi.v_add, Vi.v_sub, Vi.v_lt, Vi.v_le, Vi.v_gt, Vi.v_ge, Vi.v_int, Vi.v_intB, Vi.v_abs, Vi.v_max2, Vi.v_min2, Vi.v_neg, Vi.v_eqI, Vi.v_neI, Vi.v_eqT, Vi.v_neT, Vi.v_eqL, Vi.v_eqS, Vi.v_neS, Vi.v_R1, Vi.v_R2, Vi.v_tupL, Vi.v_tupT, Vi.v_lenL, Vi.v_lenT, Vi.v_lenF, y_ok, y_toO, y_nx, y_rt, y_bk, y_ct, List.cons_append, List.nil_append, List.append_nil, List.getElem?_cons_zero, List.getElem?_cons_succ, List.set_cons_zero, List.set_cons_succ, List.length_cons, List.length_nil, List.map_cons, List.map_nil, List.replicate_succ, List.replicate_zero, Nat.reduceSub, Nat.reduceAdd, Nat.reduceLeDiff, Int.reduceToNat, Int.reducePow, Int.reduceMul, Int.reduceEq, Int.reduceLT, Int.reduceLE, Int.reduceGT, Int.reduceNeg, Int.reduceAdd, Int.reduceSub, Int.reduceDiv, Int.reduceMod, Nat.reduceMul, Nat.reduceEqDiff, lim_val, true_and, and_true, and_self, decide_eq_true_eq, big_val, if_true, if_false, ite_true, ite_false, reduceIte, k, k2, s, Bool.not_true, Bool.false_eq_true]
  · obtain ⟨hd2, y2, y3, y4, y5, y6, e2⟩ := hI
    subst e2
    have ht' : t < 7 := by omega
    obtain ⟨m2, z3, z4, z5, z6, e3, hd3⟩ := turn_ok hd2 (by omega) (.frz (iL1 ns)) (.int (0 + (t : Int))) y3 y4 y5 y6
    refine ⟨_, _, rfl, _, m2, e3, hd_mono hd3 (by omega), _, _, _, _, _, rfl⟩
end Lk38

open PySem PySem.W PyProof.Rows
set_option maxHeartbeats 0 in
theorem PySem.Challenge.cw_partrests_k38_hooks_holds : PySem.Challenge.rw_partrests_k38_hooks.Holds := by
  w_on; o_law; k_head; (case hw => w_witness2)
  k_fill
  refine Vi.walk_G (l := PySem.Challenge.rw_partrests_k38_hooks) (n := 63) (k := 10) (x := "_law_script") (F := Lk38.flaw) rfl (by decide) rfl ⟨rfl, by decide, by decide⟩ (fun w h Y => PySem.W.kIn_of Y) ?F (fun ns hl => Lk38.law_holds ns hl)
  case F =>
    intro w mg fa h KX G hmg
    refine' Lk38.all_mk KX G hmg ?a0 ?l0 ?c0 ?k0 ?a1 ?l1 ?c1 ?k1 ?a2 ?l2 ?c2 ?k2 ?a3 ?l3 ?c3 ?k3 ?a4 ?l4 ?c4 ?k4 ?a5 ?l5 ?c5 ?k5 ?a6 ?l6 ?c6 ?k6 ?z_enumerate ?z_tuple ?z_range ?z_len ?z_abs ?z_min ?z_sorted ?z_int ?z_isinstance ?z_list ?z_all ?z_bool ?z_str ?z_zip ?z_sum
    (case a0 => k_is); (case l0 => k_is); (case c0 => k_is); (case k0 => k_is); (case a1 => k_is); (case l1 => k_is); (case c1 => k_is); (case k1 => k_is); (case a2 => k_is); (case l2 => k_is); (case c2 => k_is); (case k2 => k_is); (case a3 => k_is); (case l3 => k_is); (case c3 => k_is); (case k3 => k_is); (case a4 => k_is); (case l4 => k_is); (case c4 => k_is); (case k4 => k_is); (case a5 => k_is); (case l5 => k_is); (case c5 => k_is); (case k5 => k_is); (case a6 => k_is); (case l6 => k_is); (case c6 => k_is); (case k6 => k_is); (case z_enumerate => k_is); (case z_tuple => k_is); (case z_range => k_is); (case z_len => k_is); (case z_abs => k_is); (case z_min => k_is); (case z_sorted => k_is); (case z_int => k_is); (case z_isinstance => k_is); (case z_list => k_is); (case z_all => k_is); (case z_bool => k_is); (case z_str => k_is); (case z_zip => k_is); (case z_sum => k_is)

