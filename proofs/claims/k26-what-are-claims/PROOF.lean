import PyProof.Rows.All
import Wide.All
import OpenK.AllK
import Wide.FinOn
import HandS.ForMost
import HandS.Exc
import HandS.WordsExc
import HandS.TupAny
import HandS.Style
import HandS.Wide
import HandS.WideMore
import HandS.Words
import HandS.Defaults
import HandS.Head0
import HandS.Head1
import HandS.Head2
import HandS.HeadHook1
import HandS.HeadHook2
import HandS.HeadHook3
import HandS.TupMul
import HandS.IsInst
import KE.GoesEnum
import KE.GoesZip
import KE.GoesMore
import KE.SortData
import HandS.SortKw
import HandS.SetFor
import HandS.Deep
import HandS.Conv
import HandS.Text
import HandS.Small
import KE.DataMinMax
import OpenK.KEqL
import HandS.DictTup
import HandS.ListItems
import KE.KDictExact
import PyProof.TupleOfSeq
import KE.KIntText
import HandS.SortInts
import PySem.Challenge.RW_partrests_k26_what_are_claims
set_option Elab.async false
set_option linter.all false
set_option maxRecDepth 100000
namespace Vi
open PySem PySem.Spec PyProof.Rows L2
inductive D where
  | non | bl (b : Bool) | int (i : Int) | str (x : Str) | tup (xs : List D) | lst (xs : List D) | frz (xs : List D) | ref (n : Nat) | exc (c : Str) | emp | obj (c : Str) (ns : List Str) (xs : List D)
inductive Cell where
  | lst (xs : List D) | dic (kvs : List (Key × D)) | dct (kvs : List (List Key × D)) | ins (C : Str) (fs : List (Str × D)) | gone
abbrev M := List Cell
inductive R (α : Type) where
  | ok (a : α) (m : M) | exn (c : Str) (m : M) | bad
def R.bind {α β : Type} (r : R α) (f : α → M → R β) : R β := match r with
  | .ok a m => f a m
  | .exn c m => .exn c m
  | .bad => .bad
@[simp] theorem bind_ok {α β : Type} (a : α) (m : M) (f : α → M → R β) : (R.ok a m).bind f = f a m := rfl
@[simp] theorem bind_exn {α β : Type} (c : Str) (m : M) (f : α → M → R β) : (R.exn c m : R α).bind f = .exn c m := rfl
@[simp] theorem bind_bad {α β : Type} (f : α → M → R β) : (R.bad : R α).bind f = .bad := rfl
structure Wd where
  I : Hp
  φ : List Addr
def TN (K : PySem.W.Frag) (I : Hp) (a : Addr) : Prop := (∃ o u, I a = some (.frz o u) ∧ o.dict = none) ∨ ∃ o, K.lookup a = some o ∧ o.dict = none
def ExcAt (C a : Addr) : Heap → Prop := fun h => ∃ o : Obj, h.get? a = some o ∧ Zc (.ref C) none o ∧ ∃ vs, o.data = .fields vs
mutual
inductive RD (K : PySem.W.Frag) (W : Wd) : V → D → Prop
  | non : RD K W .non .non
  | bl (b : Bool) : RD K W (.bl b) (.bl b)
  | int (i : Int) : RD K W (.int i) (.int i)
  | str (x : Str) : RD K W (.str x) (.str x)
  | tup {a : Addr} {xs : List V} {ds : List D} : SqT K W.I a xs → TN K W.I a → RDs K W xs ds → RD K W (.ref a) (.tup ds)
  | lst {a : Addr} {xs : List V} {ds : List D} : W.I a = some (.lst xs) → RDs K W xs ds → RD K W (.ref a) (.lst ds)
  | frz {a : Addr} {xs : List V} {ds : List D} : SqL K W.I a xs → RDs K W xs ds → RD K W (.ref a) (.frz ds)
  | ref {n : Nat} {a : Addr} : W.φ[n]? = some a → RD K W (.ref a) (.ref n)
  | exc {a C : Addr} {c : Str} : PySem.W.nsIn K mainGlobals c = some (some (.ref C)) → W.I a = some (.ext (ExcAt C a)) → RD K W (.ref a) (.exc c)
  | emp {a : Addr} : W.I a = some (.dK []) → RD K W (.ref a) .emp
  | obj {a C : Addr} {dx : Addr} {c : Str} {ns : List Str} {fs : List (Str × V)} {ds : List D} : PySem.W.nsIn K mainGlobals c = some (some (.ref C)) → W.I a = some (.ins C dx fs) → fs.map (·.1) = ns → RDs K W (fs.map (·.2)) ds → RD K W (.ref a) (.obj c ns ds)
inductive RDs (K : PySem.W.Frag) (W : Wd) : List V → List D → Prop
  | nil : RDs K W [] []
  | cons {v : V} {vs : List V} {d : D} {ds : List D} : RD K W v d → RDs K W vs ds → RDs K W (v :: vs) (d :: ds)
end
section
variable {K : PySem.W.Frag} {W W' : Wd}
theorem RDs.length : ∀ {vs : List V} {ds : List D}, RDs K W vs ds → vs.length = ds.length
  | _, _, .nil => rfl
  | _, _, .cons _ t => by simp [RDs.length t]
theorem RDs.get : ∀ {vs : List V} {ds : List D} {i : Nat} {d : D}, RDs K W vs ds → ds[i]? = some d → ∃ v, vs[i]? = some v ∧ RD K W v d
  | _, _, _, _, .nil, e => by simp at e
  | _, _, 0, _, .cons r _, e => by simp at e; subst e; exact ⟨_, rfl, r⟩
  | _, _, i + 1, d, .cons _ t, e => by
    obtain ⟨v, h1, h2⟩ := RDs.get (i := i) (d := d) t (by simpa using e)
    exact ⟨v, by simpa using h1, h2⟩
theorem RDs.append : ∀ {vs ws : List V} {ds es : List D}, RDs K W vs ds → RDs K W ws es → RDs K W (vs ++ ws) (ds ++ es)
  | _, _, _, _, .nil, s => s
  | _, _, _, _, .cons r t, s => .cons r (RDs.append t s)
theorem RDs.take : ∀ {vs : List V} {ds : List D} (n : Nat), RDs K W vs ds → RDs K W (vs.take n) (ds.take n)
  | _, _, 0, _ => by simp; exact .nil
  | _, _, _ + 1, .nil => by simp; exact .nil
  | _, _, n + 1, .cons r t => .cons r (RDs.take n t)
theorem RDs.drop : ∀ {vs : List V} {ds : List D} (n : Nat), RDs K W vs ds → RDs K W (vs.drop n) (ds.drop n)
  | _, _, 0, r => r
  | _, _, _ + 1, .nil => by simp; exact .nil
  | _, _, n + 1, .cons r t => RDs.drop n t
theorem RDs.set {v : V} {d : D} (r : RD K W v d) : ∀ {vs : List V} {ds : List D} (i : Nat), RDs K W vs ds → RDs K W (vs.set i v) (ds.set i d)
  | _, _, _, .nil => .nil
  | _, _, 0, .cons _ t => .cons r t
  | _, _, i + 1, .cons q t => .cons q (RDs.set r i t)
theorem RDs.reverse : ∀ {vs : List V} {ds : List D}, RDs K W vs ds → RDs K W vs.reverse ds.reverse
  | _, _, .nil => .nil
  | _, _, .cons r t => by
    rw [List.reverse_cons, List.reverse_cons]
    exact (RDs.reverse t).append (.cons r .nil)
theorem RDs.rep {vs : List V} {ds : List D} (h : RDs K W vs ds) : ∀ k : Nat, RDs K W (List.replicate k vs).flatten (List.replicate k ds).flatten
  | 0 => .nil
  | k + 1 => by
    rw [List.replicate_succ, List.replicate_succ, List.flatten_cons, List.flatten_cons]
    exact h.append (RDs.rep h k)
structure Le (W W' : Wd) : Prop where
  I : Same W.I W'.I
  φ : ∃ ψ, W'.φ = W.φ ++ ψ
theorem Le.refl : Le W W := ⟨Same.refl _, [], by simp⟩
theorem Le.get (l : Le W W') {n : Nat} {a : Addr} (h : W.φ[n]? = some a) : W'.φ[n]? = some a := by
  obtain ⟨ψ, e⟩ := l.φ
  rw [e]
  have : n < W.φ.length := by
    rcases Nat.lt_or_ge n W.φ.length with q | q
    · exact q
    · rw [List.getElem?_eq_none q] at h; cases h
  rw [List.getElem?_append_left this]
  exact h
theorem same_T {I I' : Hp} (e : Same I I') {a : Addr} {xs : List V} (h : SqT K I a xs) : SqT K I' a xs := by
  rcases h with (h | ⟨o, h⟩) | h
  · exact .inl (.inl (e _ _ h))
  · exact .inl (.inr ⟨o, e _ _ h⟩)
  · exact .inr h
theorem same_N {I I' : Hp} (e : Same I I') {a : Addr} (h : TN K I a) : TN K I' a := by
  rcases h with ⟨o, u, h, n⟩ | h
  · exact .inl ⟨o, u, e _ _ h, n⟩
  · exact .inr h
mutual
theorem RD.mono (l : Le W W') : ∀ {v : V} {d : D}, RD K W v d → RD K W' v d
  | _, _, .non => .non
  | _, _, .bl b => .bl b
  | _, _, .int i => .int i
  | _, _, .str x => .str x
  | _, _, .tup h n r => .tup (same_T l.I h) (same_N l.I n) (RDs.mono l r)
  | _, _, .lst h r => .lst (l.I _ _ h) (RDs.mono l r)
  | _, _, .frz h r => .frz (l.I.seq h) (RDs.mono l r)
  | _, _, .ref h => .ref (l.get h)
  | _, _, .exc h q => .exc h (l.I _ _ q)
  | _, _, .emp q => .emp (l.I _ _ q)
  | _, _, .obj h q e r => .obj h (l.I _ _ q) e (RDs.mono l r)
theorem RDs.mono (l : Le W W') : ∀ {vs : List V} {ds : List D}, RDs K W vs ds → RDs K W' vs ds
  | _, _, .nil => .nil
  | _, _, .cons r t => .cons (RD.mono l r) (RDs.mono l t)
end
abbrev RKV {κ : Type} (K : PySem.W.Frag) (W : Wd) : List (κ × V) → List (κ × D) → Prop := Paired fun (p : κ × V) (q : κ × D) => p.1 = q.1 ∧ RD K W p.2 q.2
theorem RKV.mono {κ : Type} (l : Le W W') {a : List (κ × V)} {b : List (κ × D)} (h : RKV K W a b) : RKV K W' a b := Paired.mapP h fun p q z => ⟨z.1, z.2.mono l⟩
def DTp (a : Addr) (xs : List (List Int × Addr × Value)) (h : Heap) : Prop := ((a == sysModules) = false ∧ xs.length ≤ sizeLine) ∧ ∃ o es ep, h.get? a = some o ∧ o.ExactDict ∧ o.data = .dict es ep ∧
  (∀ (P : Program) (w : World), es.toList = xs.map (PySem.entryOfKey (tupleKind (PySem.intKind P w)))) ∧ (xs.map (·.1)).Nodup
abbrev RKT (K : PySem.W.Frag) (W : Wd) : List (List Int × Addr × Value) → List (List Key × D) → Prop := Paired fun (p : List Int × Addr × Value) (q : List Key × D) => q.1 = p.1.map Sum.inl ∧ SqT K W.I p.2.1 (p.1.map V.int) ∧ ∃ v, RelV v p.2.2 ∧ RD K W v q.2
theorem RKT.mono (l : Le W W') {a : List (List Int × Addr × Value)} {b : List (List Key × D)} (h : RKT K W a b) : RKT K W' a b := Paired.mapP h fun p q ⟨z1, z2, v, z3, z4⟩ => ⟨z1, same_T l.I z2, v, z3, z4.mono l⟩
def RC (K : PySem.W.Frag) (mg : Str → Option Value) (W : Wd) (o : HO) : Cell → Prop
  | .lst ds => ∃ xs, o = .lst xs ∧ RDs K W xs ds
  | .dic kvs => ∃ xs, o = .dK xs ∧ RKV K W xs kvs
  | .dct kvs => ∃ a xs, o = .ext (DTp a xs) ∧ RKT K W xs kvs
  | .ins c fs => ∃ C dx xs, o = .ins C dx xs ∧ mg c = some (.ref C) ∧ RKV K W xs fs
  | .gone => True
theorem RC.mono {mg : Str → Option Value} (l : Le W W') {o : HO} : ∀ {c : Cell}, RC K mg W o c → RC K mg W' o c
  | .lst _, ⟨xs, e, r⟩ => ⟨xs, e, r.mono l⟩
  | .dic _, ⟨xs, e, r⟩ => ⟨xs, e, RKV.mono l r⟩
  | .dct _, ⟨a, xs, e, r⟩ => ⟨a, xs, e, RKT.mono l r⟩
  | .ins _ _, ⟨C, dx, xs, e, g, r⟩ => ⟨C, dx, xs, e, g, RKV.mono l r⟩
  | .gone, _ => trivial
end
structure RM (K : PySem.W.Frag) (mg : Str → Option Value) (W : Wd) (H : Hp) (m : M) : Prop where
  sub : Same W.I H
  len : W.φ.length = m.length
  nd : W.φ.Nodup
  al : ∀ a ∈ W.φ, H a ≠ none
  obj : ∀ (i : Nat) (a : Addr) (c : Cell), W.φ[i]? = some a → m[i]? = some c → c ≠ .gone → ∃ o, H a = some o ∧ RC K mg W o c
  off : ∀ (i : Nat) (a : Addr) (c : Cell), W.φ[i]? = some a → m[i]? = some c → c ≠ .gone → W.I a = none
structure Ex (W : Wd) (H : Hp) (W' : Wd) (H' : Hp) : Prop where
  I : Same W.I W'.I
  φ : ∃ ψ, W'.φ = W.φ ++ ψ ∧ ∀ a ∈ ψ, H a = none
  fr : ∀ a o, H a = some o → a ∉ W.φ → H' a = some o
  al : ∀ a, H a ≠ none → H' a ≠ none
  nw : ∀ a o, W'.I a = some o → W.I a = some o ∨ H a = none ∨ a ∈ W.φ
section
variable {K : PySem.W.Frag} {mg : Str → Option Value} {W W' W1 W2 : Wd} {H H' H1 H2 : Hp} {m : M}
theorem Ex.refl : Ex W H W H := ⟨Same.refl _, ⟨[], by simp, by simp⟩, fun _ _ h _ => h, fun _ h => h, fun _ _ h => .inl h⟩
theorem Ex.le (e : Ex W H W' H') : Le W W' := ⟨e.I, let ⟨ψ, h, _⟩ := e.φ; ⟨ψ, h⟩⟩
theorem Ex.trans (a : Ex W H W1 H1) (b : Ex W1 H1 W2 H2) : Ex W H W2 H2 := by
  obtain ⟨p1, e1, n1⟩ := a.φ
  obtain ⟨p2, e2, n2⟩ := b.φ
  refine ⟨a.I.trans b.I, ⟨p1 ++ p2, by rw [e2, e1, List.append_assoc], fun x hx => ?_⟩, fun x o hx hn => ?_, fun x hx => b.al x (a.al x hx), fun x o hx => ?_⟩
  · rcases List.mem_append.mp hx with q | q
    · exact n1 x q
    · cases hh : H x with
      | none => rfl
      | some o => exact absurd (n2 x q) (a.al x (by rw [hh]; simp))
  · refine b.fr x o (a.fr x o hx hn) ?_
    rw [e1]
    intro q
    rcases List.mem_append.mp q with q | q
    · exact hn q
    · rw [n1 x q] at hx; cases hx
  · have old : ∀ y, H1 y = none → H y = none := fun y hy => by
      cases hh : H y with
      | none => rfl
      | some o => exact absurd hy (a.al y (by rw [hh]; simp))
    rcases b.nw x o hx with q | q | q
    · exact a.nw x o q
    · exact .inr (.inl (old x q))
    · rw [e1] at q
      rcases List.mem_append.mp q with q | q
      · exact .inr (.inr q)
      · exact .inr (.inl (n1 x q))
theorem RM.nin (r : RM K mg W H m) {p : Addr} (h : H p = none) : p ∉ W.φ := fun q => r.al p q h
theorem RM.nI (r : RM K mg W H m) {p : Addr} (h : H p = none) : W.I p = none := by
  cases q : W.I p with
  | none => rfl
  | some o => rw [r.sub p o q] at h; cases h
theorem upd_ne' {H : Hp} {p : Addr} {o : HO} (h : H p = none) {b : Addr} {u : HO} (e : H b = some u) : upd H p o b = some u := by
  rw [upd_ne (ne_of_none e h)]; exact e
theorem new_imm (r : RM K mg W H m) {p : Addr} {o : HO} (hp : H p = none) :
    Ex W H ⟨upd W.I p o, W.φ⟩ (upd H p o) ∧ RM K mg ⟨upd W.I p o, W.φ⟩ (upd H p o) m := by
  have hI := r.nI hp
  have hφ := r.nin hp
  have le : Le W ⟨upd W.I p o, W.φ⟩ := ⟨fun b u e => upd_ne' hI e, [], by simp⟩
  refine ⟨⟨fun b u e => upd_ne' hI e, ⟨[], by simp, by simp⟩, fun b u e _ => upd_ne' hp e, fun b e => ?_, fun b u e => ?_⟩, ⟨fun b u e => ?_, r.len, r.nd, fun b hb => ?_, fun i a c h1 h2 h3 => ?_, fun i a c h1 h2 h3 => ?_⟩⟩
  · unfold upd; split
    · simp
    · exact e
  · by_cases hb : b = p
    · subst hb; exact .inr (.inl hp)
    · have e' : upd W.I p o b = some u := e
      rw [upd_ne hb] at e'; exact .inl e'
  · by_cases hb : b = p
    · subst hb
      have e' : upd W.I b o b = some u := e
      rw [upd_same] at e' ⊢; exact e'
    · have e' : upd W.I p o b = some u := e
      rw [upd_ne hb] at e' ⊢; exact r.sub b u e'
  · unfold upd; split
    · simp
    · exact r.al b hb
  · obtain ⟨u, e, q⟩ := r.obj i a c h1 h2 h3
    exact ⟨u, upd_ne' hp e, q.mono le⟩
  · have : a ≠ p := fun z => hφ (z ▸ List.mem_of_getElem? h1)
    show upd W.I p o a = none
    rw [upd_ne this]; exact r.off i a c h1 h2 h3
theorem new_tup (r : RM K mg W H m) {p : Addr} {o : Obj} {xs : List V} {ds : List D} (hp : H p = none) (ho : o.dict = none) (h : RDs K W xs ds) :
    Ex W H ⟨upd W.I p (.frz o (.tup xs)), W.φ⟩ (upd H p (.frz o (.tup xs))) ∧ RM K mg ⟨upd W.I p (.frz o (.tup xs)), W.φ⟩ (upd H p (.frz o (.tup xs))) m ∧ RD K ⟨upd W.I p (.frz o (.tup xs)), W.φ⟩ (.ref p) (.tup ds) := by
  obtain ⟨a, b⟩ := new_imm (o := .frz o (.tup xs)) r hp
  exact ⟨a, b, .tup (.inl (.inr ⟨o, upd_same⟩)) (.inl ⟨o, _, upd_same, ho⟩) (h.mono a.le)⟩
theorem RM.get (r : RM K mg W H m) {n : Nat} {a : Addr} {c : Cell} (h : W.φ[n]? = some a) (hc : m[n]? = some c) (hg : c ≠ .gone) : ∃ o, H a = some o ∧ RC K mg W o c ∧ W.I a = none :=
  let ⟨o, e, q⟩ := r.obj n a c h hc hg
  ⟨o, e, q, r.off n a c h hc hg⟩
theorem φ_inj (nd : W.φ.Nodup) {i j : Nat} {a : Addr} (h1 : W.φ[i]? = some a) (h2 : W.φ[j]? = some a) : i = j := nodup_ix' nd h1 h2
  where nodup_ix' {l : List Addr} (nd : l.Nodup) {i j : Nat} {a : Addr} (h1 : l[i]? = some a) (h2 : l[j]? = some a) : i = j := nd_ix nd h1 h2
theorem set_cell (r : RM K mg W H m) {n : Nat} {a : Addr} {c c' : Cell} {o : HO} (h : W.φ[n]? = some a) (hc : m[n]? = some c) (hg : c ≠ .gone) (q : RC K mg W o c') :
    Ex W H W (upd H a o) ∧ RM K mg W (upd H a o) (m.set n c') := by
  obtain ⟨u, e, _, off⟩ := r.get h hc hg
  have mem : a ∈ W.φ := List.mem_of_getElem? h
  refine ⟨⟨Same.refl _, ⟨[], by simp, by simp⟩, fun b u' e' hb => ?_, fun b e' => ?_, fun _ _ z => .inl z⟩, ⟨fun b u' e' => ?_, by rw [r.len, List.length_set], r.nd, fun b hb => ?_, fun i b d h1 h2 h3 => ?_, fun i b d h1 h2 h3 => ?_⟩⟩
  · rw [upd_ne (show b ≠ a from fun z => hb (z ▸ mem))]; exact e'
  · unfold upd; split
    · simp
    · exact e'
  · have : b ≠ a := fun z => by subst z; rw [off] at e'; cases e'
    rw [upd_ne this]; exact r.sub b u' e'
  · unfold upd; split
    · simp
    · exact r.al b hb
  · by_cases hi : i = n
    · subst hi
      have : b = a := by rw [h] at h1; exact (Option.some.inj h1).symm
      subst this
      rw [List.getElem?_set] at h2
      have hl : i < m.length := by rw [← r.len]; exact (List.getElem?_eq_some_iff.mp h).1
      simp [hl] at h2
      subst h2
      exact ⟨o, upd_same, q⟩
    · rw [List.getElem?_set_ne (by omega)] at h2
      have : b ≠ a := fun z => hi (φ_inj r.nd (z ▸ h1) h)
      obtain ⟨u', e', q'⟩ := r.obj i b d h1 h2 h3
      exact ⟨u', by rw [upd_ne this]; exact e', q'⟩
  · by_cases hi : i = n
    · subst hi
      have : b = a := by rw [h] at h1; exact (Option.some.inj h1).symm
      subst this; exact off
    · rw [List.getElem?_set_ne (by omega)] at h2
      exact r.off i b d h1 h2 h3
theorem adopt (r : RM K mg W H m) {p : Addr} {o : HO} {c : Cell} (hp : H p = some o) (hI : W.I p = none) (hφ : p ∉ W.φ) (q : RC K mg W o c) : Le W ⟨W.I, W.φ ++ [p]⟩ ∧ RM K mg ⟨W.I, W.φ ++ [p]⟩ H (m ++ [c]) := by
  have le : Le W ⟨W.I, W.φ ++ [p]⟩ := ⟨Same.refl _, [p], rfl⟩
  refine ⟨le, ⟨r.sub, by simp [r.len], ?_, fun b hb => ?_, fun i b d h1 h2 h3 => ?_, fun i b d h1 h2 h3 => ?_⟩⟩
  · rw [List.nodup_append]
    exact ⟨r.nd, by simp, fun x hx y hy => by simp at hy; subst hy; exact fun z => hφ (z ▸ hx)⟩
  · rcases List.mem_append.mp hb with z | z
    · exact r.al b z
    · simp at z; subst z; rw [hp]; simp
  · rcases Nat.lt_or_ge i W.φ.length with z | z
    · rw [List.getElem?_append_left z] at h1
      rw [List.getElem?_append_left (by rw [← r.len]; exact z)] at h2
      obtain ⟨u, e, w⟩ := r.obj i b d h1 h2 h3
      exact ⟨u, e, w.mono le⟩
    · rw [List.getElem?_append_right z] at h1
      rw [List.getElem?_append_right (by rw [← r.len]; exact z)] at h2
      have z' : i - W.φ.length = 0 := by
        rcases Nat.lt_or_ge (i - W.φ.length) 1 with y | y
        · omega
        · rw [List.getElem?_eq_none (by simpa using y)] at h1; cases h1
      rw [← r.len, z'] at h2
      rw [z'] at h1
      simp at h1 h2
      subst h1; subst h2
      exact ⟨o, hp, q.mono le⟩
  · rcases Nat.lt_or_ge i W.φ.length with z | z
    · rw [List.getElem?_append_left z] at h1
      rw [List.getElem?_append_left (by rw [← r.len]; exact z)] at h2
      exact r.off i b d h1 h2 h3
    · rw [List.getElem?_append_right z] at h1
      have z' : i - W.φ.length = 0 := by
        rcases Nat.lt_or_ge (i - W.φ.length) 1 with y | y
        · omega
        · rw [List.getElem?_eq_none (by simpa using y)] at h1; cases h1
      rw [z'] at h1; simp at h1; subst h1; exact hI
end
def post {α : Type} (K : PySem.W.Frag) (mg : Str → Option Value) (W : Wd) (H : Hp) (r : R α) (Q : α → Wd → Hp → M → Prop) (EX : Str → Hp → Prop) : Prop :=
  match r with
  | .ok x m => ∀ W' H', Ex W H W' H' → RM K mg W' H' m → Q x W' H' m
  | .exn c m => ∀ W' H', Ex W H W' H' → RM K mg W' H' m → EX c H'
  | .bad => False
section
variable {K : PySem.W.Frag} {mg : Str → Option Value} {W W' : Wd} {H H' : Hp} {m : M} {α β : Type} {EX : Str → Hp → Prop}
theorem post_bind {r : R α} {f : α → M → R β} {Q : β → Wd → Hp → M → Prop} (h : post K mg W H (r.bind f) Q EX) : post K mg W H r (fun x W1 H1 m1 => post K mg W1 H1 (f x m1) Q EX) EX := by
  cases r with
  | ok x m =>
    intro W1 H1 e rm
    have h' : post K mg W H (f x m) Q EX := h
    cases q : f x m with
    | ok y m2 =>
      rw [q] at h'
      exact fun W2 H2 e2 rm2 => h' W2 H2 (e.trans e2) rm2
    | exn c m2 =>
      rw [q] at h'
      exact fun W2 H2 e2 rm2 => h' W2 H2 (e.trans e2) rm2
    | bad => rw [q] at h'; exact h'
  | exn c m => exact h
  | bad => exact h
theorem post_mono {r : R α} {Q Q' : α → Wd → Hp → M → Prop} (h : post K mg W H r Q EX) (hq : ∀ x W' H' m', Ex W H W' H' → RM K mg W' H' m' → Q x W' H' m' → Q' x W' H' m') : post K mg W H r Q' EX := by
  cases r with
  | ok x m => exact fun W1 H1 e rm => hq x W1 H1 m e rm (h W1 H1 e rm)
  | exn c m => exact h
  | bad => exact h
theorem post_ok {x : α} {Q : α → Wd → Hp → M → Prop} (h : post K mg W H (.ok x m) Q EX) (rm : RM K mg W H m) : Q x W H m := h W H Ex.refl rm
end
abbrev En := List (Option D)
structure RS (K : PySem.W.Frag) (W : Wd) (σ : L2.St) (ρ : En) : Prop where
  len : σ.length = ρ.length
  get : ∀ (i : Nat) (x : D), ρ[i]? = some (some x) → ∃ v, σ[i]? = some (some v) ∧ RD K W v x
section
variable {K : PySem.W.Frag} {W W' : Wd} {σ : L2.St} {ρ : En}
theorem RS.mono (l : Le W W') (r : RS K W σ ρ) : RS K W' σ ρ := ⟨r.len, fun i x e => let ⟨v, a, b⟩ := r.get i x e; ⟨v, a, b.mono l⟩⟩
theorem RS.set (r : RS K W σ ρ) (i : Nat) {v : V} {x : D} (h : RD K W v x) : RS K W (σ.set i (some v)) (ρ.set i (some x)) := by
  refine ⟨by simp [r.len], fun j y e => ?_⟩
  by_cases hj : i = j
  · subst hj
    rw [List.getElem?_set] at e ⊢
    rw [r.len]
    by_cases hl : i < ρ.length
    · simp [hl] at e ⊢
      subst e
      exact h
    · simp [hl] at e
  · rw [List.getElem?_set_ne hj] at e ⊢
    exact r.get j y e
end
abbrev SE := En → M → R D
abbrev EXT := L2.St → Str → Hp → Prop
abbrev SB := En → M → R Bool
abbrev SA := En → M → R (List D)
def tE (K : PySem.W.Frag) (mg : Str → Option Value) (EX : EXT) (d : SE) : TE := fun σ H Q => ∃ W ρ m, RS K W σ ρ ∧ RM K mg W H m ∧ post K mg W H (d ρ m) (fun x W' H' _ => ∀ v, RD K W' v x → Q v H') (EX σ)
def tT (K : PySem.W.Frag) (mg : Str → Option Value) (EX : EXT) (d : SB) : TT := fun σ H Q => ∃ W ρ m, RS K W σ ρ ∧ RM K mg W H m ∧ post K mg W H (d ρ m) (fun b _ H' _ => Q b H') (EX σ)
def tAs (K : PySem.W.Frag) (mg : Str → Option Value) (EX : EXT) (d : SA) : TA := fun σ H Q => ∃ W ρ m, RS K W σ ρ ∧ RM K mg W H m ∧ post K mg W H (d ρ m) (fun xs W' H' _ => ∀ vs, RDs K W' vs xs → Q vs H') (EX σ)
def tL (K : PySem.W.Frag) (mg : Str → Option Value) (EX : EXT) (d : SA) : TE := fun σ H Q => ∃ W ρ m, RS K W σ ρ ∧ RM K mg W H m ∧
  post K mg W H (d ρ m) (fun xs W' H' _ => ∀ p vs, H p = none → p ∉ W'.φ → W'.I p = none → H' p = some (.lst vs) → RDs K W' vs xs → Q (.ref p) H') (EX σ)
theorem PE.imp {X : Cx} {e : Expr} {t t' : TE} (h : PE X e t) (hi : ∀ σ H Q, t' σ H Q → t σ H Q) : PE X e t' := ⟨fun pins s σ H Q I q => h.run pins s σ H Q I (hi σ H Q q)⟩
theorem PT.imp {X : Cx} {e : Expr} {t t' : TT} (h : PT X e t) (hi : ∀ σ H Q, t' σ H Q → t σ H Q) : PT X e t' := ⟨fun pins s σ H Q I q => h.run pins s σ H Q I (hi σ H Q q)⟩
theorem PW.imp {X : Cx} {e : Expr} {t t' : TT} (h : PW X e t) (hi : ∀ σ H Q, t' σ H Q → t σ H Q) : PW X e t' := ⟨fun w pins s σ H Q I q => h.run w pins s σ H Q I (hi σ H Q q)⟩
theorem PA.imp {X : Cx} {e : List Expr} {t t' : TA} (h : PA X e t) (hi : ∀ σ H Q, t' σ H Q → t σ H Q) : PA X e t' := ⟨fun p pins s σ H Q I q => h.run p pins s σ H Q I (hi σ H Q q)⟩
theorem PS.imp {X : Cx} {e : Stmt} {t t' : TS} (h : PS X e t) (hi : ∀ D σ H, t' D σ H → t D σ H) : PS X e t' := ⟨fun pins s σ H D I q => h.run pins s σ H D I (hi D σ H q)⟩
theorem PSs.imp {X : Cx} {e : List Stmt} {t t' : TS} (h : PSs X e t) (hi : ∀ D σ H, t' D σ H → t D σ H) : PSs X e t' := ⟨fun pins s σ H D I q => h.run pins s σ H D I (hi D σ H q)⟩
abbrev DE (X : Cx) (EX : EXT) (e : Expr) (d : SE) : Prop := PE X e (tE X.K X.mg EX d)
abbrev DT (X : Cx) (EX : EXT) (e : Expr) (d : SB) : Prop := PT X e (tT X.K X.mg EX d)
abbrev DW (X : Cx) (EX : EXT) (e : Expr) (d : SB) : Prop := PW X e (tT X.K X.mg EX d)
abbrev DA (X : Cx) (EX : EXT) (es : List Expr) (d : SA) : Prop := PA X es (tAs X.K X.mg EX d)
abbrev DL (X : Cx) (EX : EXT) (e : Expr) (d : SA) : Prop := PE X e (tL X.K X.mg EX d)
end Vi
set_option maxHeartbeats 4000000
namespace Vi
open PySem PySem.Spec PyProof.Rows L2
def reachA (g : Addr → Option Obj) (as : List Addr) : List Addr := as.flatMap fun a => match g a with
  | some o => He.refsD o
  | none => []
def glosA (g : Addr → Option Obj) (xs : List Str) : List Addr := xs.flatMap fun x => match PySem.W.nsIn (He.frG g [mainGlobals]) mainGlobals x with
  | some (some (.ref a)) => [a]
  | _ => []
def twoA (g : Addr → Option Obj) (as : List Addr) : List Addr := as ++ reachA g as
def fourA (g : Addr → Option Obj) (as : List Addr) : List Addr := twoA g (twoA g (twoA g as))
def addrsH (g : Addr → Option Obj) (xs ys : List Str) : List Addr := mainGlobals :: cStatics :: (twoA g (glosA g xs) ++ fourA g (glosA g ys))
abbrev AlH : Type := He.AlT × Bool
def obsH (fa : List He.Fa) (fn : List He.DefD) (ts : List He.Tab) (bs : List (PySem.W.Frag → Bool)) (K : PySem.W.Frag) : AlH := (He.obsT fa fn ts K, bs.all fun b => b K)
def valH (fn : List He.DefD) (ts : List He.Tab) (w : World) : AlH := (He.valT fn ts w, true)
def SaysH (fa : List He.Fa) (fn : List He.DefD) (ts : List He.Tab) (bs : List (PySem.W.Frag → Bool)) (w : World) (K : PySem.W.Frag) : Prop := obsH fa fn ts bs K = valH fn ts w
def obsHG (xs ys : List Str) (fa : List He.Fa) (fn : List He.DefD) (ts : List He.Tab) (bs : List (PySem.W.Frag → Bool)) (g : Addr → Option Obj) : AlH := obsH fa fn ts bs (He.frG g (addrsH g xs ys))
def hookH (xs ys : List Str) (fa : List He.Fa) (fn : List He.DefD) (ts : List He.Tab) (bs : List (PySem.W.Frag → Bool)) : PySem.W.Hook where
  α := AlH
  obs := fun s => obsHG xs ys fa fn ts bs s.heap.get?
  val := fun w => valH fn ts w
  says := fun w h => ∃ K : PySem.W.Frag, K.In h ∧ SaysH fa fn ts bs w K
  of := fun _ _ e => ⟨_, He.frG_in, e⟩
  keeps := fun _ _ _ ⟨K, hK, c⟩ k => ⟨K, PySem.W.Frag.In.keeps hK k, c⟩
theorem obsHG_eq {xs ys : List Str} {fa : List He.Fa} {fn : List He.DefD} {ts : List He.Tab} {bs : List (PySem.W.Frag → Bool)} {g : Addr → Option Obj} {s : Shared} (h : ∀ a, g a = s.heap.get? a) : obsHG xs ys fa fn ts bs g = (hookH xs ys fa fn ts bs).obs s := by
  have e : g = s.heap.get? := funext h
  subst e
  rfl
def dOf (p : Str × Option Str) (x q : Str) (st : Stmt) : He.DefD := ⟨p, x, q, defArgs st, defBody st, defScope st, [], []⟩
def dG (x : Str) (st : Stmt) : He.DefD := dOf (x, none) x x st
def bG (x : Str) (K : PySem.W.Frag) : Bool := decide (PySem.W.nsIn K mainGlobals x = some (some (.ref (He.fAd K (x, none)))))
def bZ (x : Str) (K : PySem.W.Frag) : Bool := decide (PySem.W.nsIn K mainGlobals x = some none)
def bS (x y : Str) (v : Bool) (K : PySem.W.Frag) : Bool := decide (PySem.W.subIn K (.ref (He.ga K x)) (.ref (He.ga K y)) = some v)
def askVals (K : PySem.W.Frag) (a : Addr) (fs : List Str) : Bool := match K.lookup a with
  | some ⟨_, _, .dict es _, _⟩ => decide (es.toList.map DictEntry.val = fs.map fun x => Value.ref (He.ga K x))
  | _ => false
def datB (K : PySem.W.Frag) : Nat → D → Value → Bool
  | 0, _, _ => false
  | _ + 1, .int n, .int m _ => decide (n = m)
  | f + 1, .tup ds, .ref a => (match K.lookup a with
    | some ⟨.type c, none, .seq its _, _⟩ => decide (c = "tuple") && (decide (its.toList.length ≤ 1000) && (decide (ds.length = its.toList.length) && (ds.zip its.toList).all fun p => datB K f p.1 p.2))
    | _ => false)
  | _ + 1, _, _ => false
def rowsB (K : PySem.W.Frag) : List DictEntry → List (Int × D) → Bool
  | [], [] => true
  | e :: es, p :: tb => decide (e.hash = hashInt p.1) && ((match e.key with
    | .int j _ => decide (j = p.1)
    | _ => false) && (datB K 6 p.2 e.val && rowsB K es tb))
  | _, _ => false
def tabB (K : PySem.W.Frag) (a : Addr) (tb : List (Int × D)) : Bool := match K.lookup a with
  | some ⟨.type c, none, .dict es _, sl⟩ => decide (c = "dict") && (sl.isEmpty && rowsB K es.toList tb)
  | _ => false
end Vi
namespace Lk26
open PySem PySem.Spec PyProof.Rows L2 Vi
noncomputable def topS (i : Nat) : Stmt := PySem.Challenge.pw_partrests_k26_what_are_claims.main.body.getD i (.Pass ⟨0, 0, 0, 0⟩)
noncomputable abbrev sis_whole : Stmt := topS 3
noncomputable abbrev sis_claim : Stmt := topS 4
noncomputable abbrev s_law_hand : Stmt := topS 6
noncomputable abbrev s_law_take : Stmt := topS 7
noncomputable abbrev s_law_whole : Stmt := topS 8
noncomputable abbrev s_law_due : Stmt := topS 9
noncomputable abbrev s_law_claim : Stmt := topS 10
noncomputable abbrev s_law_deep : Stmt := topS 11
noncomputable abbrev s_law_odd : Stmt := topS 12
noncomputable abbrev s_law_otherwise : Stmt := topS 13
noncomputable abbrev s_law_told : Stmt := topS 14
noncomputable abbrev slaw : Stmt := topS 15
noncomputable def hdXs0 : List Str := ["is_whole",
    "is_claim",
    "_law_hand",
    "_law_take",
    "_law_whole",
    "_law_due",
    "_law_claim",
    "_law_deep",
    "_law_odd",
    "_law_otherwise",
    "_law_told",
    "law"]
noncomputable def hdXs : List Str := hdXs0
noncomputable def hdYs : List Str := []
noncomputable def hdFa0 : List He.Fa := [.int "MOST_STEP" 600,
    .int "MOST_NUMBER" 1000000]
noncomputable def hdFa : List He.Fa := hdFa0
noncomputable def hdFn0 : List He.DefD := [dG "is_whole" sis_whole,
    dG "is_claim" sis_claim,
    dG "_law_hand" s_law_hand,
    dG "_law_take" s_law_take,
    dG "_law_whole" s_law_whole,
    dG "_law_due" s_law_due,
    dG "_law_claim" s_law_claim,
    dG "_law_deep" s_law_deep,
    dG "_law_odd" s_law_odd,
    dG "_law_otherwise" s_law_otherwise,
    dG "_law_told" s_law_told,
    dG "law" slaw]
noncomputable def hdFn : List He.DefD := hdFn0
noncomputable def hdTs : List He.Tab := []
noncomputable def hdBs0 : List (PySem.W.Frag → Bool) := [bG "is_whole",
    bG "is_claim",
    bG "_law_hand",
    bG "_law_take",
    bG "_law_whole",
    bG "_law_due",
    bG "_law_claim",
    bG "_law_deep",
    bG "_law_odd",
    bG "_law_otherwise",
    bG "_law_told",
    bG "law",
    bZ "isinstance",
    bZ "int",
    bZ "bool",
    bZ "tuple",
    bZ "len",
    bZ "abs",
    bZ "range",
    bZ "list",
    bZ "repr",
    bZ "max",
    bZ "min"]
noncomputable def hdBs : List (PySem.W.Frag → Bool) := hdBs0
noncomputable def hdNs0 : List PySem.Str := ["MOST_STEP",
    "MOST_NUMBER",
    "is_whole",
    "is_claim",
    "_law_hand",
    "_law_take",
    "_law_whole",
    "_law_due",
    "_law_claim",
    "_law_deep",
    "_law_odd",
    "_law_otherwise",
    "_law_told"]
noncomputable def hdNs : List PySem.Str := hdNs0
noncomputable abbrev hdR : PySem.W.OpenRow := PySem.W.OpenLaw.row PySem.Challenge.rw_partrests_k26_what_are_claims
noncomputable abbrev hdQ : Program := PySem.W.view hdR.prog [15]
noncomputable abbrev hdH : PySem.W.Hook := hookH hdXs hdYs hdFa hdFn hdTs hdBs
noncomputable def hdO (s : PySem.W.SharedT) : AlH := obsHG hdXs hdYs hdFa hdFn hdTs hdBs (HandSHeadRun.getT s)
theorem hdO_eq (s : PySem.W.SharedT) : hdO s = hdH.obs s.abs := obsHG_eq (HandSHeadRun.getT_eq s)
set_option maxHeartbeats 0 in
theorem hdRunF (w : World) : HandSHeadRun.RunEq hdR hdQ hdH hdO 100000 hdNs (w.withFollow "special-get-raises" false) := by
  intro os
  kernel_rfl
set_option maxHeartbeats 0 in
theorem hdRunT (w : World) : HandSHeadRun.RunEq hdR hdQ hdH hdO 100000 hdNs (w.withFollow "special-get-raises" true) := by
  intro os
  kernel_rfl
theorem hdRun (w : World) : HandSHeadRun.RunEq hdR hdQ hdH hdO 100000 hdNs w := PySem.W.byRow2 "special-get-raises" (P := fun w => HandSHeadRun.RunEq hdR hdQ hdH hdO 100000 hdNs w) hdRunF hdRunT w
end Lk26
namespace Vi
open PySem PySem.Spec PyProof.Rows L2
def sVar (i : Nat) : SE := fun ρ m => match ρ[i]? with
  | some (some x) => .ok x m
  | _ => .bad
def sC (x : D) : SE := fun _ m => .ok x m
abbrev G2 := D → D → M → R D
def sBin (g : G2) (da db : SE) : SE := fun ρ m => (da ρ m).bind fun x m => (db ρ m).bind fun y m => g x y m
def Op2 (X : Cx) (f : Value → Value → Sem Value) (g : G2) : Prop :=
  ∃ r, OpR X f r ∧ ∀ (EX : Str → Hp → Prop) (W : Wd) (H : Hp) (m : M) (vx vy : V) (x y : D) (Q : VK), RM X.K X.mg W H m → RD X.K W vx x → RD X.K W vy y →
    post X.K X.mg W H (g x y m) (fun z W' H' _ => ∀ v, RD X.K W' v z → Q v H') EX → r vx vy H Q
def Op2B (X : Cx) (f : Value → Value → Sem Value) (g : D → D → M → R Bool) : Prop :=
  ∃ r, OpR X f r ∧ ∀ (EX : Str → Hp → Prop) (W : Wd) (H : Hp) (m : M) (vx vy : V) (x y : D) (Q : VK), RM X.K X.mg W H m → RD X.K W vx x → RD X.K W vy y →
    post X.K X.mg W H (g x y m) (fun b W' H' _ => Q (.bl b) H') EX → r vx vy H Q
def sBinT (g : D → D → M → R Bool) (da db : SE) : SB := fun ρ m => (da ρ m).bind fun x m => (db ρ m).bind fun y m => g x y m
def sOfT (t : SB) : SE := fun ρ m => (t ρ m).bind fun b m => .ok (.bl b) m
section
variable {X : Cx} {EX : EXT} {a b c e : Expr} {da db dc : SE} {pos : Pos}
theorem de_var (i : Nat) {x : Str} (hN : X.N[i]? = some x := by rfl) (hv : Vis X.env.scope x := by first | exact Or.inl rfl | exact Or.inr (Or.inl rfl) | exact Or.inr (Or.inr rfl)) (hd : (x == ("__debug__" : Str)) = false := by decide)
    (hcd : (x == ("__classdict__" : Str)) = false := by decide) : DE X EX (.Name x pos) (sVar i) :=
  PE.imp (pe_var hN hv hd hcd) fun σ H Q ⟨W, ρ, m, rs, rm, h⟩ => by
    unfold sVar at h
    split at h
    · rename_i x e
      obtain ⟨v, e1, r⟩ := rs.get i x e
      exact ⟨v, e1, post_ok h rm v r⟩
    · exact h.elim
theorem de_const {e : Expr} {v : V} {x : D} (h : PE X e (tC v)) (r : ∀ W, RD X.K W v x) : DE X EX e (sC x) :=
  PE.imp h fun σ H Q ⟨W, ρ, m, rs, rm, h⟩ => post_ok h rm v (r W)
theorem de_int {i j pos} : DE X EX (.Constant (.int i) j pos) (sC (.int i)) := de_const pe_int fun _ => .int _
theorem de_bl {b j pos} : DE X EX (.Constant (.bool b) j pos) (sC (.bl b)) := de_const pe_bl fun _ => .bl _
theorem de_non {j pos} : DE X EX (.Constant .none j pos) (sC .non) := de_const pe_non fun _ => .non
theorem de_str {x j pos} : DE X EX (.Constant (.str x) j pos) (sC (.str x)) := de_const pe_str fun _ => .str _
theorem two {r : R2} {g : G2} {ta : TE} {σ : L2.St} {H : Hp} {Q : VK}
    (lift : ∀ (EX : Str → Hp → Prop) (W : Wd) (H : Hp) (m : M) (vx vy : V) (x y : D) (Q : VK), RM X.K X.mg W H m → RD X.K W vx x → RD X.K W vy y → post X.K X.mg W H (g x y m) (fun z W' H' _ => ∀ v, RD X.K W' v z → Q v H') EX → r vx vy H Q)
    (h : tE X.K X.mg EX (sBin g da db) σ H Q) : tOp r (tE X.K X.mg EX da) (tE X.K X.mg EX db) σ H Q := by
  obtain ⟨W, ρ, m, rs, rm, h⟩ := h
  refine ⟨W, ρ, m, rs, rm, post_mono (post_bind h) fun x W1 H1 m1 e1 rm1 h1 v rv => ?_⟩
  refine ⟨W1, ρ, m1, rs.mono e1.le, rm1, post_mono (post_bind h1) fun y W2 H2 m2 e2 rm2 h2 u ru => ?_⟩
  exact lift _ W2 H2 m2 v u x y Q rm2 (rv.mono e2.le) ru h2
theorem de_op {op : Operator} {g : G2} (ho : Op2 X (binaryOp op) g) (ha : DE X EX a da) (hb : DE X EX b db) : DE X EX (.BinOp a op b pos) (sBin g da db) := by
  obtain ⟨r, hr, lift⟩ := ho
  exact PE.imp (pe_op hr ha hb) fun σ H Q h => two (ta := tE X.K X.mg EX da) lift h
theorem twoT {r : R2} {g : D → D → M → R Bool} {σ : L2.St} {H : Hp} {Q : Bool → Hp → Prop}
    (lift : ∀ (EX : Str → Hp → Prop) (W : Wd) (H : Hp) (m : M) (vx vy : V) (x y : D) (Q : VK), RM X.K X.mg W H m → RD X.K W vx x → RD X.K W vy y → post X.K X.mg W H (g x y m) (fun b W' H' _ => Q (.bl b) H') EX → r vx vy H Q)
    (h : tT X.K X.mg EX (sBinT g da db) σ H Q) : tTest (tOp r (tE X.K X.mg EX da) (tE X.K X.mg EX db)) σ H Q := by
  obtain ⟨W, ρ, m, rs, rm, h⟩ := h
  refine ⟨W, ρ, m, rs, rm, post_mono (post_bind h) fun x W1 H1 m1 e1 rm1 h1 v rv => ?_⟩
  refine ⟨W1, ρ, m1, rs.mono e1.le, rm1, post_mono (post_bind h1) fun y W2 H2 m2 e2 rm2 h2 u ru => ?_⟩
  exact lift _ W2 H2 m2 v u x y _ rm2 (rv.mono e2.le) ru (post_mono h2 fun b W3 H3 m3 e3 rm3 h3 => ⟨b, rfl, h3⟩)
theorem dt_cmp {op : CmpOp} {g : D → D → M → R Bool} (ho : Op2B X (compareOp op) g) (ha : DE X EX a da) (hb : DE X EX b db) (hm : behindInMarks op b = false := by first | exact nomark _ | rfl) : DT X EX (.Compare a [op] [b] pos) (sBinT g da db) := by
  obtain ⟨r, hr, lift⟩ := ho
  exact PT.imp (pt_cmpR hr ha hb hm) fun σ H Q h => twoT lift h
theorem de_cmp {op : CmpOp} {g : D → D → M → R Bool} (ho : Op2B X (compareOp op) g) (ha : DE X EX a da) (hb : DE X EX b db) (hm : behindInMarks op b = false := by first | exact nomark _ | rfl) : DE X EX (.Compare a [op] [b] pos) (sOfT (sBinT g da db)) := by
  obtain ⟨r, hr, lift⟩ := ho
  refine PE.imp (pe_cmpR hr ha hb hm) fun σ H Q ⟨W, ρ, m, rs, rm, h⟩ => ?_
  have h : post X.K X.mg W H (sBinT g da db ρ m) (fun b W' H' _ => Q (.bl b) H') (EX σ) := post_mono (post_bind h) fun b W1 H1 m1 e1 rm1 h1 => post_ok h1 rm1 (.bl b) (.bl b)
  refine ⟨W, ρ, m, rs, rm, post_mono (post_bind h) fun x W1 H1 m1 e1 rm1 h1 v rv => ?_⟩
  refine ⟨W1, ρ, m1, rs.mono e1.le, rm1, post_mono (post_bind h1) fun y W2 H2 m2 e2 rm2 h2 u ru => ?_⟩
  exact lift _ W2 H2 m2 v u x y _ rm2 (rv.mono e2.le) ru h2
def sChain (g g' : D → D → M → R Bool) (da db dc : SE) : SB := fun ρ m => (da ρ m).bind fun x m => (db ρ m).bind fun y m => (g x y m).bind fun k m => if k = true then (dc ρ m).bind fun z m => g' y z m else .ok false m
theorem chainR {r r' : R2} {g g' : D → D → M → R Bool} {σ : L2.St} {H : Hp} {Q : VK} {W : Wd} {ρ : En} {m : M} (rs : RS X.K W σ ρ) (rm : RM X.K X.mg W H m)
    (lift : ∀ (EX : Str → Hp → Prop) (W : Wd) (H : Hp) (m : M) (vx vy : V) (x y : D) (Q : VK), RM X.K X.mg W H m → RD X.K W vx x → RD X.K W vy y → post X.K X.mg W H (g x y m) (fun b W' H' _ => Q (.bl b) H') EX → r vx vy H Q)
    (lift' : ∀ (EX : Str → Hp → Prop) (W : Wd) (H : Hp) (m : M) (vx vy : V) (x y : D) (Q : VK), RM X.K X.mg W H m → RD X.K W vx x → RD X.K W vy y → post X.K X.mg W H (g' x y m) (fun b W' H' _ => Q (.bl b) H') EX → r' vx vy H Q)
    (h : post X.K X.mg W H (sChain g g' da db dc ρ m) (fun b W' H' _ => Q (.bl b) H') (EX σ)) : tChain r r' (tE X.K X.mg EX da) (tE X.K X.mg EX db) (tE X.K X.mg EX dc) σ H Q := by
  refine ⟨W, ρ, m, rs, rm, post_mono (post_bind h) fun x W1 H1 m1 e1 rm1 h1 v rv => ?_⟩
  refine ⟨W1, ρ, m1, rs.mono e1.le, rm1, post_mono (post_bind h1) fun y W2 H2 m2 e2 rm2 h2 u ru => ?_⟩
  refine lift _ W2 H2 m2 v u x y _ rm2 (rv.mono e2.le) ru (post_mono (post_bind h2) fun k W3 H3 m3 e3 rm3 h3 => ⟨k, rfl, ?_⟩)
  cases k with
  | false => exact post_ok h3 rm3
  | true =>
    refine ⟨W3, ρ, m3, rs.mono ((e1.trans e2).trans e3).le, rm3, post_mono (post_bind h3) fun z W4 H4 m4 e4 rm4 h4 t rt => ?_⟩
    exact lift' _ W4 H4 m4 u t y z _ rm4 (ru.mono (e3.trans e4).le) rt h4
theorem de_chain {op op' : CmpOp} {g g' : D → D → M → R Bool} (ho : Op2B X (compareOp op) g) (ho' : Op2B X (compareOp op') g') (ha : DE X EX a da) (hb : DE X EX b db) (hc : DE X EX c dc)
    (hm : lastMarks [op, op'] [b, c] = false := by with_unfolding_all rfl) : DE X EX (.Compare a [op, op'] [b, c] pos) (sOfT (sChain g g' da db dc)) := by
  obtain ⟨r, hr, lift⟩ := ho
  obtain ⟨r', hr', lift'⟩ := ho'
  refine PE.imp (pe_chain hr hr' ha hb hc hm) fun σ H Q ⟨W, ρ, m, rs, rm, h⟩ => ?_
  exact chainR rs rm lift lift' (post_mono (post_bind h) fun b W1 H1 m1 e1 rm1 h1 => post_ok h1 rm1 (.bl b) (.bl b))
def sAnd (t u : SB) : SB := fun ρ m => (t ρ m).bind fun k m => if k = true then u ρ m else .ok false m
def sOr (t u : SB) : SB := fun ρ m => (t ρ m).bind fun k m => if k = true then .ok true m else u ρ m
def sNot (t : SB) : SB := fun ρ m => (t ρ m).bind fun k m => .ok (!k) m
variable {t u : SB} {rest : List Expr}
theorem dw_or1 (ha : DT X EX a t) : DW X EX (.BoolOp .Or [a] pos) t := pw_or1 ha
theorem dw_or (ha : DT X EX a t) (hb : DW X EX (.BoolOp .Or (b :: rest) pos) u) : DW X EX (.BoolOp .Or (a :: b :: rest) pos) (sOr t u) :=
  PW.imp (pw_or ha hb) fun σ H Q ⟨W, ρ, m, rs, rm, h⟩ => ⟨W, ρ, m, rs, rm, post_mono (post_bind h) fun k W1 H1 m1 e1 rm1 h1 => by
    cases k with
    | true => exact post_ok h1 rm1
    | false => exact ⟨W1, ρ, m1, rs.mono e1.le, rm1, h1⟩⟩
theorem dt_w (h : DW X EX e t) : DT X EX e t := h.pt
theorem dt_not (ha : DT X EX a t) : DT X EX (.UnaryOp .Not a pos) (sNot t) :=
  PT.imp (pt_not ha) fun σ H Q ⟨W, ρ, m, rs, rm, h⟩ => ⟨W, ρ, m, rs, rm, post_mono (post_bind h) fun k W1 H1 m1 e1 rm1 h1 => post_ok h1 rm1⟩
def sTB (d : SE) : SB := fun ρ m => (d ρ m).bind fun x m => match x with
  | .bl b => .ok b m
  | _ => .bad
theorem dt_bl (h : DE X EX e da) (he : ∀ whole, isTrue e X.env whole = (do let v ← whole; standAt e.pos; holding [v] (truthy v)) := by intro _; rfl) : DT X EX e (sTB da) :=
  PT.imp (pt_val h he) fun σ H Q ⟨W, ρ, m, rs, rm, h⟩ => ⟨W, ρ, m, rs, rm, post_mono (post_bind h) fun x W1 H1 m1 e1 rm1 h1 v rv => by
    cases x with
    | bl b => cases rv; exact ⟨b, rfl, post_ok h1 rm1⟩
    | _ => exact h1.elim⟩
def sAndV (da db : SE) : SE := fun ρ m => (sTB da ρ m).bind fun k m => if k = true then db ρ m else .ok (.bl false) m
def sIf (t : SB) (da db : SE) : SE := fun ρ m => (t ρ m).bind fun k m => if k = true then da ρ m else db ρ m
theorem de_one {op} (h : DE X EX a da) : DE X EX (.BoolOp op [a] pos) da := pe_one h
theorem tb_of {EX : Str → Hp → Prop} {σ : L2.St} {H : Hp} {W : Wd} {ρ : En} {m : M} {f : Bool → M → R D} {Q : D → Wd → Hp → M → Prop} (h : post X.K X.mg W H ((sTB da ρ m).bind f) Q EX) :
    post X.K X.mg W H (da ρ m) (fun x W1 H1 m1 => ∃ k, x = .bl k ∧ post X.K X.mg W1 H1 (f k m1) Q EX) EX := by
  refine post_mono (post_bind (post_bind h)) fun x W1 H1 m1 e1 rm1 h1 => ?_
  cases x with
  | bl b => exact ⟨b, rfl, post_ok h1 rm1⟩
  | _ => exact h1.elim
theorem de_and (ha : DE X EX a da) (hb : DE X EX (.BoolOp .And (b :: rest) pos) db) : DE X EX (.BoolOp .And (a :: b :: rest) pos) (sAndV da db) :=
  PE.imp (pe_and ha hb) fun σ H Q ⟨W, ρ, m, rs, rm, h⟩ => ⟨W, ρ, m, rs, rm, post_mono (tb_of (σ := σ) h) fun x W1 H1 m1 e1 rm1 ⟨k, hk, h1⟩ v rv => by
    subst hk
    cases rv
    refine ⟨k, rfl, ?_⟩
    cases k with
    | true => exact ⟨W1, ρ, m1, rs.mono e1.le, rm1, h1⟩
    | false => exact post_ok h1 rm1 _ (.bl _)⟩
def sNotV (da : SE) : SE := sOfT (sNot (sTB da))
theorem de_not (ha : DE X EX a da) : DE X EX (.UnaryOp .Not a pos) (sNotV da) :=
  PE.imp (pe_not ha) fun σ H Q ⟨W, ρ, m, rs, rm, h⟩ => ⟨W, ρ, m, rs, rm, post_mono (post_bind (post_bind (post_bind h))) fun x W1 H1 m1 e1 rm1 h1 v rv => by
    cases x with
    | bl b =>
      cases rv
      exact ⟨b, rfl, post_ok (post_ok (post_ok h1 rm1) rm1) rm1 _ (.bl _)⟩
    | _ => exact h1.elim⟩
theorem de_if (hc : DT X EX c t) (ha : DE X EX a da) (hb : DE X EX b db) : DE X EX (.IfExp c a b pos) (sIf t da db) :=
  PE.imp (pe_ifExp hc ha hb) fun σ H Q ⟨W, ρ, m, rs, rm, h⟩ => ⟨W, ρ, m, rs, rm, post_mono (post_bind h) fun k W1 H1 m1 e1 rm1 h1 => by
    cases k with
    | true => exact ⟨W1, ρ, m1, rs.mono e1.le, rm1, h1⟩
    | false => exact ⟨W1, ρ, m1, rs.mono e1.le, rm1, h1⟩⟩
def truth : D → M → R Bool
  | .non, m => .ok false m
  | .bl b, m => .ok b m
  | .int i, m => .ok (i != 0) m
  | .str x, m => if x.length ≤ sizeLine then .ok ((x.length : Int) != 0) m else .bad
  | .tup xs, m => .ok (!xs.isEmpty) m
  | .lst xs, m => .ok (!xs.isEmpty) m
  | .frz xs, m => .ok (!xs.isEmpty) m
  | .ref n, m => match m[n]? with
    | some (.lst xs) => .ok (!xs.isEmpty) m
    | _ => .bad
  | .exc _, _ => .bad
  | .emp, _ => .bad
  | .obj _ _ _, _ => .bad
theorem RDs.isEmpty {K : PySem.W.Frag} {W : Wd} {vs : List V} {ds : List D} (h : RDs K W vs ds) : vs.isEmpty = ds.isEmpty := by cases h <;> rfl
end
def gI (C : Int → Int → Bool) (f : Int → Int → Int) : G2 := fun x y m => match x, y with
  | .int i, .int j => if C i j = true then .ok (.int (f i j)) m else .bad
  | _, _ => .bad
theorem op2_I {X : Cx} {g : Value → Value → Sem Value} {P : Int → Int → Prop} {C : Int → Int → Bool} {f : Int → Int → Int} (h : OpR X g (rI P fun i j => .int (f i j))) (hc : ∀ i j, C i j = true → P i j) : Op2 X g (gI C f) :=
  ⟨_, h, fun EX W H m vx vy x y Q rm rx ry hp => by
    unfold gI at hp
    split at hp
    · split at hp
      · rename_i i j hC
        cases rx; cases ry
        exact ⟨i, j, rfl, rfl, hc i j hC, post_ok hp rm _ (.int _)⟩
      · exact hp.elim
    · exact hp.elim⟩
theorem op2_I0 {X : Cx} {g : Value → Value → Sem Value} {f : Int → Int → Int} (h : OpR X g (rI0 fun i j => .int (f i j))) : Op2 X g (gI (fun _ _ => true) f) :=
  ⟨_, h, fun EX W H m vx vy x y Q rm rx ry hp => by
    unfold gI at hp
    split at hp
    · split at hp
      · rename_i i j hC
        cases rx; cases ry
        exact ⟨i, j, rfl, rfl, post_ok hp rm _ (.int _)⟩
      · exact hp.elim
    · exact hp.elim⟩
def gAdd : G2 := gI (fun _ _ => true) fun i j => i + j
def gSub : G2 := gI (fun _ _ => true) fun i j => i - j
def gMul : G2 := gI (fun i j => decide (i.natAbs.log2 + j.natAbs.log2 < 1000000)) fun i j => i * j
def gDiv : G2 := gI (fun _ j => decide (0 < j) && decide (j.natAbs.log2 < 9000)) fun i j => i / j
def gMod : G2 := gI (fun _ j => decide (0 < j)) fun i j => i % j
def gPow : G2 := gI (fun i j => decide (0 ≤ j) && decide (j ≤ 1000000) && decide (i.natAbs < 2 ^ 64)) fun i j => i ^ j.toNat
section
variable {X : Cx}
theorem o_add : Op2 X (binaryOp .Add) gAdd := op2_I0 op_add
theorem o_sub : Op2 X (binaryOp .Sub) gSub := op2_I0 op_sub
theorem o_mul : Op2 X (binaryOp .Mult) gMul := op2_I op_mulW fun i j h => show i.natAbs.log2 + j.natAbs.log2 < 1000000 from of_decide_eq_true h
theorem o_div : Op2 X (binaryOp .FloorDiv) gDiv := op2_I op_fdivW fun i j h => by
  rw [Bool.and_eq_true] at h
  exact ⟨of_decide_eq_true h.1, of_decide_eq_true h.2⟩
theorem o_mod : Op2 X (binaryOp .Mod) gMod := op2_I op_mod fun _ _ h => of_decide_eq_true h
theorem o_pow : Op2 X (binaryOp .Pow) gPow := op2_I op_pow fun i j h => by
  rw [Bool.and_eq_true, Bool.and_eq_true] at h
  exact ⟨of_decide_eq_true h.1.1, of_decide_eq_true h.1.2, of_decide_eq_true h.2⟩
end
def gI1 (f : Int → Int) : D → M → R D := fun x m => match x with
  | .int i => .ok (.int (f i)) m
  | _ => .bad
def sUn (g : D → M → R D) (d : SE) : SE := fun ρ m => (d ρ m).bind g
theorem de_neg {X : Cx} {EX : EXT} {a : Expr} {da : SE} {pos : Pos} (ha : DE X EX a da) : DE X EX (.UnaryOp .USub a pos) (sUn (gI1 fun i => -i) da) :=
  PE.imp (pe_un un_neg ha) fun σ H Q ⟨W, ρ, m, rs, rm, h⟩ => ⟨W, ρ, m, rs, rm, post_mono (post_bind h) fun x W1 H1 m1 e1 rm1 h1 v rv => by
    cases x with
    | int i => cases rv; exact ⟨i, rfl, post_ok h1 rm1 _ (.int _)⟩
    | _ => exact h1.elim⟩
def gC (f : Int → Int → Bool) : D → D → M → R Bool := fun x y m => match x, y with
  | .int i, .int j => .ok (f i j) m
  | _, _ => .bad
theorem op2_C {X : Cx} {g : Value → Value → Sem Value} {f : Int → Int → Bool} (h : OpR X g (rI0 fun i j => .bl (f i j))) : Op2B X g (gC f) :=
  ⟨_, h, fun EX W H m vx vy x y Q rm rx ry hp => by
    unfold gC at hp
    split at hp
    · rename_i i j
      cases rx; cases ry
      exact ⟨i, j, rfl, rfl, post_ok hp rm⟩
    · exact hp.elim⟩
def gLt := gC fun i j => decide (i < j)
def gLe := gC fun i j => decide (i ≤ j)
def gGt := gC fun i j => decide (j < i)
def gGe := gC fun i j => decide (j ≤ i)
section
variable {X : Cx}
theorem o_lt : Op2B X (compareOp .Lt) gLt := op2_C op_lt
theorem o_le : Op2B X (compareOp .LtE) gLe := op2_C op_le
theorem o_gt : Op2B X (compareOp .Gt) gGt := op2_C op_gt
theorem o_ge : Op2B X (compareOp .GtE) gGe := op2_C op_ge
end
mutual
def toPy : D → M → Option PyData
  | .non, _ => some .none
  | .bl b, _ => some (.bool b)
  | .int i, _ => some (.int i)
  | .str x, _ => some (.str x)
  | .tup xs, m => (toPys xs m).map .tuple
  | .lst xs, m => (toPys xs m).map .list
  | .frz xs, m => (toPys xs m).map .list
  | .ref _, _ => none
  | .exc _, _ => none
  | .emp, _ => none
  | .obj _ _ _, _ => none
def toPys : List D → M → Option (List PyData)
  | [], _ => some []
  | x :: xs, m => match toPy x m, toPys xs m with
    | some d, some ds => some (d :: ds)
    | _, _ => none
end
def toPyR (x : D) (m : M) : Option PyData := match x with
  | .ref n => match m[n]? with
    | some (.lst xs) => (toPys xs m).map .list
    | _ => none
  | x => toPy x m
section
variable {K : PySem.W.Frag} {mg : Str → Option Value} {W : Wd} {H : Hp} {m : M}
mutual
theorem dp_of (sub : Same W.I H) : ∀ {v : V} {x : D} {d : PyData}, RD K W v x → toPy x m = some d → Dp K H v d
  | _, _, _, .non, e => by simp only [toPy, Option.some.injEq] at e; subst e; exact .non
  | _, _, _, .bl b, e => by simp only [toPy, Option.some.injEq] at e; subst e; exact .bl b
  | _, _, _, .int i, e => by simp only [toPy, Option.some.injEq] at e; subst e; exact .int i
  | _, _, _, .str x, e => by simp only [toPy, Option.some.injEq] at e; subst e; exact .str x
  | _, _, _, .tup h n r, e => by
    simp only [toPy, Option.map_eq_some_iff] at e
    obtain ⟨ds, e, rfl⟩ := e
    exact .tup (same_T sub h) (dps_of sub r e)
  | _, _, _, .lst h r, e => by
    simp only [toPy, Option.map_eq_some_iff] at e
    obtain ⟨ds, e, rfl⟩ := e
    exact .lst (.inl (.inl (sub _ _ h))) (dps_of sub r e)
  | _, _, _, .frz h r, e => by
    simp only [toPy, Option.map_eq_some_iff] at e
    obtain ⟨ds, e, rfl⟩ := e
    exact .lst (sub.seq h) (dps_of sub r e)
  | _, _, _, .ref h, e => by simp [toPy] at e
  | _, _, _, .exc _ _, e => by simp [toPy] at e
  | _, _, _, .emp _, e => by simp [toPy] at e
  | _, _, _, .obj _ _ _ _, e => by simp [toPy] at e
theorem dps_of (sub : Same W.I H) : ∀ {vs : List V} {xs : List D} {ds : List PyData}, RDs K W vs xs → toPys xs m = some ds → DpAll K H vs ds
  | _, _, _, .nil, e => by simp only [toPys, Option.some.injEq] at e; subst e; exact .nil
  | _, _, _, .cons r t, e => by
    simp only [toPys] at e
    split at e
    · rename_i d ds e1 e2
      cases e
      exact .cons (dp_of sub r e1) (dps_of sub t e2)
    · cases e
end
theorem dpR_of (rm : RM K mg W H m) {v : V} {x : D} {d : PyData} (r : RD K W v x) (e : toPyR x m = some d) : Dp K H v d := by
  cases r with
  | @ref n a hn =>
    simp only [toPyR] at e
    split at e
    · rename_i xs hx
      rw [Option.map_eq_some_iff] at e
      obtain ⟨ds, e, rfl⟩ := e
      obtain ⟨o, ho, ⟨vs, rfl, r⟩, _⟩ := rm.get hn hx (by simp)
      exact .lst (.inl (.inl ho)) (dps_of rm.sub r e)
    · cases e
  | non => exact dp_of (m := m) rm.sub .non e
  | bl b => exact dp_of (m := m) rm.sub (.bl b) e
  | int i => exact dp_of (m := m) rm.sub (.int i) e
  | str x => exact dp_of (m := m) rm.sub (.str x) e
  | tup h n r => exact dp_of (m := m) rm.sub (.tup h n r) e
  | lst h r => exact dp_of (m := m) rm.sub (.lst h r) e
  | frz h r => exact dp_of (m := m) rm.sub (.frz h r) e
  | exc _ _ => exact absurd e (by simp [toPyR, toPy])
  | emp _ => exact absurd e (by simp [toPyR, toPy])
  | obj _ _ _ _ => exact absurd e (by simp [toPyR, toPy])
end
def gEqD : D → D → M → R Bool := fun x y m => match toPyR x m, toPyR y m with
  | some d, some e => if SeqAt.shaped d = true then if SeqAt.shaped e = true then .ok (PyData.eqv d e) m else .bad else .bad
  | _, _ => .bad
def gNeD : D → D → M → R Bool := fun x y m => match toPyR x m, toPyR y m with
  | some d, some e => if SeqAt.shaped d = true then if SeqAt.shaped e = true then .ok (!PyData.eqv d e) m else .bad else .bad
  | _, _ => .bad
theorem o_eqD {X : Cx} (hu : X.A.units + 64 < cLine) : Op2B X (compareOp .Eq) gEqD := ⟨_, op_eqD hu, fun EX W H m vx vy x y Q rm rx ry hp => by
  unfold gEqD at hp
  split at hp
  · rename_i d e h1 h2
    split at hp
    · split at hp
      · exact ⟨d, e, dpR_of rm rx h1, dpR_of rm ry h2, by assumption, by assumption, post_ok hp rm⟩
      · exact hp.elim
    · exact hp.elim
  · exact hp.elim⟩
theorem o_neD {X : Cx} (hu : X.A.units + 64 < cLine) : Op2B X (compareOp .NotEq) gNeD := ⟨_, op_neD hu, fun EX W H m vx vy x y Q rm rx ry hp => by
  unfold gNeD at hp
  split at hp
  · rename_i d e h1 h2
    split at hp
    · split at hp
      · exact ⟨d, e, dpR_of rm rx h1, dpR_of rm ry h2, by assumption, by assumption, post_ok hp rm⟩
      · exact hp.elim
    · exact hp.elim
  · exact hp.elim⟩
def gEq : D → D → M → R Bool := fun x y m => match x, y with
  | .str a, .str b => .ok (a == b) m
  | x, y => gEqD x y m
def gNe : D → D → M → R Bool := fun x y m => match x, y with
  | .str a, .str b => .ok (!(a == b)) m
  | x, y => gNeD x y m
theorem o_eq {X : Cx} (hu : X.A.units + 64 < cLine) : Op2B X (compareOp .Eq) gEq := by
  obtain ⟨r, hr, lr⟩ := o_eqD hu
  refine ⟨_, op_eq.or hr, fun EX W H m vx vy x y Q rm rx ry hp => ?_⟩
  unfold gEq at hp
  split at hp
  · cases rx; cases ry
    refine .inl ⟨rfl, ?_⟩
    rw [dec_str]
    exact post_ok hp rm
  · exact .inr (lr EX W H m vx vy _ _ Q rm rx ry hp)
theorem o_ne {X : Cx} (hu : X.A.units + 64 < cLine) : Op2B X (compareOp .NotEq) gNe := by
  obtain ⟨r, hr, lr⟩ := o_neD hu
  refine ⟨_, op_ne.or hr, fun EX W H m vx vy x y Q rm rx ry hp => ?_⟩
  unfold gNe at hp
  split at hp
  · cases rx; cases ry
    refine .inl ⟨rfl, ?_⟩
    rw [dec_str]
    exact post_ok hp rm
  · exact .inr (lr EX W H m vx vy _ _ Q rm rx ry hp)
end Vi
namespace Vi
open PySem PySem.Spec PyProof.Rows L2
abbrev big : Nat := 16777216
theorem big_eq : sizeLine = big := sizeLine_eq
def sNil : SA := fun _ m => .ok [] m
def sCons (d : SE) (ds : SA) : SA := fun ρ m => (d ρ m).bind fun x m => (ds ρ m).bind fun xs m => .ok (x :: xs) m
def sTup (ds : SA) : SE := fun ρ m => (ds ρ m).bind fun xs m => if xs.length ≤ big then .ok (.tup xs) m else .bad
def sLst (ds : SA) : SA := fun ρ m => (ds ρ m).bind fun xs m => if xs.length ≤ big then .ok xs m else .bad
def sFrz (ds : SA) : SE := fun ρ m => (ds ρ m).bind fun xs m => .ok (.lst xs) m
def sNew (ds : SA) : SE := fun ρ m => (ds ρ m).bind fun xs m => .ok (.ref m.length) (m ++ [.lst xs])
section
variable {X : Cx} {EX : EXT} {a b c e : Expr} {es : List Expr} {d da db dc : SE} {ds : SA} {pos : Pos}
theorem da_nil : DA X EX [] sNil := PA.imp pa_nil fun σ H Q ⟨W, ρ, m, rs, rm, h⟩ => post_ok h rm _ .nil
theorem da_cons (ha : DE X EX e d) (hr : DA X EX es ds) (hs : starEach (e :: es) X.env = (false, eval e X.env) :: starEach es X.env := by rfl) : DA X EX (e :: es) (sCons d ds) :=
  PA.imp (pa_cons ha hr hs) fun σ H Q ⟨W, ρ, m, rs, rm, h⟩ => ⟨W, ρ, m, rs, rm, post_mono (post_bind h) fun x W1 H1 m1 e1 rm1 h1 v rv =>
    ⟨W1, ρ, m1, rs.mono e1.le, rm1, post_mono (post_bind h1) fun xs W2 H2 m2 e2 rm2 h2 vs rvs => post_ok h2 rm2 _ (.cons (rv.mono e2.le) rvs)⟩⟩
def tTupS (t : TA) : TE := fun σ H Q => t σ H fun xs H1 => xs.length ≤ sizeLine ∧ ∀ p o, H1 p = none → o.dict = none → Q (.ref p) (upd H1 p (.frz o (.tup xs)))
theorem pe_tupS {t : TA} {x1} (h : PA X es t) : PE X (.Tuple es x1 pos) (tTupS t) := by
  refine ⟨fun pins s σ H Q I hq => wpAny_Tuple_spliced (thn (h.run pos pins s σ H _ I hq) ?_)⟩
  rintro us s1 ⟨xs, H1, I1, r, z, q⟩
  have J := I1.laid (o := .frz _ (.tup xs)) (t' := s1.toks) (fun _ _ e => Heap.get?_push_of_some _ e) (Nat.le_refl _) ⟨Heap.get?_push_size _ rfl, z, us, r, IsTup.new _ _⟩
  exact ⟨by rw [← r.length]; exact z, .ref _, _, J, rfl, q _ _ I1.fresh rfl⟩
theorem de_tup {x1} (h : DA X EX es ds) : DE X EX (.Tuple es x1 pos) (sTup ds) :=
  PE.imp (pe_tupS h) fun σ H Q ⟨W, ρ, m, rs, rm, h⟩ => ⟨W, ρ, m, rs, rm, post_mono (post_bind h) fun xs W1 H1 m1 e1 rm1 h1 vs rvs => by
    split at h1
    · rename_i hz
      refine ⟨by rw [rvs.length, big_eq]; exact hz, fun p o hp ho => ?_⟩
      obtain ⟨e2, rm2, r2⟩ := new_tup rm1 hp ho rvs
      exact h1 _ _ e2 rm2 _ r2
    · exact h1.elim⟩
theorem fresh_ok {W : Wd} {H : Hp} {m : M} {p : Addr} {vs : List V} {xs : List D} (rm : RM X.K X.mg W H m) (hp : H p = none) (r : RDs X.K W vs xs) :
    Ex W H W (upd H p (.lst vs)) ∧ RM X.K X.mg W (upd H p (.lst vs)) m ∧ p ∉ W.φ ∧ W.I p = none := by
  refine ⟨⟨Same.refl _, ⟨[], by simp, by simp⟩, fun b u e _ => upd_ne' hp e, fun b e => ?_, fun _ _ z => .inl z⟩, ⟨fun b u e => upd_ne' hp (rm.sub b u e), rm.len, rm.nd, fun b hb => ?_, fun i a c h1 h2 h3 => ?_, rm.off⟩, rm.nin hp, rm.nI hp⟩
  · unfold upd; split
    · simp
    · exact e
  · unfold upd; split
    · simp
    · exact rm.al b hb
  · obtain ⟨u, e, q⟩ := rm.obj i a c h1 h2 h3
    exact ⟨u, upd_ne' hp e, q⟩
theorem fresh_post {EX : Str → Hp → Prop} {W W0 : Wd} {H H0 : Hp} {m : M} {p : Addr} {vs : List V} {xs : List D} {Q : VK} (e0 : Ex W0 H0 W H) (rm : RM X.K X.mg W H m) (hp : H p = none) (r : RDs X.K W vs xs)
    (h : post X.K X.mg W H (.ok xs m) (fun xs W' H' _ => ∀ p vs, H0 p = none → p ∉ W'.φ → W'.I p = none → H' p = some (.lst vs) → RDs X.K W' vs xs → Q (.ref p) H') EX) : Q (.ref p) (upd H p (.lst vs)) := by
  obtain ⟨e1, rm1, n1, n2⟩ := fresh_ok rm hp r
  have h0 : H0 p = none := by
    cases q : H0 p with
    | none => rfl
    | some o => exact absurd hp (e0.al p (by rw [q]; simp))
  exact h _ _ e1 rm1 p vs h0 n1 n2 upd_same r
theorem dl_lst (h : DA X EX es ds) : DL X EX (.List es pos) (sLst ds) :=
  PE.imp (pe_lst h) fun σ H Q ⟨W, ρ, m, rs, rm, h⟩ => ⟨W, ρ, m, rs, rm, post_mono (post_bind h) fun xs W1 H1 m1 e1 rm1 h1 vs rvs => by
    split at h1
    · rename_i hz
      exact ⟨by rw [rvs.length, big_eq]; exact hz, fun p hp => fresh_post e1 rm1 hp rvs h1⟩
    · exact h1.elim⟩
theorem frz_imp {σ : L2.St} {H : Hp} {Q : VK} (h : tE X.K X.mg EX (sFrz ds) σ H Q) : tL X.K X.mg EX ds σ H Q :=
  let ⟨W, ρ, m, rs, rm, h⟩ := h; ⟨W, ρ, m, rs, rm, by
    unfold sFrz at h
    generalize ds ρ m = r at h ⊢
    cases r with
    | ok xs m1 =>
      intro W1 H1 e1 rm1 p vs h0 hφ hI hp r
      have le : Le W1 ⟨upd W1.I p (.lst vs), W1.φ⟩ := ⟨fun b u e => upd_ne' hI e, [], by simp⟩
      refine h ⟨upd W1.I p (.lst vs), W1.φ⟩ H1 ⟨e1.I.trans le.I, e1.φ, e1.fr, e1.al, fun b u e => ?_⟩ ⟨fun b u e => ?_, rm1.len, rm1.nd, rm1.al, fun i a c q1 q2 q3 => ?_, fun i a c q1 q2 q3 => ?_⟩ _ (.lst upd_same (r.mono le))
      · by_cases hb : b = p
        · subst hb; exact .inr (.inl h0)
        · have e' : upd W1.I p (.lst vs) b = some u := e
          rw [upd_ne hb] at e'; exact e1.nw b u e'
      · by_cases hb : b = p
        · subst hb
          have e' : upd W1.I b (.lst vs) b = some u := e
          rw [upd_same] at e'; rw [hp]; exact e'
        · have e' : upd W1.I p (.lst vs) b = some u := e
          rw [upd_ne hb] at e'; exact rm1.sub b u e'
      · obtain ⟨u, e, q⟩ := rm1.obj i a c q1 q2 q3
        exact ⟨u, e, q.mono le⟩
      · have : a ≠ p := fun z => hφ (z ▸ List.mem_of_getElem? q1)
        show upd W1.I p _ a = none
        rw [upd_ne this]; exact rm1.off i a c q1 q2 q3
    | exn c m1 => exact h
    | bad => exact h⟩
theorem new_imp {σ : L2.St} {H : Hp} {Q : VK} (h : tE X.K X.mg EX (sNew ds) σ H Q) : tL X.K X.mg EX ds σ H Q :=
  let ⟨W, ρ, m, rs, rm, h⟩ := h; ⟨W, ρ, m, rs, rm, by
    unfold sNew at h
    generalize ds ρ m = r at h ⊢
    cases r with
    | ok xs m1 =>
      intro W1 H1 e1 rm1 p vs h0 hφ hI hp r
      obtain ⟨le, rm2⟩ := adopt (c := .lst xs) rm1 hp hI hφ ⟨vs, rfl, r⟩
      obtain ⟨ψ, eψ, nψ⟩ := e1.φ
      have e2 : Ex W H ⟨W1.I, W1.φ ++ [p]⟩ H1 := ⟨e1.I, ⟨ψ ++ [p], by rw [eψ, List.append_assoc], fun a ha => by
        rcases List.mem_append.mp ha with z | z
        · exact nψ a z
        · simp at z; subst z; exact h0⟩, e1.fr, e1.al, e1.nw⟩
      exact h _ _ e2 rm2 _ (.ref (by rw [← rm1.len]; simp))
    | exn c m1 => exact h
    | bad => exact h⟩
theorem de_frz (h : DL X EX e ds) : DE X EX e (sFrz ds) := PE.imp h fun _ _ _ => frz_imp
theorem de_new (h : DL X EX e ds) : DE X EX e (sNew ds) := PE.imp h fun _ _ _ => new_imp
def asSeq : D → M → Option (List D)
  | .tup xs, _ => some xs
  | .lst xs, _ => some xs
  | .frz xs, _ => some xs
  | .ref n, m => match m[n]? with
    | some (.lst xs) => some xs
    | _ => none
  | _, _ => none
def asList : D → M → Option (List D)
  | .lst xs, _ => some xs
  | .frz xs, _ => some xs
  | .ref n, m => match m[n]? with
    | some (.lst xs) => some xs
    | _ => none
  | _, _ => none
def asLst : D → M → Option (List D)
  | .lst xs, _ => some xs
  | .ref n, m => match m[n]? with
    | some (.lst xs) => some xs
    | _ => none
  | _, _ => none
theorem list_of {W : Wd} {H : Hp} {m : M} {v : V} {x : D} {xs : List D} (rm : RM X.K X.mg W H m) (r : RD X.K W v x) (h : asList x m = some xs) : ∃ a vs, v = .ref a ∧ SqL X.K H a vs ∧ RDs X.K W vs xs := by
  cases r with
  | lst q r => cases h; exact ⟨_, _, rfl, .inl (.inl (rm.sub _ _ q)), r⟩
  | frz q r => cases h; exact ⟨_, _, rfl, rm.sub.seq q, r⟩
  | ref q =>
    dsimp only [asList] at h
    split at h
    · rename_i ys hy
      cases h
      obtain ⟨o, ho, ⟨vs, rfl, r⟩, _⟩ := rm.get q hy (by simp)
      exact ⟨_, _, rfl, .inl (.inl ho), r⟩
    · cases h
  | _ => cases h
theorem lst_of {W : Wd} {H : Hp} {m : M} {v : V} {x : D} {xs : List D} (rm : RM X.K X.mg W H m) (r : RD X.K W v x) (h : asLst x m = some xs) : ∃ a vs, v = .ref a ∧ H a = some (.lst vs) ∧ RDs X.K W vs xs := by
  cases r with
  | lst q r => cases h; exact ⟨_, _, rfl, rm.sub _ _ q, r⟩
  | ref q =>
    dsimp only [asLst] at h
    split at h
    · rename_i ys hy
      cases h
      obtain ⟨o, ho, ⟨vs, rfl, r⟩, _⟩ := rm.get q hy (by simp)
      exact ⟨_, _, rfl, ho, r⟩
    · cases h
  | _ => cases h
theorem seq_of {W : Wd} {H : Hp} {m : M} {v : V} {x : D} {xs : List D} (rm : RM X.K X.mg W H m) (r : RD X.K W v x) (h : asSeq x m = some xs) : ∃ a vs, v = .ref a ∧ (SqL X.K H a vs ∨ SqT X.K H a vs) ∧ RDs X.K W vs xs := by
  cases r with
  | tup q n r => cases h; exact ⟨_, _, rfl, .inr (same_T rm.sub q), r⟩
  | lst q r => cases h; exact ⟨_, _, rfl, .inl (.inl (.inl (rm.sub _ _ q))), r⟩
  | frz q r => cases h; exact ⟨_, _, rfl, .inl (rm.sub.seq q), r⟩
  | ref q =>
    dsimp only [asSeq] at h
    split at h
    · rename_i ys hy
      cases h
      obtain ⟨o, ho, ⟨vs, rfl, r⟩, _⟩ := rm.get q hy (by simp)
      exact ⟨_, _, rfl, .inl (.inl (.inl ho)), r⟩
    · cases h
  | _ => cases h
theorem atI_rel {K : PySem.W.Frag} {W : Wd} {vs : List V} {ds : List D} (r : RDs K W vs ds) {i : Int} {d : D} (h : atI ds i = some d) : ∃ v, atI vs i = some v ∧ RD K W v d := by
  unfold atI at h ⊢
  rw [r.length]
  cases q : ixN ds.length i with
  | none => rw [q] at h; cases h
  | some j =>
    rw [q] at h
    exact r.get h
def gIx : G2 := fun x y m => match x, y with
  | .str z, .int i => if z.length ≤ big then match atI z.cps.toList i with
    | some c => .ok (.str ⟨#[c]⟩) m
    | none => .bad
    else .bad
  | x, .int i => match asSeq x m with
    | some xs => match atI xs i with
      | some d => .ok d m
      | none => .bad
    | none => .bad
  | _, _ => .bad
theorem gIx_ok {EX : Str → Hp → Prop} {W : Wd} {H : Hp} {m : M} {vx vy : V} {x y : D} {Q : VK} (rm : RM X.K X.mg W H m) (rx : RD X.K W vx x) (ry : RD X.K W vy y) (hp : post X.K X.mg W H (gIx x y m) (fun z W' H' _ => ∀ v, RD X.K W' v z → Q v H') EX) : rIx X.K vx vy H Q := by
  unfold gIx at hp
  split at hp
  · rename_i z i
    cases rx; cases ry
    split at hp
    · split at hp
      · rename_i hz _ c hc
        exact .inr (.inr ⟨z, i, c, rfl, rfl, by rw [big_eq]; exact hz, hc, post_ok hp rm _ (.str _)⟩)
      · exact hp.elim
    · exact hp.elim
  · rename_i x' i _
    cases ry
    split at hp
    · rename_i xs hx
      split at hp
      · rename_i d hd
        obtain ⟨a, vs, rfl, hs, r⟩ := seq_of rm rx hx
        obtain ⟨v, hv, rv⟩ := atI_rel r hd
        rcases hs with hs | hs
        · exact .inl ⟨a, vs, i, v, rfl, rfl, hs, hv, post_ok hp rm _ rv⟩
        · exact .inr (.inl ⟨a, vs, i, v, rfl, rfl, hs, hv, post_ok hp rm _ rv⟩)
      · exact hp.elim
    · exact hp.elim
  · exact hp.elim
theorem de_ix (ha : DE X EX a da) (hb : DE X EX b db) (hs : PlainIx b := by exact fun _ _ => rfl) : DE X EX (.Subscript a b pos) (sBin gIx da db) :=
  PE.imp (pe_ix ix_seq ha hb hs) fun σ H Q h => two (ta := tE X.K X.mg EX da) (fun _ _ _ _ _ _ _ _ _ rm rx ry hp => gIx_ok rm rx ry hp) h
abbrev SO := En → M → R (Option Int)
def tO (K : PySem.W.Frag) (mg : Str → Option Value) (EX : EXT) (d : SO) : TO := fun σ H Q => ∃ W ρ m, RS K W σ ρ ∧ RM K mg W H m ∧ post K mg W H (d ρ m) (fun o _ H' _ => Q o H') (EX σ)
def DO (X : Cx) (EX : EXT) (e : Option Expr) (d : SO) : Prop := PO X e (tO X.K X.mg EX d)
def sNo : SO := fun _ m => .ok none m
def sSome (d : SE) : SO := fun ρ m => (d ρ m).bind fun x m => match x with
  | .int i => .ok (some i) m
  | _ => .bad
theorem PO.imp {e : Option Expr} {t t' : TO} (h : PO X e t) (hi : ∀ σ H Q, t' σ H Q → t σ H Q) : PO X e t' := ⟨fun pins s σ H Q I q => h.run pins s σ H Q I (hi σ H Q q)⟩
theorem do_none : DO X EX none sNo := PO.imp po_none fun σ H Q ⟨W, ρ, m, rs, rm, h⟩ => post_ok h rm
theorem do_some (h : DE X EX e d) : DO X EX (some e) (sSome d) :=
  PO.imp (po_some h) fun σ H Q ⟨W, ρ, m, rs, rm, h⟩ => ⟨W, ρ, m, rs, rm, post_mono (post_bind h) fun x W1 H1 m1 e1 rm1 h1 v rv => by
    cases x with
    | int i => cases rv; exact ⟨i, rfl, post_ok h1 rm1⟩
    | _ => exact h1.elim⟩
def cutD (xs : List D) (lo hi : Option Int) : List D := (xs.drop (HT.sIx xs.length 0 lo)).take (HT.sIx xs.length xs.length hi - HT.sIx xs.length 0 lo)
theorem cut_rel {K : PySem.W.Frag} {W : Wd} {vs : List V} {ds : List D} (r : RDs K W vs ds) (lo hi : Option Int) : RDs K W (cutV vs lo hi) (cutD ds lo hi) := by
  unfold cutV cutD
  rw [r.length]
  exact (r.drop _).take _
def rSlS (K : PySem.W.Frag) : V → Option Int → Option Int → Hp → VK → Prop := fun x lo hi H Q => ∃ a xs, x = .ref a ∧ SqT K H a xs ∧
  (HT.sIx xs.length 0 lo = 0 ∧ HT.sIx xs.length xs.length hi = xs.length → Q (.ref a) H) ∧
  (¬ (HT.sIx xs.length 0 lo = 0 ∧ HT.sIx xs.length xs.length hi = xs.length) → ∀ p o, H p = none → o.dict = none → Q (.ref p) (upd H p (.frz o (.tup (cutV xs lo hi)))))
theorem sl_tupS : SlR X (rSlS X.K) := by
  intro pins s σ H x v vl vu lo hi sl Q I rx hsl pl pu ⟨a, xs, hxa, hx, q1, q2⟩
  subst hxa
  cases rx
  obtain ⟨its, r, ht, hz⟩ := I.tuple hx
  have hlen : its.toArray.size = xs.length := by rw [List.size_toArray, ← r.length]
  refine ⟨"tuple", _, PyProof.Rows.slot_tuple_getitem.lookup, ht.typeIs, ?_⟩
  by_cases hw : HT.sIx xs.length 0 lo = 0 ∧ HT.sIx xs.length xs.length hi = xs.length
  · exact getItem_tuple_whole ht hsl pl pu (by rw [hlen]; exact hw) ⟨.ref _, H, I, rfl, q1 hw⟩
  · refine HT.getItem_tuple_cut ht hsl pl pu (by rw [hlen]; exact hw) ?_ (by rw [hlen]; exact hz)
    have r' : Vals (cutV xs lo hi) ((its.drop (HT.sIx its.toArray.size 0 lo)).take (HT.sIx its.toArray.size its.toArray.size hi - HT.sIx its.toArray.size 0 lo)) := by
      unfold cutV
      rw [hlen]
      exact Vals.take _ (Vals.drop _ r)
    have J := I.laid (o := .frz _ (.tup (cutV xs lo hi))) (t' := s.toks) (fun _ _ e => Heap.get?_push_of_some _ e) (Nat.le_refl _) ⟨Heap.get?_push_size _ rfl, Nat.le_trans (cutV_length xs lo hi) hz, _, r', IsTup.new _ _⟩
    exact ⟨.ref _, _, J, rfl, q2 hw _ _ I.fresh rfl⟩
def sCutT (da : SE) (dl dh : SO) : SE := fun ρ m => (da ρ m).bind fun x m => (dl ρ m).bind fun lo m => (dh ρ m).bind fun hi m => match x with
  | .tup xs => .ok (.tup (cutD xs lo hi)) m
  | _ => .bad
theorem cutD_whole {xs : List D} {lo hi : Option Int} (h : HT.sIx xs.length 0 lo = 0 ∧ HT.sIx xs.length xs.length hi = xs.length) : cutD xs lo hi = xs := by
  unfold cutD
  rw [h.1, h.2]
  simp
theorem de_cut {lo hi : Option Expr} {dl dh : SO} {p2 : Pos} (ha : DE X EX a da) (hl : DO X EX lo dl) (hh : DO X EX hi dh) : DE X EX (.Subscript a (.Slice lo hi none p2) pos) (sCutT da dl dh) :=
  PE.imp (pe_slice sl_tupS ha hl hh) fun σ H Q ⟨W, ρ, m, rs, rm, h⟩ => ⟨W, ρ, m, rs, rm, post_mono (post_bind h) fun x W1 H1 m1 e1 rm1 h1 v rv =>
    ⟨W1, ρ, m1, rs.mono e1.le, rm1, post_mono (post_bind h1) fun l W2 H2 m2 e2 rm2 h2 =>
      ⟨W2, ρ, m2, rs.mono (e1.trans e2).le, rm2, post_mono (post_bind h2) fun u W3 H3 m3 e3 rm3 h3 => by
        cases x with
        | tup xs =>
          have rv3 := rv.mono (e2.trans e3).le
          cases rv3 with
          | tup hT hN r =>
            refine ⟨_, _, rfl, same_T rm3.sub hT, fun hw => ?_, fun hw p o hp ho => ?_⟩
            · refine post_ok h3 rm3 _ ?_
              rw [cutD_whole (by rw [← r.length]; exact hw)]
              exact .tup hT hN r
            · obtain ⟨e4, rm4, r4⟩ := new_tup rm3 hp ho (cut_rel r l u)
              exact h3 _ _ e4 rm4 _ r4
        | _ => exact h3.elim⟩⟩⟩
def sCatL (da db : SE) : SA := fun ρ m => (da ρ m).bind fun x m => (db ρ m).bind fun y m => match asLst x m, asLst y m with
  | some xs, some ys => if xs.length + ys.length ≤ big then .ok (xs ++ ys) m else .bad
  | _, _ => .bad
theorem dl_cat (ha : DE X EX a da) (hb : DE X EX b db) : DL X EX (.BinOp a .Add b pos) (sCatL da db) :=
  PE.imp (pe_op op_cat ha hb) fun σ H Q ⟨W, ρ, m, rs, rm, h⟩ => ⟨W, ρ, m, rs, rm, post_mono (post_bind h) fun x W1 H1 m1 e1 rm1 h1 v rv =>
    ⟨W1, ρ, m1, rs.mono e1.le, rm1, post_mono (post_bind h1) fun y W2 H2 m2 e2 rm2 h2 u ru => by
      split at h2
      · rename_i xs ys hx hy
        split at h2
        · rename_i hz
          obtain ⟨p, vs, rfl, h5, r5⟩ := lst_of rm2 (rv.mono e2.le) hx
          obtain ⟨q, us, rfl, h6, r6⟩ := lst_of rm2 ru hy
          exact ⟨p, q, vs, us, rfl, rfl, h5, h6, by rw [r5.length, r6.length, big_eq]; exact hz, fun l hl => fresh_post (e1.trans e2) rm2 hl (r5.append r6) h2⟩
        · exact h2.elim
      · exact h2.elim⟩⟩
end
section
variable {X : Cx}
def rCatS (K : PySem.W.Frag) : R2 := fun x y H Q => ∃ a b xs ys, x = .ref a ∧ y = .ref b ∧ SqT K H a xs ∧ SqT K H b ys ∧ xs.length + ys.length ≤ sizeLine ∧
  (xs = [] → Q (.ref b) H) ∧ (xs ≠ [] → ys = [] → Q (.ref a) H) ∧ (xs ≠ [] → ys ≠ [] → ∀ p o, H p = none → o.dict = none → Q (.ref p) (upd H p (.frz o (.tup (xs ++ ys)))))
theorem op_catS : OpR X (binaryOp .Add) (rCatS X.K) := by
  intro pins s σ H x y v u Q I rx ry ⟨a, b, xs, ys, hxa, hyb, ha, hb, hz, q0, q1, q2⟩
  subst hxa; subst hyb
  cases rx; cases ry
  obtain ⟨its, r1, p1, z1⟩ := I.tuple ha
  obtain ⟨jts, r2, p2, z2⟩ := I.tuple hb
  by_cases hx : xs = []
  · subst hx
    cases r1
    exact cat_tup0 p1 p2 ⟨.ref _, H, I, rfl, q0 rfl⟩
  · have hi : its ≠ [] := fun e => hx (r1.nil_iff.mp e)
    refine HT.cat_tup p1 p2 hi (fun e => ⟨.ref _, H, I, rfl, q1 hx (r2.nil_iff.mp e)⟩) (fun e => ?_) (by rw [← r1.length, ← r2.length]; exact hz)
    have J := I.laid (o := .frz _ (.tup (xs ++ ys))) (t' := s.toks) (fun _ _ e => Heap.get?_push_of_some _ e) (Nat.le_refl _) ⟨Heap.get?_push_size _ rfl, by rw [List.length_append]; exact hz, _, r1.append r2, IsTup.new _ _⟩
    exact ⟨.ref _, _, J, rfl, q2 hx (fun z => e (r2.nil_iff.mpr z)) _ _ I.fresh rfl⟩
def gCatT : G2 := fun x y m => match x, y with
  | .tup xs, .tup ys => if xs.length + ys.length ≤ big then .ok (.tup (xs ++ ys)) m else .bad
  | _, _ => .bad
theorem o_catT : Op2 X (binaryOp .Add) gCatT := ⟨_, op_catS, fun EX W H m vx vy x y Q rm rx ry hp => by
  unfold gCatT at hp
  split at hp
  · rename_i xs ys
    split at hp
    · rename_i hz
      cases rx with
      | tup h1 n1 r1 =>
        cases ry with
        | tup h2 n2 r2 =>
          refine ⟨_, _, _, _, rfl, rfl, same_T rm.sub h1, same_T rm.sub h2, by rw [r1.length, r2.length, big_eq]; exact hz, fun e => ?_, fun e1 e => ?_, fun e1 e2 p o hp' ho => ?_⟩
          · subst e; cases r1
            exact post_ok hp rm _ (.tup h2 n2 r2)
          · subst e; cases r2
            exact post_ok hp rm _ (by rw [List.append_nil]; exact .tup h1 n1 r1)
          · obtain ⟨e4, rm4, r4⟩ := new_tup rm hp' ho (r1.append r2)
            exact hp _ _ e4 rm4 _ r4
    · exact hp.elim
  · exact hp.elim⟩
end
end Vi
namespace Vi
open PySem PySem.Spec PyProof.Rows L2
inductive O where
  | nx (ρ : En) (m : M) | bk (ρ : En) (m : M) | ct (ρ : En) (m : M) | rt (x : D) (m : M) | exn (c : Str) (m : M) | bad
abbrev SS := En → M → O
def postS (K : PySem.W.Frag) (mg : Str → Option Value) (W : Wd) (H : Hp) (o : O) (Dn : Ends) (EX : EXT) : Prop :=
  match o with
  | .nx ρ m => ∀ W' H' σ, Ex W H W' H' → RM K mg W' H' m → RS K W' σ ρ → Dn.nx σ H'
  | .bk ρ m => ∀ W' H' σ, Ex W H W' H' → RM K mg W' H' m → RS K W' σ ρ → Dn.bk σ H'
  | .ct ρ m => ∀ W' H' σ, Ex W H W' H' → RM K mg W' H' m → RS K W' σ ρ → Dn.ct σ H'
  | .rt x m => ∀ W' H' v, Ex W H W' H' → RM K mg W' H' m → RD K W' v x → Dn.rt v H'
  | .exn c m => ∀ W' H' σ, Ex W H W' H' → RM K mg W' H' m → EX σ c H'
  | .bad => False
def tS (K : PySem.W.Frag) (mg : Str → Option Value) (EX : EXT) (d : SS) : TS := fun Dn σ H => ∃ W ρ m, RS K W σ ρ ∧ RM K mg W H m ∧ postS K mg W H (d ρ m) Dn EX
abbrev DS (X : Cx) (EX : EXT) (s : Stmt) (d : SS) : Prop := PS X s (tS X.K X.mg EX d)
abbrev DSs (X : Cx) (EX : EXT) (s : List Stmt) (d : SS) : Prop := PSs X s (tS X.K X.mg EX d)
def O.then (o : O) (f : En → M → O) : O := match o with
  | .nx ρ m => f ρ m
  | o => o
def R.toO {α : Type} (r : R α) (f : α → M → O) : O := match r with
  | .ok x m => f x m
  | .exn c m => .exn c m
  | .bad => .bad
@[simp] theorem toO_ok {α : Type} (x : α) (m : M) (f : α → M → O) : (R.ok x m).toO f = f x m := rfl
@[simp] theorem toO_exn {α : Type} (c : Str) (m : M) (f : α → M → O) : (R.exn c m : R α).toO f = .exn c m := rfl
@[simp] theorem toO_bad {α : Type} (f : α → M → O) : (R.bad : R α).toO f = .bad := rfl
@[simp] theorem then_nx (ρ : En) (m : M) (f : En → M → O) : (O.nx ρ m).then f = f ρ m := rfl
@[simp] theorem then_rt (x : D) (m : M) (f : En → M → O) : (O.rt x m).then f = .rt x m := rfl
@[simp] theorem then_bk (ρ : En) (m : M) (f : En → M → O) : (O.bk ρ m).then f = .bk ρ m := rfl
@[simp] theorem then_ct (ρ : En) (m : M) (f : En → M → O) : (O.ct ρ m).then f = .ct ρ m := rfl
@[simp] theorem then_exn (c : Str) (m : M) (f : En → M → O) : (O.exn c m).then f = .exn c m := rfl
section
variable {K : PySem.W.Frag} {mg : Str → Option Value} {W W1 : Wd} {H H1 : Hp} {EX : EXT} {Dn : Ends} {α : Type}
theorem postS_shift {o : O} (h : postS K mg W H o Dn EX) (e : Ex W H W1 H1) : postS K mg W1 H1 o Dn EX := by
  cases o with
  | nx ρ m => exact fun W2 H2 σ e2 => h W2 H2 σ (e.trans e2)
  | bk ρ m => exact fun W2 H2 σ e2 => h W2 H2 σ (e.trans e2)
  | ct ρ m => exact fun W2 H2 σ e2 => h W2 H2 σ (e.trans e2)
  | rt x m => exact fun W2 H2 v e2 => h W2 H2 v (e.trans e2)
  | exn c m => exact fun W2 H2 σ e2 => h W2 H2 σ (e.trans e2)
  | bad => exact h
theorem post_toO {σ : L2.St} {r : R α} {f : α → M → O} (h : postS K mg W H (r.toO f) Dn EX) : post K mg W H r (fun x W1 H1 m1 => postS K mg W1 H1 (f x m1) Dn EX) (EX σ) := by
  cases r with
  | ok x m => exact fun W1 H1 e rm => postS_shift h e
  | exn c m => exact fun W1 H1 e rm => h W1 H1 σ e rm
  | bad => exact h
theorem post_toA {r : R α} {f : α → M → O} (h : postS K mg W H (r.toO f) Dn EX) : post K mg W H r (fun x W1 H1 m1 => postS K mg W1 H1 (f x m1) Dn EX) (fun c H' => ∀ σ, EX σ c H') := by
  cases r with
  | ok x m => exact fun W1 H1 e rm => postS_shift h e
  | exn c m => exact fun W1 H1 e rm σ => h W1 H1 σ e rm
  | bad => exact h
theorem post_ex {σ : L2.St} {r : R α} {Q : α → Wd → Hp → M → Prop} (h : post K mg W H r Q (fun c H' => ∀ σ, EX σ c H')) : post K mg W H r Q (EX σ) := by
  cases r with
  | ok x m => exact h
  | exn c m => exact fun W1 H1 e rm => h W1 H1 e rm σ
  | bad => exact h
theorem postS_then {o : O} {f : En → M → O} (h : postS K mg W H (o.then f) Dn EX) :
    postS K mg W H o { Dn with nx := fun σ H' => ∃ W1 ρ m, RS K W1 σ ρ ∧ RM K mg W1 H' m ∧ postS K mg W1 H' (f ρ m) Dn EX } EX := by
  cases o with
  | nx ρ m => exact fun W1 H1 σ e rm rs => ⟨W1, ρ, m, rs, rm, postS_shift h e⟩
  | bk ρ m => exact h
  | ct ρ m => exact h
  | rt x m => exact h
  | exn c m => exact h
  | bad => exact h
end
def sPass : SS := fun ρ m => .nx ρ m
def sSeq (a b : SS) : SS := fun ρ m => (a ρ m).then b
def sRet (d : SE) : SS := fun ρ m => (d ρ m).toO fun x m => .rt x m
def sIfS (t : SB) (a b : SS) : SS := fun ρ m => (t ρ m).toO fun k m => if k = true then a ρ m else b ρ m
section
variable {X : Cx} {EX : EXT} {st : Stmt} {rest : List Stmt} {a b : SS} {e : Expr} {d : SE} {pos : Pos} {t : SB}
theorem dss_nil : DSs X EX [] sPass := PSs.imp pss_nil fun D σ H ⟨W, ρ, m, rs, rm, h⟩ => h W H σ Ex.refl rm rs
theorem dss_one (h : DS X EX st a) : DSs X EX [st] a := pss_one h
theorem dss_cons (h : DS X EX st a) (hr : DSs X EX rest b) : DSs X EX (st :: rest) (sSeq a b) :=
  PSs.imp (pss_cons h hr) fun D σ H ⟨W, ρ, m, rs, rm, h⟩ => ⟨W, ρ, m, rs, rm, postS_then h⟩
theorem ds_ret (he : DE X EX e d) : DS X EX (.Return (some e) pos) (sRet d) :=
  PS.imp (ps_ret he) fun D σ H ⟨W, ρ, m, rs, rm, h⟩ => ⟨W, ρ, m, rs, rm, post_mono (post_toO h) fun x W1 H1 m1 e1 rm1 h1 v rv => h1 W1 H1 v Ex.refl rm1 rv⟩
theorem ds_if {c : Expr} {xs ys : List Stmt} (hc : DT X EX c t) (ha : DSs X EX xs a) (hb : DSs X EX ys b) : DS X EX (.If c xs ys pos) (sIfS t a b) :=
  PS.imp (ps_if hc ha hb) fun D σ H ⟨W, ρ, m, rs, rm, h⟩ => ⟨W, ρ, m, rs, rm, post_mono (post_toO h) fun k W1 H1 m1 e1 rm1 h1 => by
    cases k with
    | true => exact ⟨W1, ρ, m1, rs.mono e1.le, rm1, h1⟩
    | false => exact ⟨W1, ρ, m1, rs.mono e1.le, rm1, h1⟩⟩
end
abbrev SG := D → En → M → R En
abbrev SGs := List D → En → M → R En
def RW (K : PySem.W.Frag) (W : Wd) (v : V) (x : D) : Prop := RD K W v x ∨ ∃ a xs ds, v = .ref a ∧ x = .tup ds ∧ SqT K W.I a xs ∧ RDs K W xs ds
abbrev RelT := PySem.W.Frag → Wd → V → D → Prop
def tG (K : PySem.W.Frag) (mg : Str → Option Value) (EX : EXT) (Rl : RelT) (g : SG) : TG := fun v σ H Q => ∃ W ρ m x, RS K W σ ρ ∧ RM K mg W H m ∧ Rl K W v x ∧ post K mg W H (g x ρ m) (fun ρ' W' H' _ => ∀ σ', RS K W' σ' ρ' → Q σ' H') (fun c H' => ∀ σ', EX σ' c H')
def tGs (K : PySem.W.Frag) (mg : Str → Option Value) (EX : EXT) (g : SGs) : TGs := fun vs σ H Q => ∃ W ρ m xs, RS K W σ ρ ∧ RM K mg W H m ∧ RDs K W vs xs ∧ post K mg W H (g xs ρ m) (fun ρ' W' H' _ => ∀ σ', RS K W' σ' ρ' → Q σ' H') (fun c H' => ∀ σ', EX σ' c H')
abbrev DG (X : Cx) (EX : EXT) (Rl : RelT) (tg : Expr) (g : SG) : Prop := PG X tg (tG X.K X.mg EX Rl g)
abbrev DGs (X : Cx) (EX : EXT) (tg : List Expr) (g : SGs) : Prop := PGs X tg (tGs X.K X.mg EX g)
theorem PG.imp {X : Cx} {e : Expr} {t t' : TG} (h : PG X e t) (hi : ∀ v σ H Q, t' v σ H Q → t v σ H Q) : PG X e t' := ⟨fun pins s σ H v u Q I r q => h.run pins s σ H v u Q I r (hi v σ H Q q)⟩
theorem PGs.imp {X : Cx} {e : List Expr} {t t' : TGs} (h : PGs X e t) (hi : ∀ v σ H Q, t' v σ H Q → t v σ H Q) : PGs X e t' := ⟨fun pins s σ H v u Q I r q => h.run pins s σ H v u Q I r (hi v σ H Q q)⟩
def gNm (i : Nat) : SG := fun x ρ m => .ok (ρ.set i (some x)) m
def gsNil : SGs := fun xs ρ m => match xs with
  | [] => .ok ρ m
  | _ => .bad
def gsCons (g : SG) (gs : SGs) : SGs := fun xs ρ m => match xs with
  | x :: xs => (g x ρ m).bind fun ρ m => gs xs ρ m
  | [] => .bad
def gTp (n : Nat) (gs : SGs) : SG := fun x ρ m => match x with
  | .tup xs => if xs.length = n then gs xs ρ m else .bad
  | _ => .bad
def setIt (o i x : D) (m : M) : R Unit := match o, i with
  | .ref n, .int k => match m[n]? with
    | some (.lst xs) => match ixN xs.length k with
      | some j => .ok () (m.set n (.lst (xs.set j x)))
      | none => .bad
    | _ => .bad
  | _, _ => .bad
def gSb (do_ di : SE) : SG := fun x ρ m => (do_ ρ m).bind fun o m => (di ρ m).bind fun i m => (setIt o i x m).bind fun _ m => .ok ρ m
section
variable {X : Cx} {EX : EXT} {pos : Pos} {tg e o i : Expr} {es : List Expr} {g : SG} {gs : SGs} {do_ di d : SE}
theorem dg_name {j : Nat} {x : Str} (hN : X.N.Nodup) (hi : X.N[j]? = some x := by rfl) (hx : Loc X.env.scope x := by first | exact .inl rfl | exact .inr rfl) (hf : X.fn x = true ∨ X.env.scope.names.lookup x = some .local := by first | exact .inl rfl | exact .inr rfl) :
    DG X EX RD (.Name x pos) (gNm j) := PG.imp (pg_name hN hi hx hf) fun v σ H Q ⟨W, ρ, m, x, rs, rm, rv, h⟩ => post_ok h rm _ (rs.set j rv)
theorem dgs_nil : DGs X EX [] gsNil := PGs.imp pgs_nil fun vs σ H Q ⟨W, ρ, m, xs, rs, rm, rv, h⟩ => by
  cases rv with
  | nil => exact ⟨rfl, post_ok h rm _ rs⟩
  | cons a b => exact h.elim
theorem dgs_cons (h1 : DG X EX RD e g) (h2 : DGs X EX es gs) (hs : (assignEach (e :: es) X.env).map (·.2) = assign e X.env :: (assignEach es X.env).map (·.2) := by rfl) : DGs X EX (e :: es) (gsCons g gs) :=
  PGs.imp (pgs_cons h1 h2 hs) fun vs σ H Q ⟨W, ρ, m, xs, rs, rm, rv, h⟩ => by
    cases rv with
    | nil => exact h.elim
    | @cons v vs d ds a b =>
      exact ⟨v, vs, rfl, W, ρ, m, d, rs, rm, a, post_mono (post_bind h) fun ρ1 W1 H1 m1 e1 rm1 h1 σ1 rs1 => ⟨W1, ρ1, m1, ds, rs1, rm1, b.mono e1.le, h1⟩⟩
theorem dg_tup {k : Nat} {n : Nat} (hc : X.calm = true) (h : DGs X EX es gs) (hn : (assignEach es X.env).length = n := by rfl) (hst : (assignEach es X.env).findIdx? (·.1) = none := by rfl) : DG X EX RW (.Tuple es k pos) (gTp n gs) :=
  PG.imp (pg_tup hc h hn hst) fun v σ H Q ⟨W, ρ, m, x, rs, rm, rv, h⟩ => by
    have key : ∃ a xs ds, v = .ref a ∧ x = .tup ds ∧ SqT X.K W.I a xs ∧ RDs X.K W xs ds := by
      rcases rv with rv | rv
      · cases rv with
        | tup hT hN r => exact ⟨_, _, _, rfl, rfl, hT, r⟩
        | _ => exact h.elim
      · exact rv
    obtain ⟨a, xs, ds, rfl, rfl, hT, r⟩ := key
    dsimp only [gTp] at h
    split at h
    · rename_i hz
      exact ⟨a, xs, rfl, same_T rm.sub hT, by rw [r.length]; exact hz, W, ρ, m, ds, rs, rm, r, h⟩
    · exact h.elim
theorem dg_w (h : DG X EX RW tg g) : DG X EX RD tg g := PG.imp h fun v σ H Q ⟨W, ρ, m, x, rs, rm, rv, h⟩ => ⟨W, ρ, m, x, rs, rm, .inl rv, h⟩
theorem dg_sub (ho : DE X EX o do_) (hi : DE X EX i di)
    (ha : ∀ v, assign (.Subscript o i pos) X.env v = (do
      let ov ← holding [v] (eval o X.env)
      let iv ← holding [v, ov] (eval i X.env)
      standAt pos
      holding [v, ov, iv] (setItem ov iv v)
      release [v, ov, iv] []) := by intro _; rfl) : DG X EX RD (.Subscript o i pos) (gSb do_ di) :=
  PG.imp (pg_sub ho hi set_list ha) fun v σ H Q ⟨W, ρ, m, x, rs, rm, rv, h⟩ => ⟨W, ρ, m, rs, rm, post_mono (post_bind (post_ex (σ := σ) h)) fun ox W1 H1 m1 e1 rm1 h1 vo ro =>
    ⟨W1, ρ, m1, rs.mono e1.le, rm1, post_mono (post_bind h1) fun ix W2 H2 m2 e2 rm2 h2 vi ri => by
      unfold setIt at h2
      split at h2
      · rename_i n k
        split at h2
        · rename_i xs hx
          split at h2
          · rename_i j hj
            cases ri
            have ro2 := ro.mono e2.le
            cases ro2 with
            | ref q =>
              obtain ⟨u, hu, ⟨vs, rfl, r⟩, _⟩ := rm2.get q hx (by simp)
              refine ⟨_, vs, k, j, rfl, rfl, hu, by rw [r.length]; exact hj, ?_⟩
              obtain ⟨e3, rm3⟩ := set_cell (c' := .lst (xs.set j x)) (o := .lst (vs.set j v)) rm2 q hx (by simp) ⟨_, rfl, r.set (rv.mono (e1.trans e2).le) j⟩
              exact h2 _ _ e3 rm3 σ (rs.mono ((e1.trans e2).trans e3).le)
          · exact h2.elim
        · exact h2.elim
      · exact h2.elim⟩⟩
def sAsg (d : SE) (g : SG) : SS := fun ρ m => (d ρ m).toO fun x m => (g x ρ m).toO fun ρ m => .nx ρ m
theorem asg_imp {te : TE} {tg : TG} {D : Ends} {σ : L2.St} {H : Hp} (he : ∀ σ H Q, tE X.K X.mg EX d σ H Q → te σ H Q) (hg : ∀ v σ H Q, tG X.K X.mg EX RD g v σ H Q → tg v σ H Q) (h : tS X.K X.mg EX (sAsg d g) D σ H) : tAsg te tg D σ H := by
  obtain ⟨W, ρ, m, rs, rm, h⟩ := h
  refine he _ _ _ ⟨W, ρ, m, rs, rm, post_mono (post_toO h) fun x W1 H1 m1 e1 rm1 h1 v rv => hg _ _ _ _ ⟨W1, ρ, m1, x, rs.mono e1.le, rm1, rv, post_mono (post_toA h1) fun ρ2 W2 H2 m2 e2 rm2 h2 σ2 rs2 => h2 W2 H2 σ2 Ex.refl rm2 rs2⟩⟩
theorem ds_asg (he : DE X EX e d) (hg : DG X EX RD tg g) (hs : swapsWithSole [tg] e pos.line X.env = pure false := by rfl) (hw : swappedStores [tg] e X.env = pure none := by rfl)
    (h1 : (assignEach [tg] X.env).map (·.2) = [assign tg X.env] := by rfl) : DS X EX (.Assign [tg] e pos) (sAsg d g) :=
  PS.imp (ps_asg he hg hs hw h1) fun D σ H h => asg_imp (fun _ _ _ h => h) (fun _ _ _ _ h => h) h
def sPar (i j : Nat) (ds : SA) : SS := fun ρ m => (ds ρ m).toO fun xs m => match xs with
  | [x, y] => .nx ((ρ.set i (some x)).set j (some y)) m
  | _ => .bad
def sPar3 (i j l : Nat) (ds : SA) : SS := fun ρ m => (ds ρ m).toO fun xs m => match xs with
  | [x, y, z] => .nx (((ρ.set i (some x)).set j (some y)).set l (some z)) m
  | _ => .bad
theorem ds_par3 {i j l : Nat} {x y z : Str} {a b c : Expr} {ds : SA} {px py pz pt : Pos} {kt k2 pt2} (hc : X.calm = true) (hN : X.N.Nodup) (ha : DA X EX [a, b, c] ds) (hi : X.N[i]? = some x := by rfl) (hj : X.N[j]? = some y := by rfl) (hl : X.N[l]? = some z := by rfl)
    (hij : i ≠ j := by decide) (hil : i ≠ l := by decide) (hjl : j ≠ l := by decide)
    (hx : X.env.scope.names.lookup x = some .local := by rfl) (hy : X.env.scope.names.lookup y = some .local := by rfl) (hz : X.env.scope.names.lookup z = some .local := by rfl)
    (hw : swappedStores [.Tuple [.Name x px, .Name y py, .Name z pz] kt pt] (.Tuple [a, b, c] k2 pt2) X.env = pure (some [x, y, z]) := by rfl)
    (hs : swapsWithSole [.Tuple [.Name x px, .Name y py, .Name z pz] kt pt] (.Tuple [a, b, c] k2 pt2) pos.line X.env = pure false := by rfl) :
    DS X EX (.Assign [.Tuple [.Name x px, .Name y py, .Name z pz] kt pt] (.Tuple [a, b, c] k2 pt2) pos) (sPar3 i j l ds) :=
  PS.imp (ps_par3 hc hN hi hj hl hij hil hjl hx hy hz ha hw hs) fun D σ H ⟨W, ρ, m, rs, rm, h⟩ => ⟨W, ρ, m, rs, rm, post_mono (post_toO h) fun xs W1 H1 m1 e1 rm1 h1 vs rvs => by
    cases rvs with
    | nil => exact h1.elim
    | cons r1 t1 =>
      cases t1 with
      | nil => exact h1.elim
      | cons r2 t2 =>
        cases t2 with
        | nil => exact h1.elim
        | cons r3 t3 =>
          cases t3 with
          | nil => exact ⟨_, _, _, rfl, h1 W1 H1 _ Ex.refl rm1 ((((rs.mono e1.le).set i r1).set j r2).set l r3)⟩
          | cons _ _ => exact h1.elim⟩
end
structure IsIt (K : PySem.W.Frag) (mg : Str → Option Value) (Rl : RelT) (J : It) (xs : List D) (W0 : Wd) : Prop where
  stop : ∀ (W : Wd) (H : Hp) (m : M), Le W0 W → RM K mg W H m → J.stop xs.length H
  go : ∀ (i : Nat) (W : Wd) (H : Hp) (m : M), Le W0 W → RM K mg W H m → i < xs.length → J.go i H
  yld : ∀ (i : Nat) (W : Wd) (H : Hp) (m : M) (v : V) (H' : Hp) (d : D), Le W0 W → RM K mg W H m → xs[i]? = some d → J.yld i H v H' → ∃ W', Ex W H W' H' ∧ RM K mg W' H' m ∧ Rl K W' v d
def tI (K : PySem.W.Frag) (mg : Str → Option Value) (EX : EXT) (Rl : RelT) (d : SA) : TI := fun σ H R => ∃ W ρ m, RS K W σ ρ ∧ RM K mg W H m ∧ post K mg W H (d ρ m) (fun xs W' H' _ => ∀ J, IsIt K mg Rl J xs W' → R J H') (EX σ)
abbrev DI (X : Cx) (EX : EXT) (Rl : RelT) (tg it : Expr) (d : SA) : Prop := PI X tg it (tI X.K X.mg EX Rl d)
theorem PI.imp {X : Cx} {tg e : Expr} {t t' : TI} (h : PI X tg e t) (hi : ∀ σ H Q, t' σ H Q → t σ H Q) : PI X tg e t' := ⟨fun pins s σ H R I q => h.run pins s σ H R I (hi σ H R q)⟩
theorem Le.trans {A B C : Wd} (a : Le A B) (b : Le B C) : Le A C := ⟨a.I.trans b.I, by
  obtain ⟨p, e⟩ := a.φ
  obtain ⟨q, f⟩ := b.φ
  exact ⟨p ++ q, by rw [f, e, List.append_assoc]⟩⟩
section
variable {X : Cx} {EX : EXT} {tg e : Expr} {d : SE} {ds : SA}
def fixL : D → Option (List D)
  | .lst xs => some xs
  | .frz xs => some xs
  | _ => none
theorem fixL_of {K : PySem.W.Frag} {W : Wd} {v : V} {x : D} {xs : List D} (r : RD K W v x) (h : fixL x = some xs) : ∃ a vs, v = .ref a ∧ SqL K W.I a vs ∧ RDs K W vs xs := by
  cases r with
  | lst q r => cases h; exact ⟨_, _, rfl, .inl (.inl q), r⟩
  | frz q r => cases h; exact ⟨_, _, rfl, q, r⟩
  | _ => cases h
def iL (d : SE) : SA := fun ρ m => (d ρ m).bind fun x m => match fixL x with
  | some xs => .ok xs m
  | none => .bad
theorem it_list {K : PySem.W.Frag} {mg : Str → Option Value} {W : Wd} {a : Addr} {vs : List V} {xs : List D} (h : SqL K W.I a vs) (r : RDs K W vs xs) : IsIt K mg RD (Itl K a) xs W where
  stop := fun W1 H m le rm => ⟨vs, (le.I.trans rm.sub).seq h, Nat.le_of_eq r.length⟩
  go := fun i W1 H m le rm hi => by
    obtain ⟨v, hv, _⟩ := r.get (List.getElem?_eq_getElem hi)
    exact ⟨vs, v, (le.I.trans rm.sub).seq h, hv⟩
  yld := fun i W1 H m v H' d le rm hd ⟨eH, hy⟩ => by
    subst eH
    obtain ⟨u, hu, ru⟩ := r.get hd
    have := hy vs ((le.I.trans rm.sub).seq h)
    rw [hu] at this
    cases this
    exact ⟨W1, Ex.refl, rm, ru.mono le⟩
theorem di_list (h : DE X EX e d) : DI X EX RD tg e (iL d) :=
  PI.imp (pi_list h) fun σ H R ⟨W, ρ, m, rs, rm, h⟩ => ⟨W, ρ, m, rs, rm, post_mono (post_bind h) fun x W1 H1 m1 e1 rm1 h1 v rv => by
    split at h1
    · rename_i xs hx
      obtain ⟨a, vs, rfl, hs, r⟩ := fixL_of rv hx
      exact ⟨a, rfl, ⟨vs, rm1.sub.seq hs⟩, post_ok h1 rm1 _ (it_list hs r)⟩
    · exact h1.elim⟩
def iT (d : SE) : SA := fun ρ m => (d ρ m).bind fun x m => match x with
  | .tup xs => .ok xs m
  | _ => .bad
theorem it_tup {K : PySem.W.Frag} {mg : Str → Option Value} {W : Wd} {a : Addr} {vs : List V} {xs : List D} (h : SqT K W.I a vs) (r : RDs K W vs xs) : IsIt K mg RD (Itt K a) xs W where
  stop := fun W1 H m le rm => ⟨vs, same_T (le.I.trans rm.sub) h, Nat.le_of_eq r.length⟩
  go := fun i W1 H m le rm hi => by
    obtain ⟨v, hv, _⟩ := r.get (List.getElem?_eq_getElem hi)
    exact ⟨vs, v, same_T (le.I.trans rm.sub) h, hv⟩
  yld := fun i W1 H m v H' d le rm hd ⟨eH, hy⟩ => by
    subst eH
    obtain ⟨u, hu, ru⟩ := r.get hd
    have := hy vs (same_T (le.I.trans rm.sub) h)
    rw [hu] at this
    cases this
    exact ⟨W1, Ex.refl, rm, ru.mono le⟩
theorem di_tup (h : DE X EX e d) : DI X EX RD tg e (iT d) :=
  PI.imp (pi_tup h) fun σ H R ⟨W, ρ, m, rs, rm, h⟩ => ⟨W, ρ, m, rs, rm, post_mono (post_bind h) fun x W1 H1 m1 e1 rm1 h1 v rv => by
    cases x with
    | tup xs =>
      cases rv with
      | tup hT hN r => exact ⟨_, rfl, ⟨_, same_T rm1.sub hT⟩, post_ok h1 rm1 _ (it_tup hT r)⟩
    | _ => exact h1.elim⟩
def rngD (lo c : Int) (n : Nat) : List D := (List.range n).map fun (i : Nat) => .int (lo + (i : Int) * c)
theorem rngD_len (lo c : Int) (n : Nat) : (rngD lo c n).length = n := by simp [rngD]
theorem rngD_get {lo c : Int} {n i : Nat} {d : D} (h : (rngD lo c n)[i]? = some d) : d = .int (lo + (i : Int) * c) := by
  unfold rngD at h
  rw [List.getElem?_map, Option.map_eq_some_iff] at h
  obtain ⟨k, hk, rfl⟩ := h
  rw [List.getElem?_range (by
    rcases Nat.lt_or_ge i n with q | q
    · exact q
    · rw [List.getElem?_eq_none (by simpa using q)] at hk; cases hk)] at hk
  cases hk; rfl
theorem it_rng {K : PySem.W.Frag} {mg : Str → Option Value} {W : Wd} {lo : Int} {n : Nat} : IsIt K mg RD (Itr lo n) (rngD lo 1 n) W where
  stop := fun W1 H m le rm => by rw [rngD_len]; exact Nat.le_refl _
  go := fun i W1 H m le rm hi => by rw [rngD_len] at hi; exact hi
  yld := fun i W1 H m v H' d le rm hd ⟨eH, hy⟩ => by
    subst eH; subst hy
    rw [rngD_get hd, Int.mul_one]
    exact ⟨W1, Ex.refl, rm, .int _⟩
abbrev lim62 : Int := 4611686018427387904
def iR1 (ds : SA) : SA := fun ρ m => (ds ρ m).bind fun xs m => match xs with
  | [.int j] => if -lim62 ≤ j ∧ j < lim62 then .ok (rngD 0 1 j.toNat) m else .bad
  | _ => .bad
variable {a b c : Expr} {p pos : Pos}
theorem RDs.inv1 {K : PySem.W.Frag} {W : Wd} {vs : List V} {x : D} (r : RDs K W vs [x]) : ∃ v, vs = [v] ∧ RD K W v x := by
  cases r with
  | cons a t => cases t; exact ⟨_, rfl, a⟩
theorem RDs.inv2 {K : PySem.W.Frag} {W : Wd} {vs : List V} {x y : D} (r : RDs K W vs [x, y]) : ∃ v u, vs = [v, u] ∧ RD K W v x ∧ RD K W u y := by
  cases r with
  | cons a t =>
    obtain ⟨u, rfl, b⟩ := RDs.inv1 t
    exact ⟨_, u, rfl, a, b⟩
theorem di_range1 (hm : X.mg "range" = none) (ha : DA X EX [a] ds) (hg : Gl X "range" := by rfl) (hs : starEach [a] X.env = [(false, eval a X.env)] := by rfl) : DI X EX RD tg (.Call (.Name "range" p) [a] [] pos) (iR1 ds) :=
  PI.imp (pi_range1 hg hm ha hs) fun σ H R ⟨W, ρ, m, rs, rm, h⟩ => ⟨W, ρ, m, rs, rm, post_mono (post_bind h) fun xs W1 H1 m1 e1 rm1 h1 vs rvs => by
    split at h1
    · split at h1
      · rename_i j hz
        obtain ⟨v, rfl, r⟩ := rvs.inv1
        cases r
        exact ⟨j, rfl, hz.1, hz.2, post_ok h1 rm1 _ it_rng⟩
      · exact h1.elim
    · exact h1.elim⟩
end
def forLoop (g : SG) (b : SS) : List D → En → M → O
  | [], ρ, m => .nx ρ m
  | x :: xs, ρ, m => (g x ρ m).toO fun ρ m => match b ρ m with
    | .nx ρ m => forLoop g b xs ρ m
    | .ct ρ m => forLoop g b xs ρ m
    | .bk ρ m => .nx ρ m
    | .rt x m => .rt x m
    | .exn c m => .exn c m
    | .bad => .bad
def sFor (d : SA) (g : SG) (b : SS) : SS := fun ρ m => (d ρ m).toO fun xs m => forLoop g b xs ρ m
section
variable {X : Cx} {EX : EXT} {Rl : RelT} {tg it : Expr} {body : List Stmt} {d : SA} {g : SG} {b : SS} {t : SB} {pos : Pos} {c : Expr}
theorem ds_for (hp : PassesOwn (model X.prog X.w) X.A X.env X.xe) (hc : X.calm = true) (hi : DI X EX Rl tg it d) (hg : DG X EX Rl tg g) (hb : DSs X EX body b) (hs : ∀ x, foldedSetIterable it X.env x = pure x := by intro _; rfl) :
    DS X EX (.For tg it body [] pos) (sFor d g b) := by
  refine PS.imp (ps_for hp hc hi hg hb hs) fun Dn σ H ⟨W, ρ, m, rs, rm, h⟩ => ⟨W, ρ, m, rs, rm, post_mono (post_toO h) fun xs W1 H1 m1 e1 rm1 h1 J hJ => ?_⟩
  refine ⟨fun i n σ' H' => ∃ W2 ρ2 m2, Le W1 W2 ∧ RS X.K W2 σ' ρ2 ∧ RM X.K X.mg W2 H' m2 ∧ i ≤ xs.length ∧ n = xs.length - i ∧ postS X.K X.mg W2 H' (forLoop g b (xs.drop i) ρ2 m2) Dn EX,
    ⟨xs.length, W1, ρ, m1, Le.refl, rs.mono e1.le, rm1, Nat.zero_le _, rfl, h1⟩, ?_⟩
  rintro i n σ' H' ⟨W2, ρ2, m2, le2, rs2, rm2, hi2, rfl, h2⟩
  by_cases hlt : i < xs.length
  · refine .inr ⟨hJ.go i W2 H' m2 le2 rm2 hlt, fun σ3 H3 => ∃ W3 ρ3 m3, Le W1 W3 ∧ RS X.K W3 σ3 ρ3 ∧ RM X.K X.mg W3 H3 m3 ∧ postS X.K X.mg W3 H3 (forLoop g b (xs.drop (i + 1)) ρ3 m3) Dn EX, ?_, ?_⟩
    · rintro σ3 H3 ⟨W3, ρ3, m3, l3, r3, q3, p3⟩
      exact ⟨xs.length - (i + 1), by omega, W3, ρ3, m3, l3, r3, q3, hlt, rfl, p3⟩
    · intro v H3 hy
      have hd : xs[i]? = some xs[i] := List.getElem?_eq_getElem hlt
      obtain ⟨W3, e3, rm3, rl⟩ := hJ.yld i W2 H' m2 v H3 _ le2 rm2 hd hy
      rw [List.drop_eq_getElem_cons hlt] at h2
      have h3 : post X.K X.mg W3 H3 (g xs[i] ρ2 m2) _ (fun c H' => ∀ σ, EX σ c H') := post_toA (postS_shift h2 e3)
      refine ⟨W3, ρ2, m2, xs[i], rs2.mono e3.le, rm3, rl, post_mono h3 fun ρ4 W4 H4 m4 e4 rm4 h4 σ4 rs4 => ⟨W4, ρ4, m4, rs4, rm4, ?_⟩⟩
      have l4 : Le W1 W4 := le2.trans (e3.le.trans e4.le)
      revert h4
      cases b ρ4 m4 with
      | nx ρ5 m5 => exact fun h4 W5 H5 σ5 e5 rm5 rs5 => ⟨W5, ρ5, m5, l4.trans e5.le, rs5, rm5, postS_shift h4 e5⟩
      | ct ρ5 m5 => exact fun h4 W5 H5 σ5 e5 rm5 rs5 => ⟨W5, ρ5, m5, l4.trans e5.le, rs5, rm5, postS_shift h4 e5⟩
      | bk ρ5 m5 => exact fun h4 => h4
      | rt x m5 => exact fun h4 => h4
      | exn c m5 => exact fun h4 => h4
      | bad => exact fun h4 => h4
  · have hend : i = xs.length := by omega
    subst hend
    rw [List.drop_length] at h2
    exact .inl ⟨hJ.stop W2 H' m2 le2 rm2, h2 W2 H' σ' Ex.refl rm2 rs2⟩
end
end Vi
namespace Vi
open PySem PySem.Spec PyProof.Rows L2
section
variable {X : Cx} {EX : EXT} {pos : Pos} {tg e : Expr} {es : List Expr} {g : SG} {gs : SGs} {own : List Nat}
end
end Vi
namespace Vi
open PySem PySem.Spec PyProof.Rows L2
abbrev Fn := List D → M → R D
def exOf (mg : Str → Option Value) (E : XK) : Str → Hp → Prop := fun c H' => ∀ a, mg c = some (.ref a) → E (.ref a) none H'
def spOf (K : PySem.W.Frag) (mg : Str → Option Value) (n : Nat) (F : Fn) : Sp := fun vs H Q E => vs.length = n ∧ ∃ W m ds, RM K mg W H m ∧ RDs K W vs ds ∧
  post K mg W H (F ds m) (fun x W' H' _ => ∀ v, RD K W' v x → Q v H') (exOf mg E)
def FnG (P : Program) (w : World) (K : PySem.W.Frag) (mg : Str → Option Value) (base : Heap) (k : Nat) (f : Addr) (fd : FuncData) (ps : List Str) (F : Fn) : Prop :=
  ∀ (A : Around) (outer : List Env) (s : Shared) (H : Hp) (args : Args) (us : List Value) (vs : List V) (Q : VK) (E : XK), Room k A → A.guards = some [] → Env0 P w K mg base A outer s H →
    BindsTo s fd args (ps.zip us) → Vals vs us → spOf K mg ps.length F vs H Q E → codeAny (model P w) A (.call (.ref f) args) (CR (L2.CX P w) outer P w H s Q E) s
def runDef (n : Nat) (d : SS) : Fn := fun ds m => match d (ds.map some ++ List.replicate (n - ds.length) none) m with
  | .rt x m => .ok x m
  | .nx _ m => .ok .non m
  | .exn c m => .exn c m
  | _ => .bad
def PassX (X : Cx) (EX : EXT) : Prop := ∃ E : L2.St → XK, (∀ σ, PassesAt (L2.CX X.prog X.w) X σ (E σ)) ∧ ∀ σ c H', EX σ c H' → exOf X.mg (E σ) c H'
def TakeX (X : Cx) (EX : EXT) : Prop := ∃ E : L2.St → XK, Takes X (fun cls d σ H => E σ cls d H) ∧ ∀ σ c H', EX σ c H' → exOf X.mg (E σ) c H'
theorem TakeX.pass {X : Cx} {EX : EXT} (t : TakeX X EX) : PassX X EX := let ⟨E, tk, h⟩ := t; ⟨E, fun σ => passAt tk σ, h⟩
structure BodyCx (X : Cx) (k : Nat) (EX : EXT) : Prop where
  room : Room k X.A
  gd : X.A.guards = some []
  own : PassesOwn (model X.prog X.w) X.A X.env X.xe
  take : TakeX X EX
theorem BodyCx.pass {X : Cx} {k : Nat} {EX : EXT} (B : BodyCx X k EX) : PassX X EX := B.take.pass
section
variable {P : Program} {w : World} {K : PySem.W.Frag} {mg : Str → Option Value} {base : Heap}
theorem start_rs {W : Wd} {vs : List V} {ds : List D} (r : RDs K W vs ds) (N : List Str) : RS K W (L2.start N vs) (ds.map some ++ List.replicate (N.length - ds.length) none) := by
  refine ⟨by simp [L2.start, r.length], fun i x h => ?_⟩
  rcases Nat.lt_or_ge i ds.length with q | q
  · rw [List.getElem?_append_left (by simpa using q), List.getElem?_map, Option.map_eq_some_iff] at h
    obtain ⟨d, hd, e⟩ := h
    cases e
    obtain ⟨v, hv, rv⟩ := r.get hd
    refine ⟨v, ?_, rv⟩
    unfold L2.start
    rw [List.getElem?_append_left (by rw [List.length_map, r.length]; exact q), List.getElem?_map, hv]
    rfl
  · rw [List.getElem?_append_right (by simpa using q), List.getElem?_replicate] at h
    split at h <;> cases h
theorem fn_ok {x qual : Str} {st : Stmt} {f : Addr} {fd : FuncData} {N ps : List Str} {k : Nat} {d : SS} (F : Fun K x qual st f fd) (S : FnScope N ps (defScope st))
    (hb : ∀ (cdv : Value) (A : Around) (outer : List Env) (s : Shared) (H : Hp) (E : XK), BodyCx (cxOf (L2.CX P w) P w K mg base N qual (defScope st) f cdv A outer s H E) k (fun _ => exOf mg E) →
      DSs (cxOf (L2.CX P w) P w K mg base N qual (defScope st) f cdv A outer s H E) (fun _ => exOf mg E) (defBody st) d) : FnG P w K mg base (k + 1) f fd ps (runDef N.length d) := by
  obtain ⟨oc, od, kV, doc, pm, an, cdv, ct, osl, rfl, lk, hcd⟩ := F.ex
  intro A outer s H args us vs Q E hr hg e0 bind rel ⟨hl, W, m, ds, rm, rds, hp⟩
  have stand : ∀ b o, base.get? b = some o → s.heap.get? b = some o := fun b o e => (e0.bs b o e).1
  have KX := e0.mod.kin.keeps stand
  have lim := e0.mod.nolimit.keeps stand
  refine codeAny_call_function hr.depth (KX _ _ lk) rfl S.co S.gen rfl (PySem.W.codeRec_of KX hcd) (bind _ _ _ _ (wpAny_newFunctionEnv_cells S.kind ?_ ?_))
  · rintro ⟨n, v⟩ hy
    have hn := (List.of_mem_zip hy).1
    exact (S.par n hn).imp id fun q => ⟨q, PySem.W.cellsFrom_some _ _ _ (.inl q)⟩
  · intro env he s1 x1
    subst he
    refine ⟨lim.keeps x1.toInCall.keep, codeAny_func ?_⟩
    have B : BodyCx (cxOf (L2.CX P w) P w K mg base N qual (defScope st) f cdv A outer s H E) k (fun _ => exOf mg E) := ⟨hr.deeper _, hg, passes_of rfl, fun _ => E, takes_of rfl rfl rfl rfl, fun _ _ _ h => h⟩
    have I := inv_start (CX := L2.CX P w) (P := P) (w := w) (mg := mg) (base := base) (f := f) (qual := qual) (E := E) S hr.hd e0 hl rel x1
    have done : tS K mg (fun _ => exOf mg E) d { nx := fun _ H' => Q .non H', rt := Q } (L2.start N vs) H := by
      refine ⟨W, _, m, start_rs rds N, rm, ?_⟩
      revert hp
      unfold runDef
      cases d (ds.map some ++ List.replicate (N.length - ds.length) none) m with
      | nx ρ m1 => exact fun hp W1 H1 σ e1 rm1 rs1 => hp W1 H1 e1 rm1 _ .non
      | rt y m1 => exact fun hp W1 H1 v e1 rm1 rv => hp W1 H1 e1 rm1 v rv
      | exn c m1 => exact fun hp W1 H1 _ e1 rm1 => hp W1 H1 e1 rm1
      | bk ρ m1 => exact fun hp => hp.elim
      | ct ρ m1 => exact fun hp => hp.elim
      | bad => exact fun hp => hp.elim
    refine wpAny_mono ((hb cdv A outer s H E B).run [] s1 _ H _ I done) (fun fl s2 hs => ?_) fun _ _ h => h
    cases fl with
    | next => obtain ⟨σ1, H1, J, q⟩ := hs; exact ⟨.non, H1, J.os, J.bare, J.base, J.hok, rfl, q⟩
    | ret u => obtain ⟨v, σ1, H1, J, rv, q⟩ := hs; exact ⟨v, H1, J.os, J.bare, J.base, J.hok, rv, q⟩
    | brk => obtain ⟨_, _, _, q⟩ := hs; exact q.elim
    | cont => obtain ⟨_, _, _, q⟩ := hs; exact q.elim
end
def sCall (F : Fn) (ds : SA) : SE := fun ρ m => (ds ρ m).bind F
section
variable {X : Cx} {EX : EXT} {k : Nat} {f : Addr} {fd : FuncData} {ps : List Str} {F : Fn} {x : Str} {p pos : Pos} {e : Expr} {es : List Expr} {ds : SA}
theorem run_G {E : XK} {pins : List (Addr × Obj)} {σ : L2.St} {H : Hp} {s : Shared} {Q : VK} {us : List Value} {vs : List V} (G : FnG X.prog X.w X.K X.mg X.base k f fd ps F) (hr : Room k X.A) (hg : X.A.guards = some []) (hb : Binds X.K fd ps []) (hx : PassesAt (L2.CX X.prog X.w) X σ E)
    (I : Inv X pins σ H s) (r : Vals vs us) (h : spOf X.K X.mg ps.length F vs H Q E) : wpAny (model X.prog X.w) X.A (call (.ref f) us) (EP X pins σ Q) X.xe s := by
  have hl : us.length = ps.length := by rw [← r.length]; exact h.1
  have hb' := hb s us I.kIn (by rw [List.append_nil]; exact hl)
  rw [List.append_nil] at hb'
  refine wpAny_call (codeAny_mono (G X.A X.stack s H ⟨us, []⟩ us vs Q E hr hg I.env0 hb' r h) fun z s1 hz => ?_)
  rcases z with e | fl
  · exact hx pins H s e s1 I hz
  · cases fl with
    | ret u => exact I.after hz
    | next => exact hz.elim
    | brk => exact hz.elim
    | cont => exact hz.elim
theorem call_imp {E : L2.St → XK} {n : Nat} (hx : ∀ σ c H', EX σ c H' → exOf X.mg (E σ) c H') (hn : ∀ ρ m xs m', ds ρ m = .ok xs m' → xs.length = n) {σ : L2.St} {H : Hp} {Q : VK} (h : tE X.K X.mg EX (sCall F ds) σ H Q) :
    tAs X.K X.mg EX ds σ H fun vs H1 => spOf X.K X.mg n F vs H1 Q (E σ) := by
  obtain ⟨W, ρ, m, rs, rm, h⟩ := h
  have h' := post_bind h
  refine ⟨W, ρ, m, rs, rm, ?_⟩
  revert h'
  cases q : ds ρ m with
  | ok xs m1 =>
    intro h' W1 H1 e1 rm1 vs rvs
    refine ⟨rvs.length.trans (hn _ _ _ _ q), W1, m1, xs, rm1, rvs, ?_⟩
    have h2 : post X.K X.mg W1 H1 (F xs m1) _ (EX σ) := h' W1 H1 e1 rm1
    revert h2
    cases F xs m1 with
    | ok y m2 => exact fun h2 => h2
    | exn c m2 => exact fun h2 W2 H2 e2 rm2 => hx σ c H2 (h2 W2 H2 e2 rm2)
    | bad => exact fun h2 => h2
  | exn c m1 => exact fun h' => h'
  | bad => exact fun h' => h'
theorem len_cons {d : SE} {n : Nat} (h : ∀ ρ m xs m', ds ρ m = .ok xs m' → xs.length = n) : ∀ ρ m xs m', sCons d ds ρ m = .ok xs m' → xs.length = n + 1 := by
  intro ρ m xs m' e
  unfold sCons at e
  cases q : d ρ m with
  | ok x m1 =>
    rw [q, bind_ok] at e
    cases q2 : ds ρ m1 with
    | ok ys m2 =>
      rw [q2, bind_ok] at e
      cases e
      simp [h _ _ _ _ q2]
    | exn c m2 => rw [q2] at e; cases e
    | bad => rw [q2] at e; cases e
  | exn c m1 => rw [q] at e; cases e
  | bad => rw [q] at e; cases e
theorem len_nil : ∀ (ρ : En) (m : M) (xs : List D) (m' : M), sNil ρ m = .ok xs m' → xs.length = 0 := by
  intro ρ m xs m' e
  cases e; rfl
theorem de_call (G : FnG X.prog X.w X.K X.mg X.base k f fd ps F) (hr : Room k X.A) (hgd : X.A.guards = some []) (px : PassX X EX) (hm : X.mg x = some (.ref f)) (hk : PySem.W.keepIn X.K (.ref f) = true) (hb : Binds X.K fd ps [])
    (ha : DA X EX (e :: es) ds) (hn : ∀ ρ m xs m', ds ρ m = .ok xs m' → xs.length = ps.length) (hg : Gl X x := by rfl) (hdb : (x == ("__debug__" : Str)) = false := by decide)
    (he : starEach (e :: es) X.env = (false, eval e X.env) :: starEach es X.env := by rfl) (hpl : (backTo pos (starEach es X.env)).any (·.1) = false := by rfl) : DE X EX (.Call (.Name x p) (e :: es) [] pos) (sCall F ds) := by
  obtain ⟨E, pE, hE⟩ := px
  refine ⟨fun pins s σ H Q I h => wpAny_Call_Name_kw (ld_glob I hg hm ?_ hdb)⟩
  have q := ha.run pos pins s σ H _ I (call_imp hE hn h)
  refine PySem.W.callWith_K (h₀ := X.base) I.ok.mod.kin hk (thn q ?_) he hpl
  rintro us s1 ⟨vs, H1, I1, r, q⟩
  exact ⟨I1.kIn, run_G G hr hgd hb (pE σ) I1 r q⟩
theorem de_call0 (G : FnG X.prog X.w X.K X.mg X.base k f fd [] F) (hr : Room k X.A) (hgd : X.A.guards = some []) (px : PassX X EX) (hm : X.mg x = some (.ref f)) (hk : PySem.W.keepIn X.K (.ref f) = true) (hb : Binds X.K fd [] [])
    (hg : Gl X x := by rfl) (hdb : (x == ("__debug__" : Str)) = false := by decide) : DE X EX (.Call (.Name x p) [] [] pos) (sCall F sNil) := by
  obtain ⟨E, pE, hE⟩ := px
  refine ⟨fun pins s σ H Q I h => wpAny_Call_Name_kw (ld_glob I hg hm ?_ hdb)⟩
  obtain ⟨W, ρ, m, rs, rm, h⟩ := call_imp (n := 0) hE len_nil h
  have h2 := h W H Ex.refl rm [] .nil
  exact PySem.W.callWith_K0 I.kIn hk (run_G (us := []) G hr hgd hb (pE σ) I .nil h2)
end
end Vi
namespace Vi
open PySem PySem.Spec PyProof.Rows L2
structure OneH (H : Hp) (h : Heap) (a : Addr) : Prop where
  at_ : ∀ b u, H b = some u → b = a ∧ ∃ o xs, u = .frz o (.lst xs) ∧ h.get? b = some o ∧ (o.data matches .seq _ _) = true
section
variable {P : Program} {w : World} {K : PySem.W.Frag} {mg mb : Str → Option Value} {k : Nat} {fa a : Addr} {fd : FuncData} {x : Str} {F : Fn} {s₁ : Shared} {vs : List Value} {ns : List Int}
theorem one_base {H : Hp} {h : Heap} (one : OneH H h a) {b : Addr} {m : Str → Option Value} (n : h.Ns b m) : (hidT h H).Ns b m := by
  obtain ⟨o, es, ep, e, d, r⟩ := n
  refine ⟨o, es, ep, hidT_get e ?_, d, r⟩
  cases q : H b with
  | none => rfl
  | some u =>
    obtain ⟨_, o2, xs, _, e2, hd⟩ := one.at_ b u q
    rw [e] at e2; cases e2
    rw [d] at hd; cases hd
theorem ints_rel {K : PySem.W.Frag} {W : Wd} : ∀ ns : List Int, RDs K W (ns.map V.int) (ns.map D.int)
  | [] => .nil
  | n :: ns => .cons (.int n) (ints_rel ns)
theorem law_core {H : Hp} (one : OneH H s₁.heap a) (hS : SqL K H a (ns.map V.int)) (hok : HOk P w H s₁.heap) (hKa : H a ≠ none → K.lookup a = none)
    (KX : K.In s₁.heap) (hns : s₁.heap.Ns mainGlobals mg) (hb : s₁.heap.Ns builtinsNs mb) (hbb : ∀ x : Str, x ≠ "__name__" → mb x = bootBuiltins x) (hlim : s₁.heap.NoLimit) (hg : s₁.gens = #[]) (hr : Room k callerA)
    (G : ∀ base : Heap, K.In base → base.Ns mainGlobals mg → FnG P w K mg base k fa fd [x] F) (hbind : ∀ (s : Shared) (u : Value), BindsTo s fd ⟨[u], []⟩ [(x, u)])
    (law : ∃ m, F [.frz (ns.map D.int)] [] = .ok (.bl true) m) :
    codeAny (model P w) callerA (.call (.ref fa) ⟨[.ref a], []⟩) (fun r s' => r = .ok (.ret (.bool true)) ∧ OldK s₁.heap s'.heap ∧ s'.os = s₁.os ∧ AllBare s'.gens) s₁ := by
  have kb : K.In (hidT s₁.heap H) := fun b o e => hidT_get (KX b o e) (by
    cases q : H b with
    | none => rfl
    | some u =>
      obtain ⟨eb, _⟩ := one.at_ b u q
      subst eb
      rw [hKa (by rw [q]; simp)] at e; cases e)
  have hM : Mod K mg (hidT s₁.heap H) := by
    refine ⟨kb, one_base one hns, ⟨mb, one_base one hb, hbb⟩, ?_⟩
    obtain ⟨mc, h1, h2⟩ := hlim
    exact ⟨mc, one_base one h1, h2⟩
  have e0 : Env0 P w K mg (hidT s₁.heap H) callerA [] s₁ H :=
    ⟨rfl, hM, fun _ _ e => of_hidT e, Nat.le_of_eq (hidT_size _ _), trivial, fun b hb => (by cases hb), hok, .of_eq hg⟩
  have sp : spOf K mg 1 F [.ref a] H (fun v _ => v = .bl true) (fun _ _ _ => False) := by
    obtain ⟨m, hm⟩ := law
    refine ⟨rfl, ⟨H, []⟩, [], [.frz (ns.map D.int)], ⟨Same.refl _, rfl, List.nodup_nil, fun _ h => (by cases h), fun _ _ _ h => (by simp at h), fun _ _ _ h => (by simp at h)⟩, .cons (.frz hS (ints_rel ns)) .nil, ?_⟩
    rw [hm]
    intro W' H' e rm v rv
    cases rv
    rfl
  refine codeAny_mono (G _ kb (one_base one hns) callerA [] s₁ H ⟨[.ref a], []⟩ [.ref a] [.ref a] _ _ hr rfl e0 (hbind s₁ (.ref a)) (.cons rfl .nil) sp) fun z s2 hz => ?_
  rcases z with e | fl
  · obtain ⟨_, _, _, _, _, _, _, _, _, _, _, _, bad⟩ := hz
    exact bad.elim
  · cases fl with
    | next => exact hz.elim
    | brk => exact hz.elim
    | cont => exact hz.elim
    | ret u =>
      obtain ⟨v, H2, os, bare, un, hok2, rv, q⟩ := hz
      cases q
      cases rv
      refine ⟨rfl, OldK.of_keep fun b o e => ?_, os, bare⟩
      cases q : H b with
      | none => exact un.keep b o e q (fun z => by cases z) (fun z => by cases z)
      | some u =>
        obtain ⟨_, o2, xs, rfl, e2, _⟩ := one.at_ b u q
        rw [e] at e2; cases e2
        exact (hok2 b _ (un.frzs b o _ q)).1
theorem law_G (KX : K.In s₁.heap) (hns : s₁.heap.Ns mainGlobals mg) (hb : s₁.heap.Ns builtinsNs mb) (hbb : ∀ x : Str, x ≠ "__name__" → mb x = bootBuiltins x) (hlim : s₁.heap.NoLimit) (hg : s₁.gens = #[])
    (ha : s₁.heap.get? a = some { cls := .type "list", data := .seq vs.toArray }) (hi : IntsAre vs ns) (hl : ns.length ≤ sizeLine) (hr : Room k callerA)
    (G : ∀ base : Heap, K.In base → base.Ns mainGlobals mg → FnG P w K mg base k fa fd [x] F) (hbind : ∀ (s : Shared) (u : Value), BindsTo s fd ⟨[u], []⟩ [(x, u)])
    (law : ∃ m, F [.frz (ns.map D.int)] [] = .ok (.bl true) m) :
    codeAny (model P w) callerA (.call (.ref fa) ⟨[.ref a], []⟩) (fun r s' => r = .ok (.ret (.bool true)) ∧ OldK s₁.heap s'.heap ∧ s'.os = s₁.os ∧ AllBare s'.gens) s₁ := by
  have rv := vals_ints hi
  have lv := hi.length
  cases hk : K.lookup a with
  | none =>
    refine law_core (H := fun b => if b = a then some (.frz { cls := .type "list", data := .seq vs.toArray } (.lst (ns.map V.int))) else none) ⟨fun b u q => ?_⟩ (.inl (.inr ⟨_, if_pos rfl⟩)) (fun b u q => ?_) (fun _ => hk) KX hns hb hbb hlim hg hr G hbind law
    · split at q
      · rename_i hba
        cases q; subst hba
        exact ⟨rfl, _, _, rfl, ha, rfl⟩
      · cases q
    · dsimp only at q
      split at q
      · rename_i hba
        cases q; subst hba
        exact ⟨ha, by rw [List.length_map]; exact hl, vs, _, rv, ha⟩
      · cases q
  | some o =>
    have e := KX a o hk
    rw [ha] at e
    cases e
    refine law_core (H := fun _ => none) ⟨fun b u q => by cases q⟩ (.inr ⟨_, vs.toArray, _, hk, rfl, rfl, rfl, by rw [List.size_toArray, lv]; exact hl, rv⟩) (fun b u q => by cases q) (fun z => absurd rfl z) KX hns hb hbb hlim hg hr G hbind law
theorem walk_G {l : PySem.W.OpenLaw} {n k : Nat} {q : Program} {loose : List Str} {XP : (Str → Option Value) → Heap → Prop} {YP : World → Heap → Prop} {d : DefRec} {K : Params → PySem.W.Frag} {x : Str} {F : Fn}
    (hn : l.most = some n) (hn2 : n ≤ sizeLine) (hdf : d.params.defaults = []) (hr : Room k callerA) (hY : ∀ (w : World) (h : Heap), YP w h → (K w.params).In h)
    (G : ∀ (w : World) (mg : Str → Option Value) (fa : Addr) (h : Heap), (K w.params).In h → h.Ns mainGlobals mg → mg d.name = some (.ref fa) →
      ∃ fd : FuncData, (∀ (s : Shared) (u : Value), BindsTo s fd ⟨[u], []⟩ [(x, u)]) ∧ ∀ base : Heap, (K w.params).In base → base.Ns mainGlobals mg → FnG l.prog w (K w.params) mg base k fa fd [x] F)
    (law : ∀ ns : List Int, ns.length ≤ n → ∃ m, F [.frz (ns.map D.int)] [] = .ok (.bl true) m) :
    PySem.W.WalkO q loose XP YP l.row.toRowW d [] (fun f vs => PySem.call f vs) := by
  refine Att.attach_call hn hdf ?_
  intro w s0 s1 mg mb fa o pm cd doc a vs ns Gr Y ho hd hcd hmg hobj hints hlen hg
  obtain ⟨fd, hb, hF⟩ := G w mg fa _ (hY w _ Y) Gr.T.g hmg
  exact law_G (hY w _ Y) Gr.T.g Gr.T.b Gr.T.builtins Gr.T.nolimit hg hobj hints (Nat.le_trans hlen hn2) hr hF hb (law ns hlen)
end
end Vi
namespace Vi
open PySem PySem.Spec PyProof.Rows L2
section
variable {fa : List He.Fa} {fn : List He.DefD} {ts : List He.Tab} {bs : List (PySem.W.Frag → Bool)} {w : World} {K : PySem.W.Frag}
theorem SaysH.t (c : SaysH fa fn ts bs w K) : He.SaysT fa fn ts w K := congrArg (fun z : AlH => z.1) c
theorem SaysH.b (c : SaysH fa fn ts bs w K) (i : Nat) {p : Prop} [Decidable p] {b : PySem.W.Frag → Bool} (h : bs[i]? = some b) (e : b K = decide p) : p := by
  have c1 : bs.all (fun b => b K) = true := congrArg (fun z : AlH => z.2) c
  exact of_decide_eq_true (e ▸ List.all_eq_true.mp c1 b (List.mem_of_getElem? h))
theorem SaysH.f (c : SaysH fa fn ts bs w K) (i : Nat) {p : Str × Option Str} {x q : Str} {st : Stmt} (h : fn[i]? = some (dOf p x q st)) :
    ∃ oc od sl kV dc pm an cd ct, K.lookup (He.fAd K p) = some ⟨oc, od, .func (PySem.W.fnOf x q (defArgs st) (defBody st) (defScope st) .none kV dc pm an cd ct), sl⟩ ∧ PySem.W.codeIn K cd q = true ∧ PySem.W.keepIn K (.ref (He.fAd K p)) = true := by
  obtain ⟨fd, ⟨oc, od, dV, kV, dc, pm, an, cd, ct, sl, rfl, lk, hcd, hd, _⟩, kp⟩ := c.t.d.def_ i h
  rcases hd with ⟨_, e⟩ | ⟨e, _⟩
  · subst e
    exact ⟨oc, od, sl, kV, dc, pm, an, cd, ct, lk, hcd, kp⟩
  · exact absurd rfl e
theorem SaysH.i (c : SaysH fa fn ts bs w K) (i : Nat) {x : Str} {n : Int} (h : fa[i]? = some (.int x n)) : ∃ t, PySem.W.nsIn K mainGlobals x = some (some (.int n t)) := by
  have c1 := c.t.d.fact i h
  unfold He.Fa.ok at c1
  cases e : PySem.W.nsIn K mainGlobals x with
  | none => simp [e] at c1
  | some o =>
    cases o with
    | none => simp [e] at c1
    | some v =>
      cases v with
      | int j t => simp [e] at c1; subst c1; exact ⟨t, rfl⟩
      | _ => simp [e] at c1
theorem SaysH.s (c : SaysH fa fn ts bs w K) (i : Nat) {x z : Str} (h : fa[i]? = some (.str x z)) : ∃ t, PySem.W.nsIn K mainGlobals x = some (some (.str z t)) := by
  have c1 := c.t.d.fact i h
  unfold He.Fa.ok at c1
  cases e : PySem.W.nsIn K mainGlobals x with
  | none => simp [e] at c1
  | some o =>
    cases o with
    | none => simp [e] at c1
    | some v =>
      cases v with
      | str j t => simp [e] at c1; subst c1; exact ⟨t, rfl⟩
      | _ => simp [e] at c1
end
theorem walk_GH {l : PySem.W.OpenLaw} {n k : Nat} {q : Program} {loose : List Str} {XP : (Str → Option Value) → Heap → Prop} {YP : World → Heap → Prop} {d : DefRec} {x : Str} {F : Fn}
    (hn : l.most = some n) (hn2 : n ≤ sizeLine) (hdf : d.params.defaults = []) (hr : Room k callerA)
    (G : ∀ (w : World) (mg : Str → Option Value) (fa : Addr) (h : Heap), YP w h → h.Ns mainGlobals mg → mg d.name = some (.ref fa) →
      ∃ K : PySem.W.Frag, K.In h ∧ ∃ fd : FuncData, (∀ (s : Shared) (u : Value), BindsTo s fd ⟨[u], []⟩ [(x, u)]) ∧ ∀ base : Heap, K.In base → base.Ns mainGlobals mg → FnG l.prog w K mg base k fa fd [x] F)
    (law : ∀ ns : List Int, ns.length ≤ n → ∃ m, F [.frz (ns.map D.int)] [] = .ok (.bl true) m) :
    PySem.W.WalkO q loose XP YP l.row.toRowW d [] (fun f vs => PySem.call f vs) := by
  refine Att.attach_call hn hdf ?_
  intro w s0 s1 mg mb fa o pm cd doc a vs ns Gr Y ho hd hcd hmg hobj hints hlen hg
  obtain ⟨K, KX, fd, hb, hF⟩ := G w mg fa _ Y Gr.T.g hmg
  exact law_G KX Gr.T.g Gr.T.b Gr.T.builtins Gr.T.nolimit hg hobj hints (Nat.le_trans hlen hn2) hr hF hb (law ns hlen)
end Vi
namespace Vi
open PySem PySem.Spec PyProof.Rows L2
def CallD (X : Cx) (fv : Value) (g : List D → M → R D) : Prop :=
  ∃ r, CallR X fv r ∧ ∀ (EX : Str → Hp → Prop) (W : Wd) (H : Hp) (m : M) (vs : List V) (xs : List D) (Q : VK), RM X.K X.mg W H m → RDs X.K W vs xs →
    post X.K X.mg W H (g xs m) (fun z W' H' _ => ∀ v, RD X.K W' v z → Q v H') EX → r vs H Q
def CallL (X : Cx) (fv : Value) (g : List D → M → R (List D)) : Prop :=
  ∃ r, CallR X fv r ∧ ∀ (EX : Str → Hp → Prop) (W0 W : Wd) (H0 H : Hp) (m : M) (vs : List V) (xs : List D) (Q : VK), Ex W0 H0 W H → RM X.K X.mg W H m → RDs X.K W vs xs →
    post X.K X.mg W H (g xs m) (fun zs W' H' _ => ∀ p us, H0 p = none → p ∉ W'.φ → W'.I p = none → H' p = some (.lst us) → RDs X.K W' us zs → Q (.ref p) H') EX → r vs H Q
def sCallL (g : List D → M → R (List D)) (ds : SA) : SA := fun ρ m => (ds ρ m).bind g
section
variable {X : Cx} {EX : EXT} {x : Str} {p pos : Pos} {e : Expr} {es : List Expr} {ds : SA} {id T : String} {g : List D → M → R D} {gl : List D → M → R (List D)}
theorem de_callB (hc : CallD X (.builtin id) g) (hm : X.mg x = none) (ha : DA X EX (e :: es) ds) (hg : Gl X x := by rfl) (hv : bootBuiltins x = some (.builtin id) := by decide +kernel) (hn : x ≠ "__name__" := by decide) (hdb : (x == ("__debug__" : Str)) = false := by decide)
    (he : starEach (e :: es) X.env = (false, eval e X.env) :: starEach es X.env := by rfl) (hpl : (backTo pos (starEach es X.env)).any (·.1) = false := by rfl) : DE X EX (.Call (.Name x p) (e :: es) [] pos) (sCall g ds) := by
  obtain ⟨r, hr, lift⟩ := hc
  exact PE.imp (pe_callB hr hg hm hv ha hn hdb he hpl) fun σ H Q ⟨W, ρ, m, rs, rm, h⟩ => ⟨W, ρ, m, rs, rm, post_mono (post_bind h) fun xs W1 H1 m1 e1 rm1 h1 vs rvs => lift _ W1 H1 m1 vs xs Q rm1 rvs h1⟩
theorem de_callT (hc : CallD X (.type T) g) (hm : X.mg x = none) (ha : DA X EX (e :: es) ds) (hg : Gl X x := by rfl) (hv : bootBuiltins x = some (.type T) := by decide +kernel) (hn : x ≠ "__name__" := by decide) (hdb : (x == ("__debug__" : Str)) = false := by decide)
    (he : starEach (e :: es) X.env = (false, eval e X.env) :: starEach es X.env := by rfl) (hpl : (backTo pos (starEach es X.env)).any (·.1) = false := by rfl) : DE X EX (.Call (.Name x p) (e :: es) [] pos) (sCall g ds) := by
  obtain ⟨r, hr, lift⟩ := hc
  exact PE.imp (pe_callTy hr hg hm hv ha hn hdb he hpl) fun σ H Q ⟨W, ρ, m, rs, rm, h⟩ => ⟨W, ρ, m, rs, rm, post_mono (post_bind h) fun xs W1 H1 m1 e1 rm1 h1 vs rvs => lift _ W1 H1 m1 vs xs Q rm1 rvs h1⟩
theorem dl_callB (hc : CallL X (.builtin id) gl) (hm : X.mg x = none) (ha : DA X EX (e :: es) ds) (hg : Gl X x := by rfl) (hv : bootBuiltins x = some (.builtin id) := by decide +kernel) (hn : x ≠ "__name__" := by decide) (hdb : (x == ("__debug__" : Str)) = false := by decide)
    (he : starEach (e :: es) X.env = (false, eval e X.env) :: starEach es X.env := by rfl) (hpl : (backTo pos (starEach es X.env)).any (·.1) = false := by rfl) : DL X EX (.Call (.Name x p) (e :: es) [] pos) (sCallL gl ds) := by
  obtain ⟨r, hr, lift⟩ := hc
  exact PE.imp (pe_callB hr hg hm hv ha hn hdb he hpl) fun σ H Q ⟨W, ρ, m, rs, rm, h⟩ => ⟨W, ρ, m, rs, rm, post_mono (post_bind h) fun xs W1 H1 m1 e1 rm1 h1 vs rvs => lift _ W W1 H H1 m1 vs xs Q e1 rm1 rvs h1⟩
theorem dl_callT (hc : CallL X (.type T) gl) (hm : X.mg x = none) (ha : DA X EX (e :: es) ds) (hg : Gl X x := by rfl) (hv : bootBuiltins x = some (.type T) := by decide +kernel) (hn : x ≠ "__name__" := by decide) (hdb : (x == ("__debug__" : Str)) = false := by decide)
    (he : starEach (e :: es) X.env = (false, eval e X.env) :: starEach es X.env := by rfl) (hpl : (backTo pos (starEach es X.env)).any (·.1) = false := by rfl) : DL X EX (.Call (.Name x p) (e :: es) [] pos) (sCallL gl ds) := by
  obtain ⟨r, hr, lift⟩ := hc
  exact PE.imp (pe_callTy hr hg hm hv ha hn hdb he hpl) fun σ H Q ⟨W, ρ, m, rs, rm, h⟩ => ⟨W, ρ, m, rs, rm, post_mono (post_bind h) fun xs W1 H1 m1 e1 rm1 h1 vs rvs => lift _ W W1 H H1 m1 vs xs Q e1 rm1 rvs h1⟩
end
def gRepr : List D → M → R D := fun xs m => match xs with
  | [x] => match toPyR x m with
    | some d => if (SeqAt.shaped d = true ∧ d.showable = true) ∧ d.shown.length ≤ big then .ok (.str d.shown) m else .bad
    | none => .bad
  | _ => .bad
theorem call_reprD {X : Cx} (hgd : X.A.guards = some []) (hu : X.A.units + 100 < cLine) : CallR X (.builtin "repr") (fun xs H Q => ∃ x d, xs = [x] ∧ Dp X.K H x d ∧ SeqAt.shaped d = true ∧ d.showable = true ∧ d.shown.length ≤ sizeLine ∧ Q (.str d.shown) H) := by
  intro pins s σ H xs us Q I r ⟨x, d, hx, dp, sh, sw, hz, q⟩
  subst hx
  obtain ⟨u, rfl, rx⟩ := vals1 r
  obtain ⟨as, rd⟩ := Dp.reads I d x u dp rx
  have hnd : d.hasDict = false := PyData.hasDict_of_canLay d (SeqAt.canLay_of_shaped sh)
  have fin : ∀ (h' : Heap) (t : Tok) (tk : Nat), (∀ b o, s.heap.get? b = some o → h'.get? b = some o) → EP X pins σ Q (.str d.shown t) { s with heap := h', toks := tk } := fun h' t tk hk => ⟨.str _, H, I.kept hk, ⟨_, rfl⟩, q⟩
  have key : ∀ a, u = .ref a → wpAny (model X.prog X.w) X.A (call (.builtin "repr") [u]) (EP X pins σ Q) X.xe s := by
    intro a ea
    subst ea
    have hd := SeqAt.depth_of_shaped sh
    exact repr_of_reads' rd sw (by rw [hnd]; intro z; cases z) hgd (by omega) (fun _ _ e => e) (fun h' t tk hk => fin h' t tk hk) hz
  cases dp with
  | non => cases rx; exact P.repr_of_none (fin s.heap _ _ fun _ _ e => e)
  | bl b => cases rx; exact P.repr_of_bool (by have := fin s.heap s.toks (s.toks + 1) fun _ _ e => e; simpa only [PyData.shown] using this)
  | int i => obtain ⟨t, rfl⟩ := rx; exact P.repr_of_int (by simpa [PyData.showable] using sw) (fin s.heap _ _ fun _ _ e => e)
  | str x => obtain ⟨t, rfl⟩ := rx; exact P.repr_of_str (fin s.heap _ _ fun _ _ e => e) hz
  | lst h1 h2 => cases rx; exact key _ rfl
  | tup h1 h2 => cases rx; exact key _ rfl
def gLen : List D → M → R D := fun xs m => match xs with
  | [.str z] => if z.length ≤ big then .ok (.int z.length) m else .bad
  | [x] => match asSeq x m with
    | some ys => .ok (.int ys.length) m
    | none => .bad
  | _ => .bad
theorem c_len {X : Cx} : CallD X (.builtin "len") gLen := ⟨_, call_len, fun EX W H m vs xs Q rm r hp => by
  unfold gLen at hp
  split at hp
  · rename_i z
    obtain ⟨v, rfl, rv⟩ := RDs.inv1 r
    cases rv
    split at hp
    · rename_i hz
      exact ⟨_, z.length, rfl, ⟨by rw [big_eq]; exact hz, rfl⟩, post_ok hp rm _ (.int _)⟩
    · exact hp.elim
  · rename_i x _
    obtain ⟨v, rfl, rv⟩ := RDs.inv1 r
    split at hp
    · rename_i ys hy
      obtain ⟨a, us, rfl, hs, r2⟩ := seq_of rm rv hy
      refine ⟨_, ys.length, rfl, ?_, post_ok hp rm _ (.int _)⟩
      rcases hs with hs | hs
      · exact .inl ⟨us, hs, r2.length.symm⟩
      · exact .inr ⟨us, hs, r2.length.symm⟩
    · exact hp.elim
  · exact hp.elim⟩
theorem call_tupleS {X : Cx} : CallR X (.type "tuple") (fun xs H Q => ∃ p ys, xs = [.ref p] ∧ ((SqL X.K H p ys ∧ ∀ l o, H l = none → o.dict = none → Q (.ref l) (upd H l (.frz o (.tup ys)))) ∨ (SqT X.K H p ys ∧ Q (.ref p) H))) := by
  intro pins s σ H xs us Q I r ⟨p, ys, hx, h⟩
  subst hx
  obtain ⟨u, rfl, rx⟩ := vals1 r
  cases rx
  rcases h with ⟨hq, q⟩ | ⟨hq, q⟩
  · obtain ⟨its, r', pl, hz⟩ := I.list hq
    refine call_tuple_list pl.isList (fun h' kp => ?_) (by rw [List.size_toArray, ← r'.length]; exact hz)
    have I1 : Inv X pins σ H { s with heap := h' } := I.kept (t' := s.toks) kp
    have J := I1.laid (o := .frz _ (.tup ys)) (t' := s.toks) (fun _ _ e => Heap.get?_push_of_some _ e) (Nat.le_refl _) ⟨Heap.get?_push_size _ rfl, hz, its, r', IsTup.new _ _⟩
    exact ⟨.ref _, _, J, rfl, q _ _ I1.fresh rfl⟩
  · obtain ⟨its, r', pl, hz⟩ := I.tuple hq
    exact call_tuple_same pl ⟨.ref p, H, I, rfl, q⟩
def gTuple : List D → M → R D := fun xs m => match xs with
  | [.tup ys] => .ok (.tup ys) m
  | [x] => match asList x m with
    | some ys => .ok (.tup ys) m
    | none => .bad
  | _ => .bad
theorem c_tuple {X : Cx} : CallD X (.type "tuple") gTuple := ⟨_, call_tupleS, fun EX W H m vs xs Q rm r hp => by
  unfold gTuple at hp
  split at hp
  · obtain ⟨v, rfl, rv⟩ := RDs.inv1 r
    cases rv with
    | tup hT hN r2 => exact ⟨_, _, rfl, .inr ⟨same_T rm.sub hT, post_ok hp rm _ (.tup hT hN r2)⟩⟩
  · obtain ⟨v, rfl, rv⟩ := RDs.inv1 r
    split at hp
    · rename_i ys hy
      obtain ⟨a, us, rfl, hs, r2⟩ := list_of rm rv hy
      refine ⟨a, us, rfl, .inl ⟨hs, fun l o hl ho => ?_⟩⟩
      obtain ⟨e4, rm4, r4⟩ := new_tup rm hl ho r2
      exact hp _ _ e4 rm4 _ r4
    · exact hp.elim
  · exact hp.elim⟩
def gList : List D → M → R (List D) := fun xs m => match xs with
  | [x] => match asSeq x m with
    | some ys => .ok ys m
    | none => .bad
  | _ => .bad
theorem c_list {X : Cx} : CallL X (.type "list") gList := ⟨_, call_list_of, fun EX W0 W H0 H m vs xs Q e0 rm r hp => by
  unfold gList at hp
  split at hp
  · obtain ⟨v, rfl, rv⟩ := RDs.inv1 r
    split at hp
    · rename_i ys hy
      obtain ⟨a, us, rfl, hs, r2⟩ := seq_of rm rv hy
      exact ⟨a, us, rfl, hs, fun l hl => fresh_post e0 rm hl r2 hp⟩
    · exact hp.elim
  · exact hp.elim⟩
def intsD : List D → Option (List Int)
  | [] => some []
  | .int i :: xs => (intsD xs).map (i :: ·)
  | _ :: _ => none
theorem CallR.or' {X : Cx} {f : Value} {r r' : List V → Hp → VK → Prop} (h : CallR X f r) (h' : CallR X f r') : CallR X f (fun xs H Q => r xs H Q ∨ r' xs H Q) :=
  fun pins s σ H xs us Q I rl q => q.elim (h pins s σ H xs us Q I rl) (h' pins s σ H xs us Q I rl)
def gAbs : List D → M → R D := fun xs m => match xs with
  | [.int i] => .ok (.int (if i < 0 then -i else i)) m
  | _ => .bad
theorem c_abs {X : Cx} : CallD X (.builtin "abs") gAbs := ⟨_, call_abs, fun EX W H m vs xs Q rm r hp => by
  unfold gAbs at hp
  split at hp
  · obtain ⟨v, rfl, rv⟩ := RDs.inv1 r
    cases rv
    exact ⟨_, rfl, post_ok hp rm _ (.int _)⟩
  · exact hp.elim⟩
def gMax2 : List D → M → R D := fun xs m => match xs with
  | [.int i, .int j] => .ok (.int (if j > i then j else i)) m
  | _ => .bad
def gMin2 : List D → M → R D := fun xs m => match xs with
  | [.int i, .int j] => .ok (.int (if j < i then j else i)) m
  | _ => .bad
theorem c_max2 {X : Cx} (hc : X.calm = true) : CallD X (.builtin "max") gMax2 := ⟨_, call_max2 hc, fun EX W H m vs xs Q rm r hp => by
  unfold gMax2 at hp
  split at hp
  · obtain ⟨v, u, rfl, rv, ru⟩ := RDs.inv2 r
    cases rv; cases ru
    exact ⟨_, _, rfl, post_ok hp rm _ (.int _)⟩
  · exact hp.elim⟩
theorem c_min2 {X : Cx} (hc : X.calm = true) : CallD X (.builtin "min") gMin2 := ⟨_, call_min2 hc, fun EX W H m vs xs Q rm r hp => by
  unfold gMin2 at hp
  split at hp
  · obtain ⟨v, u, rfl, rv, ru⟩ := RDs.inv2 r
    cases rv; cases ru
    exact ⟨_, _, rfl, post_ok hp rm _ (.int _)⟩
  · exact hp.elim⟩
def tyN : D → M → Option String
  | .non, _ => some "NoneType"
  | .bl _, _ => some "bool"
  | .int _, _ => some "int"
  | .str _, _ => some "str"
  | .tup _, _ => some "tuple"
  | .lst _, _ => some "list"
  | .frz _, _ => some "list"
  | .ref n, m => match m[n]? with
    | some (.lst _) => some "list"
    | some (.dic _) => some "dict"
    | _ => none
  | .exc _, _ => none
  | .emp, _ => some "dict"
  | .obj _ _ _, _ => none
theorem tyN_of {K : PySem.W.Frag} {mg : Str → Option Value} {W : Wd} {H : Hp} {m : M} {v : V} {x : D} {T : String} (rm : RM K mg W H m) (r : RD K W v x) (h : tyN x m = some T) : TyX K H v (.type T) := by
  have lists : ∀ {a : Addr} {vs : List V}, SqL K H a vs → TyX K H (.ref a) (.type "list") := fun {a vs} q => by
    rcases q with (q | ⟨o, q⟩) | ⟨o, its, n, q, c, _⟩
    · exact .base (.lst q)
    · exact .base (.frz q)
    · exact .kList q c
  cases r with
  | non => cases h; exact .base .non
  | bl b => cases h; exact .base (.bl b)
  | int i => cases h; exact .base (.int i)
  | str x => cases h; exact .base (.str x)
  | tup hT hN r =>
    cases h
    rcases same_T rm.sub hT with (q | ⟨o, q⟩) | ⟨o, its, n, q, c, _⟩
    · exact .base (.tup q)
    · exact .fTuple q
    · exact .kTuple q c
  | lst q r => cases h; exact .base (.lst (rm.sub _ _ q))
  | frz q r => cases h; exact lists (rm.sub.seq q)
  | exc _ _ => cases h
  | emp q => cases h; exact .base (.dK (rm.sub _ _ q))
  | obj _ _ _ _ => cases h
  | ref q =>
    dsimp only [tyN] at h
    split at h
    · rename_i xs hx
      cases h
      obtain ⟨o, ho, ⟨vs, rfl, r⟩, _⟩ := rm.get q hx (by simp)
      exact .base (.lst ho)
    · rename_i xs hx
      cases h
      obtain ⟨o, ho, ⟨vs, rfl, r⟩, _⟩ := rm.get q hx (by simp)
      exact .base (.dK ho)
    · cases h
def sIsi (T : String) (d : SE) : SE := fun ρ m => (d ρ m).bind fun x m => match tyN x m with
  | some n => match kitB n T with
    | some b => .ok (.bl b) m
    | none => .bad
  | none => .bad
theorem de_isi {X : Cx} {EX : EXT} {e : Expr} {d : SE} {T : String} {tx : Str} {p q pos : Pos} (he : DE X EX e d) (hm : X.mg "isinstance" = none) (hm2 : X.mg tx = none) (hg : Gl X "isinstance" := by rfl) (hg2 : Gl X tx := by rfl)
    (hv : bootBuiltins tx = some (.type T) := by decide +kernel) (hn2 : tx ≠ "__name__" := by decide) (hd2 : (tx == ("__debug__" : Str)) = false := by decide)
    (h1 : starEach [e, .Name tx q] X.env = (false, eval e X.env) :: starEach [.Name tx q] X.env := by rfl) (h2 : starEach [.Name tx q] X.env = (false, eval (.Name tx q) X.env) :: starEach [] X.env := by rfl) (hpl : (backTo pos (starEach [.Name tx q] X.env)).any (·.1) = false := by rfl) :
    DE X EX (.Call (.Name "isinstance" p) [e, .Name tx q] [] pos) (sIsi T d) := by
  have boot : bootBuiltins (Str.ofString "isinstance") = some (.builtin "isinstance") := by decide +kernel
  have he2 : PE X (.Name tx q) (tC (.ty T)) := pe_bltn hg2 hm2 hv (show L2.RelV (.ty T) (.type T) from rfl) hn2 hd2
  refine PE.imp (pe_callB call_isi hg hm boot (pa_cons he (pa_cons he2 pa_nil h2) h1) (by decide) (by decide) h1 hpl) fun σ H Q ⟨W, ρ, m, rs, rm, h⟩ => ⟨W, ρ, m, rs, rm, post_mono (post_bind h) fun x W1 H1 m1 e1 rm1 h1 v rv => ?_⟩
  split at h1
  · rename_i n hn
    split at h1
    · rename_i b hb
      exact ⟨v, .ty T, _, _, b, rfl, .ty T, tyN_of rm1 rv hn, kit_ty hb, post_ok h1 rm1 _ (.bl b)⟩
    · exact h1.elim
  · exact h1.elim
end Vi
namespace Vi
open PySem PySem.Spec PyProof.Rows L2
def zipD (xs ys : List D) : List D := (xs.zip ys).map fun (x, y) => .tup [x, y]
def enumD (xs : List D) : List D := zipD ((List.range xs.length).map fun (i : Nat) => .int (i : Int)) xs
def fixS : D → Option (List D)
  | .lst xs => some xs
  | .frz xs => some xs
  | .tup xs => some xs
  | _ => none
section
variable {X : Cx} {EX : EXT} {e e2 : Expr} {ds : SA} {p pos tpos : Pos} {elts : List Expr} {kk : Nat} {ta : TA}
end
end Vi
namespace Vi
open PySem PySem.Spec PyProof.Rows L2
section
variable {X : Cx}
end
end Vi
namespace Vi
open PySem PySem.Spec PyProof.Rows L2
mutual
def eqD : D → D → Bool
  | .non, .non => true
  | .bl a, .bl b => a == b
  | .int a, .int b => a == b
  | .str a, .str b => a == b
  | .tup xs, .tup ys => eqDs xs ys
  | .lst xs, .lst ys => eqDs xs ys
  | .frz xs, .frz ys => eqDs xs ys
  | .ref a, .ref b => a == b
  | .exc a, .exc b => decide (a = b)
  | .emp, .emp => true
  | .obj a as xs, .obj b bs ys => decide (a = b) && decide (as = bs) && eqDs xs ys
  | _, _ => false
def eqDs : List D → List D → Bool
  | [], [] => true
  | x :: xs, y :: ys => eqD x y && eqDs xs ys
  | _, _ => false
end
mutual
theorem eqD_to : ∀ {x y : D}, eqD x y = true → x = y
  | .non, y, h => by cases y <;> first | rfl | cases h
  | .bl a, y, h => by cases y <;> first | (simp only [eqD, beq_iff_eq] at h; rw [h]) | cases h
  | .int a, y, h => by cases y <;> first | (simp only [eqD, beq_iff_eq] at h; rw [h]) | cases h
  | .str a, y, h => by cases y <;> first | (simp only [eqD, beq_iff_eq] at h; rw [h]) | cases h
  | .tup xs, y, h => by cases y <;> first | (simp only [eqD] at h; rw [eqDs_to h]) | cases h
  | .lst xs, y, h => by cases y <;> first | (simp only [eqD] at h; rw [eqDs_to h]) | cases h
  | .frz xs, y, h => by cases y <;> first | (simp only [eqD] at h; rw [eqDs_to h]) | cases h
  | .ref a, y, h => by cases y <;> first | (simp only [eqD, beq_iff_eq] at h; rw [h]) | cases h
  | .exc a, y, h => by cases y <;> first | (simp only [eqD, decide_eq_true_eq] at h; rw [h]) | cases h
  | .emp, y, h => by cases y <;> first | rfl | cases h
  | .obj a as xs, y, h => by cases y <;> first | (simp only [eqD, Bool.and_eq_true, decide_eq_true_eq] at h; rw [h.1.1, h.1.2, eqDs_to h.2]) | cases h
theorem eqDs_to : ∀ {xs ys : List D}, eqDs xs ys = true → xs = ys
  | [], [], _ => rfl
  | [], _ :: _, h => by cases h
  | _ :: _, [], h => by cases h
  | x :: xs, y :: ys, h => by
    simp only [eqDs, Bool.and_eq_true] at h
    rw [eqD_to h.1, eqDs_to h.2]
end
mutual
theorem eqD_refl : ∀ x : D, eqD x x = true
  | .non => rfl
  | .bl a => by simp [eqD]
  | .int a => by simp [eqD]
  | .str a => by simp [eqD]
  | .tup xs => by simp only [eqD]; exact eqDs_refl xs
  | .lst xs => by simp only [eqD]; exact eqDs_refl xs
  | .frz xs => by simp only [eqD]; exact eqDs_refl xs
  | .ref a => by simp [eqD]
  | .exc a => by simp [eqD]
  | .emp => rfl
  | .obj a as xs => by simp only [eqD, eqDs_refl xs, decide_true, Bool.and_self]
theorem eqDs_refl : ∀ xs : List D, eqDs xs xs = true
  | [] => rfl
  | x :: xs => by simp only [eqDs, eqD_refl x, eqDs_refl xs]; rfl
end
def eqKV {κ : Type} [DecidableEq κ] : List (κ × D) → List (κ × D) → Bool
  | [], [] => true
  | (k, x) :: xs, (l, y) :: ys => decide (k = l) && eqD x y && eqKV xs ys
  | _, _ => false
theorem eqKV_to {κ : Type} [DecidableEq κ] : ∀ {xs ys : List (κ × D)}, eqKV xs ys = true → xs = ys
  | [], [], _ => rfl
  | [], _ :: _, h => by cases h
  | _ :: _, [], h => by cases h
  | (k, x) :: xs, (l, y) :: ys, h => by
    simp only [eqKV, Bool.and_eq_true, decide_eq_true_eq] at h
    rw [h.1.1, eqD_to h.1.2, eqKV_to h.2]
theorem eqKV_refl {κ : Type} [DecidableEq κ] : ∀ xs : List (κ × D), eqKV xs xs = true
  | [] => rfl
  | (k, x) :: xs => by simp [eqKV, eqD_refl x, eqKV_refl xs]
def eqC : Cell → Cell → Bool
  | .lst xs, .lst ys => eqDs xs ys
  | .dic xs, .dic ys => eqKV xs ys
  | .dct xs, .dct ys => eqKV xs ys
  | .ins c xs, .ins d ys => decide (c = d) && eqKV xs ys
  | .gone, .gone => true
  | _, _ => false
theorem eqC_to {x y : Cell} (h : eqC x y = true) : x = y := by
  cases x <;> cases y <;> first | cases h | skip
  · rw [eqDs_to (show eqDs _ _ = true from h)]
  · rw [eqKV_to (show eqKV _ _ = true from h)]
  · rw [eqKV_to (show eqKV _ _ = true from h)]
  · simp only [eqC, Bool.and_eq_true, decide_eq_true_eq] at h
    rw [h.1, eqKV_to h.2]
  · rfl
theorem eqC_refl (x : Cell) : eqC x x = true := by
  cases x <;> simp [eqC, eqDs_refl, eqKV_refl]
def eqM : M → M → Bool
  | [], [] => true
  | x :: xs, y :: ys => eqC x y && eqM xs ys
  | _, _ => false
@[simp] theorem eqM_refl : ∀ x : M, eqM x x = true
  | [] => rfl
  | x :: xs => by simp [eqM, eqC_refl, eqM_refl xs]
mutual
def noRef : D → Bool
  | .tup xs => noRefs xs
  | .lst xs => noRefs xs
  | .frz xs => noRefs xs
  | .ref _ => false
  | .non => true
  | .bl _ => true
  | .int _ => true
  | .str _ => true
  | .exc _ => true
  | .emp => true
  | .obj _ _ xs => noRefs xs
def noRefs : List D → Bool
  | [] => true
  | x :: xs => noRef x && noRefs xs
end
def noKV {κ : Type} : List (κ × D) → Bool
  | [] => true
  | (_, x) :: xs => noRef x && noKV xs
def plainC : Cell → Bool
  | .lst xs => noRefs xs
  | .dic xs => noKV xs
  | .dct xs => noKV xs
  | .ins _ xs => noKV xs
  | .gone => true
mutual
def lowD (n : Nat) : D → Bool
  | .tup xs => lowDs n xs
  | .lst xs => lowDs n xs
  | .frz xs => lowDs n xs
  | .ref i => decide (i < n)
  | .non => true
  | .bl _ => true
  | .int _ => true
  | .str _ => true
  | .exc _ => true
  | .emp => true
  | .obj _ _ xs => lowDs n xs
def lowDs (n : Nat) : List D → Bool
  | [] => true
  | x :: xs => lowD n x && lowDs n xs
end
mutual
theorem low_no {n : Nat} : ∀ {x : D}, noRef x = true → lowD n x = true
  | .tup xs, h => by simp only [noRef] at h; simp only [lowD]; exact lows_no h
  | .lst xs, h => by simp only [noRef] at h; simp only [lowD]; exact lows_no h
  | .frz xs, h => by simp only [noRef] at h; simp only [lowD]; exact lows_no h
  | .ref _, h => by simp [noRef] at h
  | .non, _ => rfl
  | .bl _, _ => rfl
  | .int _, _ => rfl
  | .str _, _ => rfl
  | .exc _, _ => rfl
  | .emp, _ => rfl
  | .obj _ _ xs, h => by simp only [noRef] at h; simp only [lowD]; exact lows_no h
theorem lows_no {n : Nat} : ∀ {xs : List D}, noRefs xs = true → lowDs n xs = true
  | [], _ => rfl
  | x :: xs, h => by
    simp only [noRefs, Bool.and_eq_true] at h
    simp only [lowDs, low_no h.1, lows_no h.2, Bool.and_self]
end
def lowC (n : Nat) : Cell → Bool
  | .lst xs => lowDs n xs
  | .dic xs => noKV xs
  | .dct xs => noKV xs
  | .ins _ xs => noKV xs
  | .gone => true
def okMn (n : Nat) : M → M → Bool
  | [], [] => true
  | x :: xs, y :: ys => (eqC x y || lowC n x) && okMn n xs ys
  | _, _ => false
def okM (x y : M) : Bool := okMn y.length x y
theorem okMn_refl (n : Nat) : ∀ x : M, okMn n x x = true
  | [] => rfl
  | x :: xs => by simp [okMn, eqC_refl, okMn_refl n xs]
@[simp] theorem okM_refl (x : M) : okM x x = true := okMn_refl _ x
theorem okMn_get {n : Nat} : ∀ {m' m : M} {i : Nat} {c : Cell}, okMn n m' m = true → m'[i]? = some c → m[i]? = some c ∨ lowC n c = true
  | [], [], _, _, _, e => by simp at e
  | [], _ :: _, _, _, h, _ => by cases h
  | _ :: _, [], _, _, h, _ => by cases h
  | x :: xs, y :: ys, 0, c, h, e => by
    simp only [okMn, Bool.and_eq_true, Bool.or_eq_true] at h
    have e' : x = c := by simpa using e
    subst e'
    rcases h.1 with q | q
    · left; rw [eqC_to q]; rfl
    · exact .inr q
  | x :: xs, y :: ys, i + 1, c, h, e => by
    simp only [okMn, Bool.and_eq_true] at h
    have := okMn_get (i := i) h.2 (by simpa using e)
    simpa using this
theorem okM_get {m' m : M} {i : Nat} {c : Cell} (h : okM m' m = true) (e : m'[i]? = some c) : m[i]? = some c ∨ lowC m.length c = true := okMn_get h e
theorem okMn_len {n : Nat} : ∀ {m' m : M}, okMn n m' m = true → m'.length = m.length
  | [], [], _ => rfl
  | [], _ :: _, h => by cases h
  | _ :: _, [], h => by cases h
  | x :: xs, y :: ys, h => by
    simp only [okMn, Bool.and_eq_true] at h
    simp [okMn_len h.2]
theorem okM_len {m' m : M} (h : okM m' m = true) : m'.length = m.length := okMn_len h
def mapO (f : D → Option D) : List D → Option (List D)
  | [] => some []
  | x :: xs => match f x, mapO f xs with
    | some y, some ys => some (y :: ys)
    | _, _ => none
def fz (m : M) (n : Nat) : Nat → D → Option D
  | 0, x => if noRef x = true then some x else none
  | k + 1, x => if noRef x = true then some x else match x with
    | .tup xs => (mapO (fz m n k) xs).map .tup
    | .lst xs => (mapO (fz m n k) xs).map .lst
    | .ref i => if i < n then some (.ref i) else match m[i]? with
      | some (.lst xs) => (mapO (fz m n k) xs).map .lst
      | _ => none
    | _ => none
theorem fz_no {m : M} {n k : Nat} {x : D} (h : noRef x = true) : fz m n k x = some x := by
  cases k <;> simp [fz, h]
abbrev fzK : Nat := 4
def exitF (F : Fn) : Fn := fun ds m => match F ds m with
  | .ok x m' => if okM (m'.take m.length) m = true then match fz m' m.length fzK x with
    | some x' => .ok x' (m'.take m.length)
    | none => .bad
    else .bad
  | .exn c m' => if okM (m'.take m.length) m = true then .exn c (m'.take m.length) else .bad
  | .bad => .bad
section
variable {K : PySem.W.Frag} {mg : Str → Option Value}
mutual
theorem rd_plain {W' W1 : Wd} (e : Same W'.I W1.I) : ∀ {v : V} {d : D}, RD K W' v d → noRef d = true → RD K W1 v d
  | _, _, .non, _ => .non
  | _, _, .bl b, _ => .bl b
  | _, _, .int i, _ => .int i
  | _, _, .str x, _ => .str x
  | _, _, .tup h n r, q => .tup (same_T e h) (same_N e n) (rds_plain e r (by simpa [noRef] using q))
  | _, _, .lst h r, q => .lst (e _ _ h) (rds_plain e r (by simpa [noRef] using q))
  | _, _, .frz h r, q => .frz (e.seq h) (rds_plain e r (by simpa [noRef] using q))
  | _, _, .ref h, q => by simp [noRef] at q
  | _, _, .exc h r, _ => .exc h (e _ _ r)
  | _, _, .emp r, _ => .emp (e _ _ r)
  | _, _, .obj h r n p, q => .obj h (e _ _ r) n (rds_plain e p (by simpa [noRef] using q))
theorem rds_plain {W' W1 : Wd} (e : Same W'.I W1.I) : ∀ {vs : List V} {ds : List D}, RDs K W' vs ds → noRefs ds = true → RDs K W1 vs ds
  | _, _, .nil, _ => .nil
  | _, _, .cons r t, q => by
    simp only [noRefs, Bool.and_eq_true] at q
    exact .cons (rd_plain e r q.1) (rds_plain e t q.2)
end
theorem rkv_plain {κ : Type} {W' W1 : Wd} (e : Same W'.I W1.I) : ∀ {a : List (κ × V)} {b : List (κ × D)}, RKV K W' a b → noKV b = true → RKV K W1 a b
  | [], [], .nil, _ => .nil
  | _, (k, y) :: ys, .cons p h, q => by
    simp only [noKV, Bool.and_eq_true] at q
    exact .cons ⟨p.1, rd_plain e p.2 q.1⟩ (rkv_plain e h q.2)
theorem old_at {φ ψ : List Addr} {n : Nat} {a b : Addr} (h : φ[n]? = some a) (h' : (φ ++ ψ)[n]? = some b) : φ[n]? = some b := by
  have hl : n < φ.length := (List.getElem?_eq_some_iff.mp h).1
  rwa [List.getElem?_append_left hl] at h'
mutual
theorem rd_old {W W' W1 : Wd} {ψ : List Addr} (eφ : W'.φ = W.φ ++ ψ) (e1 : W1.φ = W.φ) (e : Same W'.I W1.I) : ∀ {d : D} {v u : V}, RD K W u d → RD K W' v d → RD K W1 v d
  | .non, _, _, _, r => by cases r; exact .non
  | .bl _, _, _, _, r => by cases r; exact .bl _
  | .int _, _, _, _, r => by cases r; exact .int _
  | .str _, _, _, _, r => by cases r; exact .str _
  | .tup xs, _, _, r0, r => by
    cases r0 with
    | tup _ _ q0 => cases r with
      | tup h n q => exact .tup (same_T e h) (same_N e n) (rds_old eφ e1 e q0 q)
  | .lst xs, _, _, r0, r => by
    cases r0 with
    | lst _ q0 => cases r with
      | lst h q => exact .lst (e _ _ h) (rds_old eφ e1 e q0 q)
  | .frz xs, _, _, r0, r => by
    cases r0 with
    | frz _ q0 => cases r with
      | frz h q => exact .frz (e.seq h) (rds_old eφ e1 e q0 q)
  | .ref n, _, _, r0, r => by
    cases r0 with
    | ref q0 => cases r with
      | ref q => exact .ref (by rw [e1]; rw [eφ] at q; exact old_at q0 q)
  | .exc _, _, _, _, r => by
    cases r with
    | exc h q => exact .exc h (e _ _ q)
  | .emp, _, _, _, r => by
    cases r with
    | emp q => exact .emp (e _ _ q)
  | .obj _ _ xs, _, _, r0, r => by
    cases r0 with
    | obj _ q' z' q0 => cases r with
      | obj h q z p => exact .obj h (e _ _ q) z (rds_old eφ e1 e q0 p)
theorem rds_old {W W' W1 : Wd} {ψ : List Addr} (eφ : W'.φ = W.φ ++ ψ) (e1 : W1.φ = W.φ) (e : Same W'.I W1.I) : ∀ {ds : List D} {vs us : List V}, RDs K W us ds → RDs K W' vs ds → RDs K W1 vs ds
  | [], _, _, _, r => by cases r; exact .nil
  | d :: ds, _, _, r0, r => by
    cases r0 with
    | cons p0 q0 => cases r with
      | cons p q => exact .cons (rd_old eφ e1 e p0 p) (rds_old eφ e1 e q0 q)
end
theorem rkv_old {κ : Type} {W W' W1 : Wd} {ψ : List Addr} (eφ : W'.φ = W.φ ++ ψ) (e1 : W1.φ = W.φ) (e : Same W'.I W1.I) : ∀ {b : List (κ × D)} {a c : List (κ × V)}, RKV K W c b → RKV K W' a b → RKV K W1 a b
  | _, _, _, .nil, .nil => .nil
  | _, _, _, .cons p0 h0, .cons p h => .cons ⟨p.1, rd_old eφ e1 e p0.2 p.2⟩ (rkv_old eφ e1 e h0 h)
theorem rkt_old {W W' W1 : Wd} {ψ : List Addr} (eφ : W'.φ = W.φ ++ ψ) (e1 : W1.φ = W.φ) (e : Same W'.I W1.I) : ∀ {b : List (List Key × D)} {a c : List (List Int × Addr × Value)}, RKT K W c b → RKT K W' a b → RKT K W1 a b
  | _, _, _, .nil, .nil => .nil
  | _, _, _, .cons p0 h0, .cons p h => by
    obtain ⟨_, _, v0, _, q0⟩ := p0
    obtain ⟨q1, q2, v, q3, q4⟩ := p
    exact .cons ⟨q1, same_T e q2, v, q3, rd_old eφ e1 e q0 q4⟩ (rkt_old eφ e1 e h0 h)
theorem rkt_plain {W' W1 : Wd} (e : Same W'.I W1.I) : ∀ {a : List (List Int × Addr × Value)} {b : List (List Key × D)}, RKT K W' a b → noKV b = true → RKT K W1 a b
  | [], [], .nil, _ => .nil
  | _, (k, y) :: ys, .cons p h, q => by
    simp only [noKV, Bool.and_eq_true] at q
    obtain ⟨q1, q2, v, q3, q4⟩ := p
    exact .cons ⟨q1, same_T e q2, v, q3, rd_plain e q4 q.1⟩ (rkt_plain e h q.2)
theorem rc_old {W W' W1 : Wd} {ψ : List Addr} (eφ : W'.φ = W.φ ++ ψ) (e1 : W1.φ = W.φ) (e : Same W'.I W1.I) {o0 o : HO} : ∀ {c : Cell}, RC K mg W o0 c → RC K mg W' o c → RC K mg W1 o c
  | .lst _, ⟨_, _, r0⟩, ⟨xs, h, r⟩ => ⟨xs, h, rds_old eφ e1 e r0 r⟩
  | .dic _, ⟨_, _, r0⟩, ⟨xs, h, r⟩ => ⟨xs, h, rkv_old eφ e1 e r0 r⟩
  | .dct _, ⟨_, _, _, r0⟩, ⟨a, xs, h, r⟩ => ⟨a, xs, h, rkt_old eφ e1 e r0 r⟩
  | .ins _ _, ⟨_, _, _, _, _, r0⟩, ⟨C, dx, xs, h, g, r⟩ => ⟨C, dx, xs, h, g, rkv_old eφ e1 e r0 r⟩
  | .gone, _, _ => trivial
theorem rc_plain {W' W1 : Wd} (e : Same W'.I W1.I) {o : HO} : ∀ {c : Cell}, RC K mg W' o c → plainC c = true → RC K mg W1 o c
  | .lst _, ⟨xs, h, r⟩, q => ⟨xs, h, rds_plain e r q⟩
  | .dic _, ⟨xs, h, r⟩, q => ⟨xs, h, rkv_plain e r q⟩
  | .dct _, ⟨a, xs, h, r⟩, q => ⟨a, xs, h, rkt_plain e r q⟩
  | .ins _ _, ⟨C, dx, xs, h, g, r⟩, q => ⟨C, dx, xs, h, g, rkv_plain e r q⟩
  | .gone, _, _ => trivial
mutual
theorem rd_low {W W' W1 : Wd} {ψ : List Addr} (eφ : W'.φ = W.φ ++ ψ) (e1 : W1.φ = W.φ) (e : Same W'.I W1.I) : ∀ {d : D} {v : V}, lowD W.φ.length d = true → RD K W' v d → RD K W1 v d
  | .non, _, _, r => by cases r; exact .non
  | .bl _, _, _, r => by cases r; exact .bl _
  | .int _, _, _, r => by cases r; exact .int _
  | .str _, _, _, r => by cases r; exact .str _
  | .tup xs, _, q, r => by
    cases r with
    | tup h n p => exact .tup (same_T e h) (same_N e n) (rds_low eφ e1 e (by simpa [lowD] using q) p)
  | .lst xs, _, q, r => by
    cases r with
    | lst h p => exact .lst (e _ _ h) (rds_low eφ e1 e (by simpa [lowD] using q) p)
  | .frz xs, _, q, r => by
    cases r with
    | frz h p => exact .frz (e.seq h) (rds_low eφ e1 e (by simpa [lowD] using q) p)
  | .ref n, _, q, r => by
    cases r with
    | ref p =>
      have hn : n < W.φ.length := by simpa [lowD] using q
      rw [eφ, List.getElem?_append_left hn] at p
      exact .ref (by rw [e1]; exact p)
  | .exc _, _, _, r => by
    cases r with
    | exc h q => exact .exc h (e _ _ q)
  | .emp, _, _, r => by
    cases r with
    | emp q => exact .emp (e _ _ q)
  | .obj _ _ xs, _, q, r => by
    cases r with
    | obj h g z p => exact .obj h (e _ _ g) z (rds_low eφ e1 e (by simpa [lowD] using q) p)
theorem rds_low {W W' W1 : Wd} {ψ : List Addr} (eφ : W'.φ = W.φ ++ ψ) (e1 : W1.φ = W.φ) (e : Same W'.I W1.I) : ∀ {ds : List D} {vs : List V}, lowDs W.φ.length ds = true → RDs K W' vs ds → RDs K W1 vs ds
  | [], _, _, r => by cases r; exact .nil
  | d :: ds, _, q, r => by
    simp only [lowDs, Bool.and_eq_true] at q
    cases r with
    | cons p t => exact .cons (rd_low eφ e1 e q.1 p) (rds_low eφ e1 e q.2 t)
end
theorem rc_low {W W' W1 : Wd} {ψ : List Addr} (eφ : W'.φ = W.φ ++ ψ) (e1 : W1.φ = W.φ) (e : Same W'.I W1.I) {o : HO} : ∀ {c : Cell}, RC K mg W' o c → lowC W.φ.length c = true → RC K mg W1 o c
  | .lst _, ⟨xs, h, r⟩, q => ⟨xs, h, rds_low eφ e1 e q r⟩
  | .dic _, r, q => rc_plain (c := .dic _) e r q
  | .dct _, r, q => rc_plain (c := .dct _) e r q
  | .ins _ _, r, q => rc_plain (c := .ins _ _) e r q
  | .gone, _, _ => trivial
noncomputable def cutW (W W' : Wd) (H' : Hp) : Wd := ⟨fun a => open Classical in if a ∈ W'.φ.drop W.φ.length then H' a else W'.I a, W.φ⟩
theorem cut_same {W W' : Wd} {H' : Hp} {m' : M} (rm' : RM K mg W' H' m') : Same W'.I (cutW W W' H').I := by
  intro a o h
  unfold cutW
  dsimp only
  split
  · exact rm'.sub a o h
  · exact h
theorem cut_ok {W W' : Wd} {H H' : Hp} {m m' : M} (rm : RM K mg W H m) (e : Ex W H W' H') (rm' : RM K mg W' H' m') (ok : okM (m'.take m.length) m = true) :
    Ex W H (cutW W W' H') H' ∧ RM K mg (cutW W W' H') H' (m'.take m.length) := by
  obtain ⟨ψ, eφ, new⟩ := e.φ
  have es := cut_same (W := W) rm'
  have hdrop : W'.φ.drop W.φ.length = ψ := by rw [eφ]; exact List.drop_left
  have at1 : ∀ a, a ∉ ψ → (cutW W W' H').I a = W'.I a := fun a h => by
    unfold cutW; dsimp only; rw [hdrop, if_neg h]
  have at2 : ∀ a, a ∈ ψ → (cutW W W' H').I a = H' a := fun a h => by
    unfold cutW; dsimp only; rw [hdrop, if_pos h]
  have hlen : (m'.take m.length).length = m.length := okM_len ok
  refine ⟨⟨e.I.trans es, ⟨[], by simp [cutW], by simp⟩, e.fr, e.al, fun a o h => ?_⟩, ⟨fun a o h => ?_, by rw [hlen]; exact rm.len, rm.nd, fun a h => e.al a (rm.al a h), fun i a c h1 h2 h3 => ?_, fun i a c h1 h2 h3 => ?_⟩⟩
  · by_cases q : a ∈ ψ
    · exact .inr (.inl (new a q))
    · rw [at1 a q] at h; exact e.nw a o h
  · by_cases q : a ∈ ψ
    · rw [at2 a q] at h; exact h
    · rw [at1 a q] at h; exact rm'.sub a o h
  · have h1' : W.φ[i]? = some a := h1
    have hi : i < m.length := by
      have := (List.getElem?_eq_some_iff.mp h1').1
      rw [rm.len] at this; exact this
    have h4 : W'.φ[i]? = some a := e.le.get h1'
    have h5 : m'[i]? = some c := by rw [List.getElem?_take] at h2; simpa [hi] using h2
    obtain ⟨o, ho, rc⟩ := rm'.obj i a c h4 h5 h3
    refine ⟨o, ho, ?_⟩
    rcases okM_get ok h2 with q | q
    · obtain ⟨o0, _, rc0⟩ := rm.obj i a c h1' q h3
      exact rc_old (W1 := cutW W W' H') eφ rfl es rc0 rc
    · exact rc_low (W1 := cutW W W' H') eφ rfl es rc (by rw [rm.len]; exact q)
  · have h1' : W.φ[i]? = some a := h1
    have hi : i < m.length := by
      have := (List.getElem?_eq_some_iff.mp h1').1
      rw [rm.len] at this; exact this
    have h4 : W'.φ[i]? = some a := e.le.get h1'
    have h5 : m'[i]? = some c := by rw [List.getElem?_take] at h2; simpa [hi] using h2
    have nq : a ∉ ψ := fun q => by
      have := rm'.nd
      rw [eφ, List.nodup_append] at this
      exact this.2.2 a (List.mem_of_getElem? h1') a q rfl
    rw [at1 a nq]
    exact rm'.off i a c h4 h5 h3
theorem fz_rd {W W' : Wd} {H' : Hp} {m m' : M} {ψ : List Addr} (eφ : W'.φ = W.φ ++ ψ) (hl : W.φ.length = m.length) (rm' : RM K mg W' H' m') : ∀ (k : Nat) {x x' : D} {v : V}, fz m' m.length k x = some x' → RD K W' v x → RD K (cutW W W' H') v x' := by
  have es := cut_same (W := W) rm'
  have hdrop : W'.φ.drop W.φ.length = ψ := by rw [eφ]; exact List.drop_left
  intro k
  induction k with
  | zero =>
    intro x x' v h r
    simp only [fz] at h
    split at h
    · rename_i q; cases h; exact rd_plain es r q
    · cases h
  | succ k ih =>
    have ihs : ∀ {xs xs' : List D} {vs : List V}, mapO (fz m' m.length k) xs = some xs' → RDs K W' vs xs → RDs K (cutW W W' H') vs xs' := by
      intro xs
      induction xs with
      | nil => intro xs' vs h r; cases h; cases r; exact .nil
      | cons x xs ihx =>
        intro xs' vs h r
        cases r with
        | cons p q =>
          unfold mapO at h
          split at h
          · rename_i y ys h1 h2
            cases h
            exact .cons (ih h1 p) (ihx h2 q)
          · cases h
    intro x x' v h r
    simp only [fz] at h
    split at h
    · rename_i q; cases h; exact rd_plain es r q
    · cases r with
      | non => cases h
      | bl _ => cases h
      | int _ => cases h
      | str _ => cases h
      | frz _ _ => cases h
      | exc _ _ => cases h
      | emp _ => cases h
      | obj _ _ _ _ => cases h
      | tup h1 n q =>
        obtain ⟨ys, e1, e2⟩ := Option.map_eq_some_iff.mp h
        subst e2
        exact .tup (same_T es h1) (same_N es n) (ihs e1 q)
      | lst h1 q =>
        obtain ⟨ys, e1, e2⟩ := Option.map_eq_some_iff.mp h
        subst e2
        exact .lst (es _ _ h1) (ihs e1 q)
      | @ref i a q =>
        dsimp only at h
        split at h
        · rename_i hi
          cases h
          rw [← hl] at hi
          exact .ref (by rw [eφ, List.getElem?_append_left hi] at q; exact q)
        · rename_i hi
          split at h
          · rename_i xs hm
            obtain ⟨ys, e1, e2⟩ := Option.map_eq_some_iff.mp h
            subst e2
            obtain ⟨o, ho, us, eo, ru⟩ := rm'.obj i a _ q hm (by simp)
            subst eo
            have hn : a ∈ ψ := by
              rw [← hl] at hi
              rw [eφ, List.getElem?_append_right (Nat.le_of_not_lt hi)] at q
              exact List.mem_of_getElem? q
            refine .lst (xs := us) ?_ (ihs e1 ru)
            show (cutW W W' H').I a = _
            unfold cutW
            dsimp only
            rw [hdrop, if_pos hn]
            exact ho
          · cases h
variable {P : Program} {w : World} {base : Heap}
theorem exit_ok {k : Nat} {f : Addr} {fd : FuncData} {ps : List Str} {F : Fn} (G : FnG P w K mg base k f fd ps F) : FnG P w K mg base k f fd ps (exitF F) := by
  intro A outer s H args us vs Q E hr hg e0 bind rel ⟨hl, W, m, ds, rm, rds, hp⟩
  refine G A outer s H args us vs Q E hr hg e0 bind rel ⟨hl, W, m, ds, rm, rds, ?_⟩
  unfold exitF at hp
  revert hp
  cases F ds m with
  | bad => exact fun hp => hp
  | exn c m' =>
    intro hp W' H' e rm'
    dsimp only at hp
    split at hp
    · rename_i ok
      obtain ⟨e2, rm2⟩ := cut_ok rm e rm' ok
      exact hp _ _ e2 rm2
    · exact hp.elim
  | ok x m' =>
    intro hp W' H' e rm' v rv
    dsimp only at hp
    split at hp
    · rename_i ok
      obtain ⟨e2, rm2⟩ := cut_ok rm e rm' ok
      obtain ⟨ψ, eφ, _⟩ := e.φ
      split at hp
      · rename_i x' hx
        exact hp _ _ e2 rm2 v (fz_rd eφ rm.len rm' _ hx rv)
      · exact hp.elim
    · exact hp.elim
end
section
variable {X : Cx} {EX : EXT} {d : SS} {i : Nat}
end
end Vi
namespace Vi
open PySem PySem.Spec PyProof.Rows L2
section
variable {X : Cx} {EX : EXT} {tg e : Expr} {d : SE}
def iS (d : SE) : SA := fun ρ m => (d ρ m).bind fun x m => match fixS x with
  | some xs => .ok xs m
  | none => .bad
theorem di_seq (h : DE X EX e d) : DI X EX RD tg e (iS d) := by
  refine ⟨fun pins s σ H R I hq => ?_⟩
  obtain ⟨W, ρ, m, rs, rm, hp⟩ := hq
  by_cases ht : ∃ xs m', d ρ m = .ok (.tup xs) m'
  · obtain ⟨xs, m', e1⟩ := ht
    refine (di_tup h).run pins s σ H R I ⟨W, ρ, m, rs, rm, ?_⟩
    simp only [iS, iT, e1, bind_ok, fixS] at hp ⊢
    exact hp
  · refine (di_list h).run pins s σ H R I ⟨W, ρ, m, rs, rm, ?_⟩
    cases e1 : d ρ m with
    | bad => simp only [iS, e1, bind_bad] at hp; exact hp.elim
    | exn c m1 => simp only [iS, iL, e1, bind_exn] at hp ⊢; exact hp
    | ok x m1 =>
      cases x with
      | tup xs => exact absurd ⟨_, _, e1⟩ ht
      | _ => simp only [iS, iL, e1, bind_ok, fixS, fixL] at hp ⊢; first | exact hp | exact hp.elim
end
section
variable {X : Cx} {k : Nat} {EX : EXT}
theorem BodyCx.hu (B : BodyCx X k EX) : X.A.units + 100 < cLine := by have := B.room.un; omega
theorem BodyCx.hu64 (B : BodyCx X k EX) : X.A.units + 64 < cLine := by have := B.room.un; omega
end
end Vi
namespace Vi
open PySem PySem.Spec PyProof.Rows L2
section
variable {X : Cx}
end
section
variable {X : Cx}
end
section
variable {X : Cx} {EX : EXT} {o e : Expr} {do_ d : SE} {apos cpos : Pos}
end
end Vi
namespace Vi
open PySem PySem.Spec PyProof.Rows L2
section
variable {X : Cx} {EX : EXT} {o e : Expr} {to te : TE} {apos cpos : Pos}
end
end Vi
namespace Vi
open PySem PySem.Spec PyProof.Rows L2
end Vi
namespace Vi
open PySem PySem.Spec PyProof.Rows L2
end Vi
namespace Vi
open PySem PySem.Spec PyProof.Rows L2
section
variable {X : Cx}
end
section
variable {X : Cx} {EX : EXT} {o e a b : Expr} {do_ d da db : SE} {apos cpos p p2 pos pos2 : Pos}
end
section
variable {κ : Type} [DecidableEq κ] {K : PySem.W.Frag} {W : Wd}
end
section
variable {X : Cx} {EX : EXT} {o e f i : Expr} {do_ d de di : SE} {apos cpos pos : Pos}
end
end Vi
namespace Vi
open PySem PySem.Spec PyProof.Rows L2
section
variable {X : Cx}
end
end Vi
namespace Vi
open PySem PySem.Spec PyProof.Rows L2
section
variable {X : Cx}
end
end Vi
namespace Vi
open PySem PySem.Spec PyProof.Rows L2
section
variable {X : Cx} {EX : EXT}
end
end Vi
namespace Vi
open PySem PySem.Spec PyProof.Rows L2
section
variable {X : Cx} {EX : EXT} {o e : Expr} {do_ d : SE} {apos cpos : Pos}
end
end Vi
namespace Vi
open PySem PySem.Spec PyProof.Rows L2
open PySem.W in
section
variable {prog : Program} {w : World} {A : Around} {E : Value → Shared → Prop} {s : Shared}
end
section
variable {X : Cx}
end
end Vi
namespace Vi
open PySem PySem.Spec PyProof.Rows L2
section
variable {X : Cx} {EX : EXT} {pos : Pos} {tg e : Expr} {g : SG} {own : List Nat}
end
end Vi
namespace Vi
open PySem PySem.Spec PyProof.Rows L2
section
variable {K : PySem.W.Frag} {mg : Str → Option Value} {W : Wd} {H : Hp} {m : M}
end
theorem CallL.or {X : Cx} {fv : Value} {g g' : List D → M → R (List D)} (h : CallL X fv g) (h' : CallL X fv g') (p : List D → Bool) : CallL X fv (fun xs m => if p xs = true then g xs m else g' xs m) := by
  obtain ⟨r, hr, l⟩ := h
  obtain ⟨r', hr', l'⟩ := h'
  refine ⟨_, CallR.or' hr hr', fun EX W0 W H0 H m vs xs Q e0 rm rd hp => ?_⟩
  by_cases q : p xs = true
  · simp only [if_pos q] at hp
    exact .inl (l EX W0 W H0 H m vs xs Q e0 rm rd hp)
  · simp only [if_neg q] at hp
    exact .inr (l' EX W0 W H0 H m vs xs Q e0 rm rd hp)
end Vi
namespace Vi
open PySem PySem.Spec PyProof.Rows L2
section
variable {X : Cx} {EX : EXT} {tg it : Expr} {body : List Stmt} {d : SE} {g : SG} {b : SS} {pos : Pos}
end
end Vi
namespace Vi
open PySem PySem.Spec PyProof.Rows L2 PySem.W PySem.W.KIN
end Vi
namespace Vi
open PySem PySem.Spec PyProof.Rows L2
section
variable {X : Cx} {EX : EXT} {o e : Expr} {do_ d : SE} {apos cpos : Pos}
end
end Vi
namespace Vi
open PySem PySem.Spec PyProof.Rows L2
section
variable {X : Cx}
end
end Vi
namespace Vi
open PySem PySem.Spec PyProof.Rows L2
section
variable {X : Cx} {EX : EXT} {i : Expr} {di : SE} {x : Str} {p pos : Pos} {a : Addr} {tb : List (Int × D)}
end
section
variable {K : PySem.W.Frag}
end
section
variable {X : Cx} {EX : EXT} {x : Str} {p pos : Pos}
theorem de_gint {k : Int} {t : Nat} (hm : X.mg x = some (.int k t)) (hg : Gl X x := by rfl) (hdb : (x == ("__debug__" : Str)) = false := by decide) : DE X EX (.Name x p) (sC (.int k)) :=
  PE.imp (pe_glob (v := .int k) hg hm ⟨t, rfl⟩ hdb) fun σ H Q ⟨W, ρ, m, rs, rm, h⟩ => post_ok (x := D.int k) h rm _ (.int k)
end
end Vi
namespace Vi
open PySem PySem.Spec PyProof.Rows L2
section
variable {X : Cx} {EX : EXT} {elts : List Expr} {kk : Nat}
variable {e e2 e3 : Expr} {p pos tpos : Pos} {ta : TA} {ds : SA}
end
end Vi
namespace Vi
open PySem PySem.Spec PyProof.Rows L2
section
variable {X : Cx} {EX : EXT} {a b c : Expr} {p p2 pos pos2 : Pos} {ta : TA} {ds : SA}
end
end Vi
namespace HT
open PySem PySem.Spec PyProof.Rows
section
variable {prog : Program} {w : World} {A : Around} {E : Value → Shared → Prop} {s : Shared}
end
end HT
namespace Vi
open PySem PySem.Spec PyProof.Rows L2
section
variable {X : Cx} {EX : EXT} {a : Expr} {da : SE} {pos : Pos}
theorem de_emp : DE X EX (.Dict [] [] pos) (sC .emp) := PE.imp pe_dnewK fun σ H Q ⟨W, ρ, m, rs, rm, h⟩ p hp => by
  obtain ⟨e2, rm2⟩ := new_imm (o := .dK []) rm hp
  have h' : ∀ W' H', Ex W H W' H' → RM X.K X.mg W' H' m → ∀ v, RD X.K W' v .emp → Q v H' := h
  exact h' _ _ e2 rm2 _ (.emp upd_same)
theorem op_isB : OpR X (compareOp .Is) (fun x y H Q => ∃ m n, x = .bl m ∧ y = .bl n ∧ Q (.bl (decide (m = n))) H) := by
  intro pins s σ H x y v u Q I rx ry h
  obtain ⟨m, n, rfl, rfl, q⟩ := h
  cases (show v = Value.bool m from rx)
  cases (show u = Value.bool n from ry)
  by_cases e : m = n
  · subst e
    exact wpAny_is_self rfl ⟨.bl true, H, I, rfl, by simpa using q⟩
  · exact wpAny_is_other rfl (fun z => e (Value.bool.inj z)) ⟨.bl false, H, I, rfl, by simpa [e] using q⟩
theorem op_isNotB : OpR X (compareOp .IsNot) (fun x y H Q => ∃ m n, x = .bl m ∧ y = .bl n ∧ Q (.bl (!decide (m = n))) H) := by
  intro pins s σ H x y v u Q I rx ry h
  obtain ⟨m, n, rfl, rfl, q⟩ := h
  cases (show v = Value.bool m from rx)
  cases (show u = Value.bool n from ry)
  by_cases e : m = n
  · subst e
    exact wpAny_isNot_self rfl ⟨.bl false, H, I, rfl, by simpa using q⟩
  · exact wpAny_isNot_other rfl (fun z => e (Value.bool.inj z)) ⟨.bl true, H, I, rfl, by simpa [e] using q⟩
def gIsQ : D → D → M → R Bool := fun x y m => match x, y with
  | .bl b, .bl c => .ok (decide (b = c)) m
  | _, _ => .bad
def gNotQ : D → D → M → R Bool := fun x y m => match x, y with
  | .bl b, .bl c => .ok (!decide (b = c)) m
  | _, _ => .bad
theorem o_isQ : Op2B X (compareOp .Is) gIsQ := ⟨_, op_isB, fun EX W H m vx vy x y Q rm rx ry hp => by
  unfold gIsQ at hp
  split at hp
  · cases rx; cases ry
    exact ⟨_, _, rfl, rfl, post_ok hp rm⟩
  · exact hp.elim⟩
theorem o_notQ : Op2B X (compareOp .IsNot) gNotQ := ⟨_, op_isNotB, fun EX W H m vx vy x y Q rm rx ry hp => by
  unfold gNotQ at hp
  split at hp
  · cases rx; cases ry
    exact ⟨_, _, rfl, rfl, post_ok hp rm⟩
  · exact hp.elim⟩
end
end Vi
namespace Vi
open PySem PySem.Spec PyProof.Rows L2
section
variable (ρ : En) (m : M)
end
end Vi
namespace Vi
open PySem PySem.Spec PyProof.Rows L2
end Vi
namespace Vi
open PySem PySem.Spec PyProof.Rows L2
mutual
def okR (L : Nat) : D → Bool
  | .non => true
  | .bl _ => true
  | .int i => decide (i.natAbs.log2 < L)
  | .tup xs => okRs L xs
  | .str _ => false
  | .lst _ => false
  | .frz _ => false
  | .ref _ => false
  | .exc _ => false
  | .emp => false
  | .obj _ _ _ => false
def okRs (L : Nat) : List D → Bool
  | [] => true
  | x :: xs => okR L x && okRs L xs
end
mutual
def lenR (L : Nat) : D → Nat
  | .tup xs => lenRs L xs + 3
  | _ => L + 5
def lenRs (L : Nat) : List D → Nat
  | [] => 0
  | x :: xs => lenR L x + 2 + lenRs L xs
end
mutual
def pyD : D → PyData
  | .bl b => .bool b
  | .int i => .int i
  | .tup xs => .tuple (pyDs xs)
  | _ => .none
def pyDs : List D → List PyData
  | [] => []
  | x :: xs => pyD x :: pyDs xs
end
mutual
def dpD : D → Nat
  | .tup xs => dpDs xs + 1
  | _ => 0
def dpDs : List D → Nat
  | [] => 0
  | x :: xs => max (dpD x) (dpDs xs)
end
mutual
theorem toPy_okR {L : Nat} {m : M} : ∀ {x : D}, okR L x = true → toPy x m = some (pyD x)
  | .non, _ => rfl
  | .bl _, _ => rfl
  | .int _, _ => rfl
  | .tup xs, h => by
    simp only [okR] at h
    simp [toPy, toPy_okRs h, pyD]
  | .str _, h => by cases h
  | .lst _, h => by cases h
  | .frz _, h => by cases h
  | .ref _, h => by cases h
  | .exc _, h => by cases h
  | .emp, h => by cases h
  | .obj _ _ _, h => by cases h
theorem toPy_okRs {L : Nat} {m : M} : ∀ {xs : List D}, okRs L xs = true → toPys xs m = some (pyDs xs)
  | [], _ => rfl
  | x :: xs, h => by
    simp only [okRs, Bool.and_eq_true] at h
    simp [toPys, toPy_okR h.1, toPy_okRs h.2, pyDs]
end
mutual
theorem lay_okR {L : Nat} : ∀ {x : D}, okR L x = true → (pyD x).canLay0 = true
  | .non, _ => by simp [pyD, PyData.canLay0]
  | .bl _, _ => by simp [pyD, PyData.canLay0]
  | .int _, _ => by simp [pyD, PyData.canLay0]
  | .tup xs, h => by
    simp only [okR] at h
    simp [pyD, PyData.canLay0, lay_okRs h]
  | .str _, h => by cases h
  | .lst _, h => by cases h
  | .frz _, h => by cases h
  | .ref _, h => by cases h
  | .exc _, h => by cases h
  | .emp, h => by cases h
  | .obj _ _ _, h => by cases h
theorem lay_okRs {L : Nat} : ∀ {xs : List D}, okRs L xs = true → PyData.canLayAll0 (pyDs xs) = true
  | [], _ => by simp [pyDs, PyData.canLayAll0]
  | x :: xs, h => by
    simp only [okRs, Bool.and_eq_true] at h
    simp [pyDs, PyData.canLayAll0, lay_okR h.1, lay_okRs h.2]
end
mutual
theorem dp_okR {L : Nat} : ∀ {x : D}, okR L x = true → (pyD x).depth = dpD x
  | .non, _ => by simp [pyD, PyData.depth, dpD]
  | .bl _, _ => by simp [pyD, PyData.depth, dpD]
  | .int _, _ => by simp [pyD, PyData.depth, dpD]
  | .tup xs, h => by
    simp only [okR] at h
    simp [pyD, PyData.depth, dpD, dp_okRs h]
  | .str _, h => by cases h
  | .lst _, h => by cases h
  | .frz _, h => by cases h
  | .ref _, h => by cases h
  | .exc _, h => by cases h
  | .emp, h => by cases h
  | .obj _ _ _, h => by cases h
theorem dp_okRs {L : Nat} : ∀ {xs : List D}, okRs L xs = true → PyData.depthAll (pyDs xs) = dpDs xs
  | [], _ => by simp [pyDs, PyData.depthAll, dpDs]
  | x :: xs, h => by
    simp only [okRs, Bool.and_eq_true] at h
    simp [pyDs, PyData.depthAll, dpDs, dp_okR h.1, dp_okRs h.2]
end
mutual
theorem show_okR {L : Nat} (hL : L ≤ 1920) : ∀ {x : D}, okR L x = true → (pyD x).showable = true
  | .non, _ => by simp [pyD, PyData.showable]
  | .bl _, _ => by simp [pyD, PyData.showable]
  | .int i, h => by
    simp only [okR, decide_eq_true_eq] at h
    simp [pyD, PyData.showable]; omega
  | .tup xs, h => by
    simp only [okR] at h
    simp [pyD, PyData.showable, show_okRs hL h]
  | .str _, h => by cases h
  | .lst _, h => by cases h
  | .frz _, h => by cases h
  | .ref _, h => by cases h
  | .exc _, h => by cases h
  | .emp, h => by cases h
  | .obj _ _ _, h => by cases h
theorem show_okRs {L : Nat} (hL : L ≤ 1920) : ∀ {xs : List D}, okRs L xs = true → PyData.showableAll (pyDs xs) = true
  | [], _ => by simp [pyDs, PyData.showableAll]
  | x :: xs, h => by
    simp only [okRs, Bool.and_eq_true] at h
    simp [pyDs, PyData.showableAll, show_okR hL h.1, show_okRs hL h.2]
end
theorem tupleText_len (ts : List Str) : (tupleText ts).length ≤ piled ts + 3 := by
  unfold tupleText
  rw [strLen_append, strLen_append]
  have h1 : (Str.ofString "(").length = 1 := rfl
  have h2 : ((if ts.length == 1 then ",)" else ")" : String) : Str).length ≤ 2 := by
    split
    · exact Nat.le_of_eq rfl
    · exact Nat.le_trans (Nat.le_of_eq (rfl : (Str.ofString ")").length = 1)) (by decide)
  by_cases h : ts = []
  · subst h
    have : (Str.join ", " []).length = 0 := rfl
    omega
  · have := join_length_add ts h
    omega
mutual
theorem len_okR {L : Nat} : ∀ {x : D}, okR L x = true → (pyD x).shown.length ≤ lenR L x
  | .non, _ => by
    simp only [pyD, PyData.shown, lenR]
    have : (Str.ofString "None").length = 4 := rfl
    omega
  | .bl b, _ => by
    simp only [pyD, PyData.shown, lenR]
    have h1 : (Str.ofString "True").length = 4 := rfl
    have h2 : (Str.ofString "False").length = 5 := rfl
    cases b
    · show (Str.ofString "False").length ≤ _; omega
    · show (Str.ofString "True").length ≤ _; omega
  | .int i, h => by
    simp only [okR, decide_eq_true_eq] at h
    simp only [pyD, PyData.shown, lenR]
    have := int_text_length_le (a := i) (k := L) (by omega) h
    have e : (Str.ofString (toString i)).length = (toString i).length := PySem.ofString_length _
    show (Str.ofString (toString i)).length ≤ _
    omega
  | .tup xs, h => by
    simp only [okR] at h
    simp only [pyD, PyData.shown, lenR]
    exact Nat.le_trans (tupleText_len _) (by have := len_okRs h; omega)
  | .str _, h => by cases h
  | .lst _, h => by cases h
  | .frz _, h => by cases h
  | .ref _, h => by cases h
  | .exc _, h => by cases h
  | .emp, h => by cases h
  | .obj _ _ _, h => by cases h
theorem len_okRs {L : Nat} : ∀ {xs : List D}, okRs L xs = true → piled (PyData.shownAll (pyDs xs)) ≤ lenRs L xs
  | [], _ => by simp [pyDs, PyData.shownAll, piled, lenRs]
  | x :: xs, h => by
    simp only [okRs, Bool.and_eq_true] at h
    have h1 := len_okR h.1
    have h2 := len_okRs h.2
    simp only [pyDs, PyData.shownAll, lenRs]
    simp only [piled, List.map_cons, List.sum_cons] at h2 ⊢
    omega
end
end Vi
namespace Vi
open PySem PySem.Spec PyProof.Rows L2
mutual
def toPyE : D → Option PyData
  | .non => some .none
  | .bl b => some (.bool b)
  | .int i => some (.int i)
  | .str x => some (.str x)
  | .tup xs => (toPysE xs).map .tuple
  | .emp => some (.dict [])
  | .lst _ => none
  | .frz _ => none
  | .ref _ => none
  | .exc _ => none
  | .obj _ _ _ => none
def toPysE : List D → Option (List PyData)
  | [] => some []
  | x :: xs => match toPyE x, toPysE xs with
    | some d, some ds => some (d :: ds)
    | _, _ => none
end
mutual
inductive DE_ (K : PySem.W.Frag) (H : Hp) : V → PyData → Prop
  | non : DE_ K H .non .none
  | bl (b : Bool) : DE_ K H (.bl b) (.bool b)
  | int (i : Int) : DE_ K H (.int i) (.int i)
  | str (x : Str) : DE_ K H (.str x) (.str x)
  | emp {a : Addr} : H a = some (.dK []) → DE_ K H (.ref a) (.dict [])
  | tup {a : Addr} {xs : List V} {ds : List PyData} : SqT K H a xs → DEs_ K H xs ds → DE_ K H (.ref a) (.tuple ds)
inductive DEs_ (K : PySem.W.Frag) (H : Hp) : List V → List PyData → Prop
  | nil : DEs_ K H [] []
  | cons {v : V} {vs : List V} {d : PyData} {ds : List PyData} : DE_ K H v d → DEs_ K H vs ds → DEs_ K H (v :: vs) (d :: ds)
end
section
variable {K : PySem.W.Frag} {mg : Str → Option Value} {W : Wd} {H : Hp} {m : M}
mutual
theorem de_of (sub : Same W.I H) : ∀ {v : V} {x : D} {d : PyData}, RD K W v x → toPyE x = some d → DE_ K H v d
  | _, _, _, .non, e => by simp only [toPyE, Option.some.injEq] at e; subst e; exact .non
  | _, _, _, .bl b, e => by simp only [toPyE, Option.some.injEq] at e; subst e; exact .bl b
  | _, _, _, .int i, e => by simp only [toPyE, Option.some.injEq] at e; subst e; exact .int i
  | _, _, _, .str x, e => by simp only [toPyE, Option.some.injEq] at e; subst e; exact .str x
  | _, _, _, .tup hT hN r, e => by
    simp only [toPyE, Option.map_eq_some_iff] at e
    obtain ⟨ds, h, rfl⟩ := e
    exact .tup (same_T sub hT) (des_of sub r h)
  | _, _, _, .emp h, e => by
    simp only [toPyE, Option.some.injEq] at e
    subst e
    exact .emp (sub _ _ h)
  | _, .lst _, _, _, e => by simp [toPyE] at e
  | _, .frz _, _, _, e => by simp [toPyE] at e
  | _, .ref _, _, _, e => by simp [toPyE] at e
  | _, .exc _, _, _, e => by simp [toPyE] at e
  | _, .obj _ _ _, _, _, e => by simp [toPyE] at e
theorem des_of (sub : Same W.I H) : ∀ {vs : List V} {xs : List D} {ds : List PyData}, RDs K W vs xs → toPysE xs = some ds → DEs_ K H vs ds
  | _, _, _, .nil, e => by simp only [toPysE, Option.some.injEq] at e; subst e; exact .nil
  | _, _, _, .cons r t, e => by
    simp only [toPysE] at e
    split at e
    · rename_i d ds h1 h2
      cases e
      exact .cons (de_of sub r h1) (des_of sub t h2)
    · cases e
end
end
section
variable {X : Cx} {pins : List (Addr × Obj)} {σ : L2.St} {H : Hp} {s : Shared}
mutual
theorem DE_.reads (I : Inv X pins σ H s) : ∀ (d : PyData) (v : V) (u : Value), DE_ X.K H v d → RelV v u → ∃ as, Reads s.heap u d as ∧ sysModules ∉ as
  | .none, _, _, .non, r => by cases r; exact ⟨_, Reads.none, by simp⟩
  | .bool b, _, _, .bl _, r => by cases r; exact ⟨_, Reads.bool b, by simp⟩
  | .int i, _, _, .int _, r => by obtain ⟨t, rfl⟩ := r; exact ⟨_, Reads.int i t, by simp⟩
  | .str x, _, _, .str _, r => by obtain ⟨t, rfl⟩ := r; exact ⟨_, Reads.str x t, by simp⟩
  | .dict _, _, _, .emp h, r => by
    cases r
    obtain ⟨_, hm, kvs, kv, o, es, ep, ho, hx, hd, _, hp, _⟩ := I.hok _ _ h
    cases kv
    have he : es.toList = [] := by
      cases q : es.toList with
      | nil => rfl
      | cons a b => rw [q] at hp; cases hp
    refine ⟨_, Reads.dict ho hx.1 hd (by rw [he]; exact .nil) (by rw [he]; exact .nil), ?_⟩
    have hm := beq_eq_false_iff_ne.mp hm
    simp
    exact fun e => hm e.symm
  | .tuple ds, _, _, .tup hT h, r => by
    cases r
    obtain ⟨its, rv, ⟨o, ho, hc, n, hd⟩, _⟩ := I.tuple hT
    obtain ⟨as, h1, h2⟩ := DEs_.reads I ds _ _ h rv
    exact ⟨as, Reads.tuple ho hc hd (by simpa using h1), h2⟩
theorem DEs_.reads (I : Inv X pins σ H s) : ∀ (ds : List PyData) (vs : List V) (us : List Value), DEs_ X.K H vs ds → Vals vs us → ∃ as, ReadsAll s.heap us ds as ∧ sysModules ∉ as
  | [], _, _, .nil, r => by cases r; exact ⟨_, .nil, by simp⟩
  | d :: ds, _, _, .cons h t, r => by
    cases r with
    | cons a b =>
      obtain ⟨as, h1, h2⟩ := DE_.reads I d _ _ h a
      obtain ⟨bs, g1, g2⟩ := DEs_.reads I ds _ _ t b
      exact ⟨_, .cons h1 g1, by simp [h2, g2]⟩
end
end
theorem call_reprE {X : Cx} (hgd : X.A.guards = some []) (hu : X.A.units + 100 < cLine) : CallR X (.builtin "repr") (fun xs H Q => (∃ x d, xs = [x] ∧ Dp X.K H x d ∧ SeqAt.shaped d = true ∧ d.showable = true ∧ d.shown.length ≤ sizeLine ∧ Q (.str d.shown) H) ∨
    ∃ x d, xs = [x] ∧ DE_ X.K H x d ∧ d.depth ≤ 60 ∧ d.showable = true ∧ d.shown.length ≤ sizeLine ∧ Q (.str d.shown) H) := by
  intro pins s σ H xs us Q I r h
  rcases h with h | ⟨x, d, hx, dp, hdep, sw, hz, q⟩
  · exact call_reprD hgd hu pins s σ H xs us Q I r h
  subst hx
  obtain ⟨u, rfl, rx⟩ := vals1 r
  obtain ⟨as, rd, hns⟩ := DE_.reads I d x u dp rx
  have fin : ∀ (h' : Heap) (t : Tok) (tk : Nat), (∀ b o, s.heap.get? b = some o → h'.get? b = some o) → EP X pins σ Q (.str d.shown t) { s with heap := h', toks := tk } := fun h' t tk hk => ⟨.str _, H, I.kept hk, ⟨_, rfl⟩, q⟩
  have key : ∀ a, u = .ref a → wpAny (model X.prog X.w) X.A (call (.builtin "repr") [u]) (EP X pins σ Q) X.xe s := by
    intro a ea
    subst ea
    exact repr_of_reads' rd sw (fun _ => hns) hgd (by omega) (fun _ _ e => e) (fun h' t tk hk => fin h' t tk hk) hz
  cases dp with
  | non => cases rx; exact P.repr_of_none (fin s.heap _ _ fun _ _ e => e)
  | bl b => cases rx; exact P.repr_of_bool (by have := fin s.heap s.toks (s.toks + 1) fun _ _ e => e; simpa only [PyData.shown] using this)
  | int i => obtain ⟨t, rfl⟩ := rx; exact P.repr_of_int (by simpa [PyData.showable] using sw) (fin s.heap _ _ fun _ _ e => e)
  | str x => obtain ⟨t, rfl⟩ := rx; exact P.repr_of_str (fin s.heap _ _ fun _ _ e => e) hz
  | emp h1 => cases rx; exact key _ rfl
  | tup h1 h2 => cases rx; exact key _ rfl
def gReprE : List D → M → R D := fun xs m => match xs with
  | [x] => match toPyR x m with
    | some d => if (SeqAt.shaped d = true ∧ d.showable = true) ∧ d.shown.length ≤ big then .ok (.str d.shown) m else .bad
    | none => match toPyE x with
      | some d => if (d.depth ≤ 60 ∧ d.showable = true) ∧ d.shown.length ≤ big then .ok (.str d.shown) m else .bad
      | none => .bad
  | _ => .bad
theorem c_reprE {X : Cx} (hgd : X.A.guards = some []) (hu : X.A.units + 100 < cLine) : CallD X (.builtin "repr") gReprE := ⟨_, call_reprE hgd hu, fun EX W H m vs xs Q rm r hp => by
  unfold gReprE at hp
  split at hp
  · rename_i x
    obtain ⟨v, rfl, rv⟩ := RDs.inv1 r
    split at hp
    · rename_i d hd
      split at hp
      · rename_i hz
        exact .inl ⟨v, d, rfl, dpR_of rm rv hd, hz.1.1, hz.1.2, by rw [big_eq]; exact hz.2, post_ok hp rm _ (.str _)⟩
      · exact hp.elim
    · split at hp
      · rename_i d hd
        split at hp
        · rename_i hz
          exact .inr ⟨v, d, rfl, de_of rm.sub rv hd, hz.1.1, hz.1.2, by rw [big_eq]; exact hz.2, post_ok hp rm _ (.str _)⟩
        · exact hp.elim
      · exact hp.elim
  · exact hp.elim⟩
end Vi
namespace Vi
open PySem PySem.Spec PyProof.Rows L2
end Vi
namespace Lk26
open PySem PySem.Spec PyProof.Rows L2 Vi
theorem scis_whole : FnScope ["thing", "low", "high"] ["thing", "low", "high"] (defScope sis_whole) := ⟨rfl, rfl, rfl, by decide +kernel, rfl, by decide +kernel, by decide +kernel⟩
theorem scis_claim : FnScope ["thing", "m", "a", "q"] ["thing"] (defScope sis_claim) := ⟨rfl, rfl, rfl, by decide +kernel, rfl, by decide +kernel, by decide +kernel⟩
theorem sc_law_hand : FnScope ["_law_script", "_law_k", "_law_cell", "_law_great"] ["_law_script", "_law_k"] (defScope s_law_hand) := ⟨rfl, rfl, rfl, by decide +kernel, rfl, by decide +kernel, by decide +kernel⟩
theorem sc_law_take : FnScope ["_law_hand_here", "_law_many", "_law_digit", "_law_blent"] ["_law_hand_here", "_law_many"] (defScope s_law_take) := ⟨rfl, rfl, rfl, by decide +kernel, rfl, by decide +kernel, by decide +kernel⟩
theorem sc_law_whole : FnScope ["_law_thing", "_law_low", "_law_high"] ["_law_thing", "_law_low", "_law_high"] (defScope s_law_whole) := ⟨rfl, rfl, rfl, by decide +kernel, rfl, by decide +kernel, by decide +kernel⟩
theorem sc_law_due : FnScope ["_law_thing"] ["_law_thing"] (defScope s_law_due) := ⟨rfl, rfl, rfl, by decide +kernel, rfl, by decide +kernel, by decide +kernel⟩
theorem sc_law_claim : FnScope ["_law_hand_here", "_law_way", "_law_most", "_law_far", "_law_m", "_law_a"] ["_law_hand_here"] (defScope s_law_claim) := ⟨rfl, rfl, rfl, by decide +kernel, rfl, by decide +kernel, by decide +kernel⟩
theorem sc_law_deep : FnScope ["_law_thing", "_law_turn"] [] (defScope s_law_deep) := ⟨rfl, rfl, rfl, by decide +kernel, rfl, by decide +kernel, by decide +kernel⟩
theorem sc_law_odd : FnScope ["_law_hand_here", "_law_claim_here", "_law_way", "_law_some"] ["_law_hand_here", "_law_claim_here"] (defScope s_law_odd) := ⟨rfl, rfl, rfl, by decide +kernel, rfl, by decide +kernel, by decide +kernel⟩
theorem sc_law_otherwise : FnScope ["_law_hand_here", "_law_claim_here", "_law_way", "_law_spot", "_law_to", "_law_odd_here", "_law_found", "_law_some"] ["_law_hand_here", "_law_claim_here"] (defScope s_law_otherwise) := ⟨rfl, rfl, rfl, by decide +kernel, rfl, by decide +kernel, by decide +kernel⟩
theorem sc_law_told : FnScope ["_law_thing", "_law_before", "_law_found"] ["_law_thing"] (defScope s_law_told) := ⟨rfl, rfl, rfl, by decide +kernel, rfl, by decide +kernel, by decide +kernel⟩
theorem sclaw : FnScope ["_law_script", "_law_k", "_law_hand_here", "_law_turn", "_law_claim_here", "_law_thing"] ["_law_script"] (defScope slaw) := ⟨rfl, rfl, rfl, by decide +kernel, rfl, by decide +kernel, by decide +kernel⟩
def fis_whole_0 : SS := (sRet (sAndV (sIsi "int" (sVar 0)) (sAndV (sNotV (sIsi "bool" (sVar 0))) (sOfT (sChain gLe gLe (sVar 1) (sVar 0) (sVar 2))))))
def fis_whole : Fn := exitF (runDef 3 fis_whole_0)
def fis_claim_2 : SS := (sRet (sAndV (sCall fis_whole (sCons (sVar 1) (sCons (sC (.int 1)) (sCons (sC (.int 600)) sNil)))) (sAndV (sCall fis_whole (sCons (sVar 2) (sCons (sC (.int 0)) (sCons (sBin gSub (sVar 1) (sC (.int 1))) sNil)))) (sCall fis_whole (sCons (sVar 3) (sCons (sC (.int 2)) (sCons (sC (.int 1000000)) sNil)))))))
def fis_claim_1 : SS := (sAsg (sVar 0) (gTp 3 (gsCons (gNm 1) (gsCons (gNm 2) (gsCons (gNm 3) gsNil)))))
def fis_claim_0a0 : SS := (sRet (sC (.bl false)))
def fis_claim_0 : SS := (sIfS (sOr (sNot (sTB (sIsi "tuple" (sVar 0)))) (sBinT gNe (sCall gLen (sCons (sVar 0) sNil)) (sC (.int 3))))
  fis_claim_0a0
  sPass)
def fis_claim : Fn := exitF (runDef 4 (sSeq fis_claim_0 (sSeq fis_claim_1 fis_claim_2)))
def f_law_hand_2 : SS := (sRet (sNew (sLst (sCons (sVar 3) (sCons (sBin gMod (sBin gMul (sBin gAdd (sBin gAdd (sBin gMod (sVar 2) (sC (.int 2305843009213693951))) (sBin gMul (sBin gMul (sC (.int 7919)) (sVar 1)) (sVar 1))) (sC (.int 3))) (sC (.int 48271))) (sC (.int 2305843009213693921))) (sCons (sC (.int 0)) sNil))))))
def f_law_hand_1 : SS := (sAsg (sIf (sBinT gGe (sVar 2) (sBin gPow (sC (.int 10)) (sC (.int 18)))) (sBin gMod (sVar 2) (sBin gMul (sBin gMul (sBin gMul (sBin gPow (sC (.int 10)) (sC (.int 60))) (sBin gPow (sC (.int 10)) (sC (.int 60)))) (sBin gPow (sC (.int 10)) (sC (.int 60)))) (sBin gPow (sC (.int 10)) (sC (.int 60))))) (sC (.int 0))) (gNm 3))
def f_law_hand_0 : SS := (sAsg (sIf (sBinT gLt (sVar 1) (sCall gLen (sCons (sVar 0) sNil))) (sCall gAbs (sCons (sBin gIx (sVar 0) (sVar 1)) sNil)) (sC (.int 0))) (gNm 2))
def f_law_hand : Fn := runDef 4 (sSeq f_law_hand_0 (sSeq f_law_hand_1 f_law_hand_2))
def f_law_take_4 : SS := (sRet (sBin gMod (sBin gAdd (sBin gDiv (sVar 3) (sC (.int 97))) (sBin gDiv (sVar 3) (sC (.int 1000033)))) (sVar 1)))
def f_law_take_3 : SS := (sAsg (sBin gMod (sBin gMul (sVar 3) (sBin gAdd (sBin gMod (sVar 3) (sC (.int 1000003))) (sBin gMul (sC (.int 99991)) (sBin gIx (sVar 0) (sC (.int 2)))))) (sC (.int 2305843009213693907))) (gNm 3))
def f_law_take_2 : SS := (sAsg (sBin gMod (sBin gMul (sBin gAdd (sBin gAdd (sBin gIx (sVar 0) (sC (.int 1))) (sBin gMul (sBin gMul (sC (.int 65537)) (sBin gIx (sVar 0) (sC (.int 2)))) (sBin gIx (sVar 0) (sC (.int 2))))) (sC (.int 11))) (sC (.int 48271))) (sC (.int 2305843009213693921))) (gNm 3))
def f_law_take_1 : SS := (sAsg (sBin gAdd (sBin gIx (sVar 0) (sC (.int 2))) (sC (.int 1))) (gSb (sVar 0) (sC (.int 2))))
def f_law_take_0a2 : SS := (sRet (sVar 2))
def f_law_take_0a1 : SS := (sAsg (sBin gDiv (sBin gIx (sVar 0) (sC (.int 0))) (sVar 1)) (gSb (sVar 0) (sC (.int 0))))
def f_law_take_0a0 : SS := (sAsg (sBin gMod (sBin gIx (sVar 0) (sC (.int 0))) (sVar 1)) (gNm 2))
def f_law_take_0 : SS := (sIfS (sBinT gGt (sBin gIx (sVar 0) (sC (.int 0))) (sC (.int 0)))
  (sSeq f_law_take_0a0 (sSeq f_law_take_0a1 f_law_take_0a2))
  sPass)
def f_law_take : Fn := exitF (runDef 4 (sSeq f_law_take_0 (sSeq f_law_take_1 (sSeq f_law_take_2 (sSeq f_law_take_3 f_law_take_4)))))
def f_law_whole_0 : SS := (sRet (sAndV (sIsi "int" (sVar 0)) (sAndV (sNotV (sIsi "bool" (sVar 0))) (sOfT (sChain gLe gLe (sVar 1) (sVar 0) (sVar 2))))))
def f_law_whole : Fn := exitF (runDef 3 f_law_whole_0)
def f_law_due_2 : SS := (sRet (sCall f_law_whole (sCons (sBin gIx (sVar 0) (sC (.int 1))) (sCons (sC (.int 0)) (sCons (sBin gSub (sBin gIx (sVar 0) (sC (.int 0))) (sC (.int 1))) sNil)))))
def f_law_due_1a0 : SS := (sRet (sC (.bl false)))
def f_law_due_1 : SS := (sIfS (sOr (sNot (sTB (sCall f_law_whole (sCons (sBin gIx (sVar 0) (sC (.int 0))) (sCons (sC (.int 1)) (sCons (sC (.int 600)) sNil)))))) (sNot (sTB (sCall f_law_whole (sCons (sBin gIx (sVar 0) (sC (.int 2))) (sCons (sC (.int 2)) (sCons (sBin gPow (sC (.int 10)) (sC (.int 6))) sNil)))))))
  f_law_due_1a0
  sPass)
def f_law_due_0a0 : SS := (sRet (sC (.bl false)))
def f_law_due_0 : SS := (sIfS (sOr (sNot (sTB (sIsi "tuple" (sVar 0)))) (sBinT gNe (sCall gLen (sCons (sVar 0) sNil)) (sC (.int 3))))
  f_law_due_0a0
  sPass)
def f_law_due : Fn := exitF (runDef 1 (sSeq f_law_due_0 (sSeq f_law_due_1 f_law_due_2)))
def f_law_claim_3 : SS := (sRet (sTup (sCons (sVar 4) (sCons (sVar 5) (sCons (sIf (sBinT gLt (sVar 3) (sC (.int 2))) (sBin gIx (sFrz (sLst (sCons (sC (.int 2)) (sCons (sBin gPow (sC (.int 10)) (sC (.int 6))) sNil)))) (sVar 3)) (sBin gAdd (sC (.int 2)) (sCall f_law_take (sCons (sVar 0) (sCons (sBin gIx (sFrz (sLst (sCons (sC (.int 999999)) (sCons (sC (.int 30)) sNil)))) (sBin gSub (sVar 3) (sC (.int 2)))) sNil))))) sNil)))))
def f_law_claim_2 : SS := (sAsg (sIf (sBinT gLt (sVar 2) (sC (.int 2))) (sBin gIx (sFrz (sLst (sCons (sC (.int 0)) (sCons (sBin gSub (sVar 4) (sC (.int 1))) sNil)))) (sVar 2)) (sCall f_law_take (sCons (sVar 0) (sCons (sVar 4) sNil)))) (gNm 5))
def f_law_claim_1 : SS := (sAsg (sIf (sBinT gLt (sVar 1) (sC (.int 3))) (sBin gIx (sFrz (sLst (sCons (sC (.int 1)) (sCons (sC (.int 2)) (sCons (sC (.int 600)) sNil))))) (sVar 1)) (sBin gAdd (sC (.int 1)) (sCall f_law_take (sCons (sVar 0) (sCons (sBin gIx (sFrz (sLst (sCons (sC (.int 600)) (sCons (sC (.int 12)) sNil)))) (sBin gSub (sVar 1) (sC (.int 3)))) sNil))))) (gNm 4))
def f_law_claim_0 : SS := (sPar3 1 2 3 (sCons (sCall f_law_take (sCons (sVar 0) (sCons (sC (.int 5)) sNil))) (sCons (sCall f_law_take (sCons (sVar 0) (sCons (sC (.int 3)) sNil))) (sCons (sCall f_law_take (sCons (sVar 0) (sCons (sC (.int 4)) sNil))) sNil))))
def f_law_claim : Fn := exitF (runDef 6 (sSeq f_law_claim_0 (sSeq f_law_claim_1 (sSeq f_law_claim_2 f_law_claim_3))))
def f_law_deep_2 : SS := (sRet (sVar 0))
def f_law_deep_1_0 : SS := (sAsg (sTup (sCons (sVar 0) sNil)) (gNm 0))
def f_law_deep_1 : SS := (sFor (iR1 (sCons (sC (.int 26)) sNil)) (gNm 1)
  f_law_deep_1_0)
def f_law_deep_0 : SS := (sAsg (sTup (sCons (sC (.int 1)) (sCons (sC (.int 0)) (sCons (sC (.int 2)) sNil)))) (gNm 0))
def f_law_deep : Fn := exitF (runDef 2 (sSeq f_law_deep_0 (sSeq f_law_deep_1 f_law_deep_2)))
def f_law_odd_2 : SS := (sRet (sBin gIx (sFrz (sCatL (sVar 3) (sFrz (sLst (sCons (sC (.str "1")) (sCons (sC (.str "")) (sCons (sTup (sCons (sC (.int 1)) sNil)) (sCons (sFrz (sLst (sCons (sC (.int 1)) sNil))) (sCons (sTup sNil) (sCons (sFrz (sLst sNil)) (sCons (sC .emp) (sCons (sCall f_law_deep sNil) sNil)))))))))))) (sVar 2)))
def f_law_odd_1 : SS := (sAsg (sFrz (sLst (sCons (sC .non) (sCons (sC (.bl true)) (sCons (sC (.bl false)) (sCons (sUn (gI1 fun i => -i) (sC (.int 1))) (sCons (sC (.int 0)) (sCons (sC (.int 1)) (sCons (sC (.int 2)) (sCons (sBin gIx (sVar 1) (sC (.int 0))) (sCons (sBin gAdd (sBin gIx (sVar 1) (sC (.int 0))) (sC (.int 1))) (sCons (sC (.int 601)) (sCons (sBin gAdd (sBin gPow (sC (.int 10)) (sC (.int 6))) (sC (.int 1))) (sCons (sBin gPow (sC (.int 10)) (sC (.int 6))) sNil)))))))))))))) (gNm 3))
def f_law_odd_0 : SS := (sAsg (sCall f_law_take (sCons (sVar 0) (sCons (sC (.int 20)) sNil))) (gNm 2))
def f_law_odd : Fn := exitF (runDef 4 (sSeq f_law_odd_0 (sSeq f_law_odd_1 f_law_odd_2)))
def f_law_otherwise_5 : SS := (sRet (sBin gIx (sFrz (sCatL (sVar 7) (sFrz (sLst (sCons (sBin gIx (sFrz (sLst (sCons (sFrz (sCallL gList (sCons (sVar 1) sNil))) (sCons (sVar 5) sNil)))) (sBin gMod (sVar 3) (sC (.int 2)))) sNil))))) (sBin gSub (sVar 2) (sC (.int 5)))))
def f_law_otherwise_4 : SS := (sAsg (sFrz (sLst (sCons (sBin gCatT (sCutT (sVar 1) sNo (sSome (sVar 3))) (sCutT (sVar 1) (sSome (sBin gAdd (sVar 3) (sC (.int 1)))) sNo)) (sCons (sBin gCatT (sBin gCatT (sCutT (sVar 1) sNo (sSome (sVar 3))) (sTup (sCons (sVar 5) sNil))) (sCutT (sVar 1) (sSome (sVar 3)) sNo)) sNil)))) (gNm 7))
def f_law_otherwise_3a2 : SS := (sRet (sCall gTuple (sCons (sVar 6) sNil)))
def f_law_otherwise_3a1 : SS := (sAsg (sTup (sCons (sBin gIx (sVar 6) (sVar 4)) (sCons (sBin gIx (sVar 6) (sVar 3)) sNil))) (gTp 2 (gsCons (gSb (sVar 6) (sVar 3)) (gsCons (gSb (sVar 6) (sVar 4)) gsNil))))
def f_law_otherwise_3a0 : SS := (sAsg (sNew (sCallL gList (sCons (sVar 1) sNil))) (gNm 6))
def f_law_otherwise_3 : SS := (sIfS (sBinT gEq (sVar 2) (sC (.int 4)))
  (sSeq f_law_otherwise_3a0 (sSeq f_law_otherwise_3a1 f_law_otherwise_3a2))
  sPass)
def f_law_otherwise_2a0 : SS := (sRet (sBin gCatT (sBin gCatT (sCutT (sVar 1) sNo (sSome (sVar 3))) (sTup (sCons (sVar 5) sNil))) (sCutT (sVar 1) (sSome (sBin gAdd (sVar 3) (sC (.int 1)))) sNo)))
def f_law_otherwise_2 : SS := (sIfS (sBinT gLt (sVar 2) (sC (.int 4)))
  f_law_otherwise_2a0
  sPass)
def f_law_otherwise_1 : SS := (sAsg (sCall f_law_odd (sCons (sVar 0) (sCons (sVar 1) sNil))) (gNm 5))
def f_law_otherwise_0 : SS := (sPar3 2 3 4 (sCons (sCall f_law_take (sCons (sVar 0) (sCons (sC (.int 8)) sNil))) (sCons (sCall f_law_take (sCons (sVar 0) (sCons (sC (.int 3)) sNil))) (sCons (sCall f_law_take (sCons (sVar 0) (sCons (sC (.int 3)) sNil))) sNil))))
def f_law_otherwise : Fn := exitF (runDef 8 (sSeq f_law_otherwise_0 (sSeq f_law_otherwise_1 (sSeq f_law_otherwise_2 (sSeq f_law_otherwise_3 (sSeq f_law_otherwise_4 f_law_otherwise_5))))))
def f_law_told_2 : SS := (sRet (sAndV (sIsi "bool" (sVar 2)) (sAndV (sOfT (sBinT gEq (sVar 2) (sCall f_law_due (sCons (sVar 0) sNil)))) (sOfT (sBinT gEq (sCall gReprE (sCons (sVar 0) sNil)) (sVar 1))))))
def f_law_told_1 : SS := (sAsg (sCall fis_claim (sCons (sVar 0) sNil)) (gNm 2))
def f_law_told_0 : SS := (sAsg (sCall gReprE (sCons (sVar 0) sNil)) (gNm 1))
def f_law_told : Fn := exitF (runDef 3 (sSeq f_law_told_0 (sSeq f_law_told_1 f_law_told_2)))
def flaw_2 : SS := (sRet (sAndV (sOfT (sBinT gIsQ (sCall fis_claim (sCons (sTup (sCons (sC (.int 1)) (sCons (sC (.int 0)) (sCons (sC (.int 2)) sNil)))) sNil)) (sC (.bl true)))) (sOfT (sBinT gIsQ (sCall fis_claim (sCons (sTup (sCons (sC (.int 600)) (sCons (sC (.int 599)) (sCons (sBin gPow (sC (.int 10)) (sC (.int 6))) sNil)))) sNil)) (sC (.bl true))))))
def flaw_1_0a0 : SS := (sRet (sC (.bl false)))
def flaw_1_0 : SS := (sIfS (sBinT gNotQ (sCall fis_claim (sCons (sVar 5) sNil)) (sC (.bl false)))
  flaw_1_0a0
  sPass)
def flaw_1 : SS := (sFor (iS (sTup (sCons (sTup (sCons (sC (.int 601)) (sCons (sC (.int 0)) (sCons (sC (.int 2)) sNil)))) (sCons (sTup (sCons (sC (.int 600)) (sCons (sC (.int 600)) (sCons (sC (.int 2)) sNil)))) (sCons (sTup (sCons (sC (.int 1)) (sCons (sC (.int 0)) (sCons (sC (.int 1)) sNil)))) (sCons (sTup (sCons (sC (.int 1)) (sCons (sC (.int 0)) (sCons (sBin gAdd (sBin gPow (sC (.int 10)) (sC (.int 6))) (sC (.int 1))) sNil)))) (sCons (sTup (sCons (sC (.int 1)) (sCons (sC (.int 1)) (sCons (sC (.int 2)) sNil)))) (sCons (sTup (sCons (sC (.int 0)) (sCons (sC (.int 0)) (sCons (sC (.int 2)) sNil)))) sNil)))))))) (gNm 5)
  flaw_1_0)
def flaw_0_1_2a0 : SS := (sRet (sC (.bl false)))
def flaw_0_1_2 : SS := (sIfS (sNot (sTB (sCall f_law_told (sCons (sCall f_law_odd (sCons (sVar 2) (sCons (sVar 4) sNil))) sNil))))
  flaw_0_1_2a0
  sPass)
def flaw_0_1_1a0 : SS := (sRet (sC (.bl false)))
def flaw_0_1_1 : SS := (sIfS (sOr (sBinT gNotQ (sCall fis_claim (sCons (sVar 4) sNil)) (sC (.bl true))) (sNot (sTB (sCall f_law_told (sCons (sCall f_law_otherwise (sCons (sVar 2) (sCons (sVar 4) sNil))) sNil)))))
  flaw_0_1_1a0
  sPass)
def flaw_0_1_0 : SS := (sAsg (sCall f_law_claim (sCons (sVar 2) sNil)) (gNm 4))
def flaw_0_1 : SS := (sFor (iR1 (sCons (sC (.int 20)) sNil)) (gNm 3)
  (sSeq flaw_0_1_0 (sSeq flaw_0_1_1 flaw_0_1_2)))
def flaw_0_0 : SS := (sAsg (sCall f_law_hand (sCons (sVar 0) (sCons (sVar 1) sNil))) (gNm 2))
def flaw_0 : SS := (sFor (iR1 (sCons (sCall gMax2 (sCons (sC (.int 1)) (sCons (sCall gMin2 (sCons (sCall gLen (sCons (sVar 0) sNil)) (sCons (sC (.int 4)) sNil))) sNil))) sNil)) (gNm 1)
  (sSeq flaw_0_0 flaw_0_1))
def flaw : Fn := exitF (runDef 6 (sSeq flaw_0 (sSeq flaw_1 flaw_2)))
set_option genInjectivity false in
set_option genSizeOfSpec false in
structure Tops (K : PySem.W.Frag) (mg : Str → Option Value) where
  a_is_whole : Addr
  d_is_whole : FuncData
  F_is_whole : Fun K "is_whole" "is_whole" sis_whole a_is_whole d_is_whole
  g_is_whole : mg "is_whole" = some (.ref a_is_whole)
  b_is_whole : Binds K d_is_whole ["thing", "low", "high"] []
  a_is_claim : Addr
  d_is_claim : FuncData
  F_is_claim : Fun K "is_claim" "is_claim" sis_claim a_is_claim d_is_claim
  g_is_claim : mg "is_claim" = some (.ref a_is_claim)
  b_is_claim : Binds K d_is_claim ["thing"] []
  a__law_hand : Addr
  d__law_hand : FuncData
  F__law_hand : Fun K "_law_hand" "_law_hand" s_law_hand a__law_hand d__law_hand
  g__law_hand : mg "_law_hand" = some (.ref a__law_hand)
  b__law_hand : Binds K d__law_hand ["_law_script", "_law_k"] []
  a__law_take : Addr
  d__law_take : FuncData
  F__law_take : Fun K "_law_take" "_law_take" s_law_take a__law_take d__law_take
  g__law_take : mg "_law_take" = some (.ref a__law_take)
  b__law_take : Binds K d__law_take ["_law_hand_here", "_law_many"] []
  a__law_whole : Addr
  d__law_whole : FuncData
  F__law_whole : Fun K "_law_whole" "_law_whole" s_law_whole a__law_whole d__law_whole
  g__law_whole : mg "_law_whole" = some (.ref a__law_whole)
  b__law_whole : Binds K d__law_whole ["_law_thing", "_law_low", "_law_high"] []
  a__law_due : Addr
  d__law_due : FuncData
  F__law_due : Fun K "_law_due" "_law_due" s_law_due a__law_due d__law_due
  g__law_due : mg "_law_due" = some (.ref a__law_due)
  b__law_due : Binds K d__law_due ["_law_thing"] []
  a__law_claim : Addr
  d__law_claim : FuncData
  F__law_claim : Fun K "_law_claim" "_law_claim" s_law_claim a__law_claim d__law_claim
  g__law_claim : mg "_law_claim" = some (.ref a__law_claim)
  b__law_claim : Binds K d__law_claim ["_law_hand_here"] []
  a__law_deep : Addr
  d__law_deep : FuncData
  F__law_deep : Fun K "_law_deep" "_law_deep" s_law_deep a__law_deep d__law_deep
  g__law_deep : mg "_law_deep" = some (.ref a__law_deep)
  b__law_deep : Binds K d__law_deep [] []
  a__law_odd : Addr
  d__law_odd : FuncData
  F__law_odd : Fun K "_law_odd" "_law_odd" s_law_odd a__law_odd d__law_odd
  g__law_odd : mg "_law_odd" = some (.ref a__law_odd)
  b__law_odd : Binds K d__law_odd ["_law_hand_here", "_law_claim_here"] []
  a__law_otherwise : Addr
  d__law_otherwise : FuncData
  F__law_otherwise : Fun K "_law_otherwise" "_law_otherwise" s_law_otherwise a__law_otherwise d__law_otherwise
  g__law_otherwise : mg "_law_otherwise" = some (.ref a__law_otherwise)
  b__law_otherwise : Binds K d__law_otherwise ["_law_hand_here", "_law_claim_here"] []
  a__law_told : Addr
  d__law_told : FuncData
  F__law_told : Fun K "_law_told" "_law_told" s_law_told a__law_told d__law_told
  g__law_told : mg "_law_told" = some (.ref a__law_told)
  b__law_told : Binds K d__law_told ["_law_thing"] []
  a_law : Addr
  d_law : FuncData
  F_law : Fun K "law" "law" slaw a_law d_law
  g_law : mg "law" = some (.ref a_law)
  b_law : Binds K d_law ["_law_script"] []
  m_isinstance : mg "isinstance" = none
  m_int : mg "int" = none
  m_bool : mg "bool" = none
  m_tuple : mg "tuple" = none
  m_len : mg "len" = none
  m_abs : mg "abs" = none
  m_range : mg "range" = none
  m_list : mg "list" = none
  m_repr : mg "repr" = none
  m_max : mg "max" = none
  m_min : mg "min" = none
  tk_MOST_STEP : Nat
  r_MOST_STEP : mg "MOST_STEP" = some (.int 600 tk_MOST_STEP)
  tk_MOST_NUMBER : Nat
  r_MOST_NUMBER : mg "MOST_NUMBER" = some (.int 1000000 tk_MOST_NUMBER)
section
variable {P : Program} {w : World} {K : PySem.W.Frag} {mg : Str → Option Value} {base : Heap}
theorem okis_whole (Z : Tops K mg) : FnG P w K mg base 1 Z.a_is_whole Z.d_is_whole ["thing", "low", "high"] fis_whole :=
  exit_ok (fn_ok Z.F_is_whole scis_whole fun cdv A outer s H E B => (dss_one (ds_ret (de_and (de_isi (de_var 0) Z.m_isinstance Z.m_int) (de_and (de_not (de_isi (de_var 0) Z.m_isinstance Z.m_bool)) (de_one (de_chain o_le o_le (de_var 1) (de_var 0) (de_var 2))))))))
theorem okis_claim (Z : Tops K mg) : FnG P w K mg base 2 Z.a_is_claim Z.d_is_claim ["thing"] fis_claim :=
  exit_ok (fn_ok Z.F_is_claim scis_claim fun cdv A outer s H E B => (dss_cons (ds_if (dt_w (dw_or (dt_not (dt_bl (de_isi (de_var 0) Z.m_isinstance Z.m_tuple))) (dw_or1 (dt_cmp (o_ne B.hu64) (de_callB c_len Z.m_len (da_cons (de_var 0) da_nil)) de_int))))
  (dss_one (ds_ret de_bl))
  dss_nil)
  (dss_cons (ds_asg (de_var 0) (dg_w (dg_tup rfl (dgs_cons (dg_name scis_claim.nd) (dgs_cons (dg_name scis_claim.nd) (dgs_cons (dg_name scis_claim.nd) dgs_nil))))))
  (dss_one (ds_ret (de_and (de_call (okis_whole Z) (B.room.mono (by decide)) B.gd B.pass Z.g_is_whole Z.F_is_whole.kp Z.b_is_whole (da_cons (de_var 1) (da_cons de_int (da_cons (de_gint Z.r_MOST_STEP) da_nil))) (len_cons (len_cons (len_cons len_nil)))) (de_and (de_call (okis_whole Z) (B.room.mono (by decide)) B.gd B.pass Z.g_is_whole Z.F_is_whole.kp Z.b_is_whole (da_cons (de_var 2) (da_cons de_int (da_cons (de_op o_sub (de_var 1) de_int) da_nil))) (len_cons (len_cons (len_cons len_nil)))) (de_one (de_call (okis_whole Z) (B.room.mono (by decide)) B.gd B.pass Z.g_is_whole Z.F_is_whole.kp Z.b_is_whole (da_cons (de_var 3) (da_cons de_int (da_cons (de_gint Z.r_MOST_NUMBER) da_nil))) (len_cons (len_cons (len_cons len_nil))))))))))))
theorem ok_law_hand (Z : Tops K mg) : FnG P w K mg base 1 Z.a__law_hand Z.d__law_hand ["_law_script", "_law_k"] f_law_hand :=
  fn_ok Z.F__law_hand sc_law_hand fun cdv A outer s H E B => (dss_cons (ds_asg (de_if (dt_cmp o_lt (de_var 1) (de_callB c_len Z.m_len (da_cons (de_var 0) da_nil))) (de_callB c_abs Z.m_abs (da_cons (de_ix (de_var 0) (de_var 1)) da_nil)) de_int) (dg_name sc_law_hand.nd))
  (dss_cons (ds_asg (de_if (dt_cmp o_ge (de_var 2) (de_op o_pow de_int de_int)) (de_op o_mod (de_var 2) (de_op o_mul (de_op o_mul (de_op o_mul (de_op o_pow de_int de_int) (de_op o_pow de_int de_int)) (de_op o_pow de_int de_int)) (de_op o_pow de_int de_int))) de_int) (dg_name sc_law_hand.nd))
  (dss_one (ds_ret (de_new (dl_lst (da_cons (de_var 3) (da_cons (de_op o_mod (de_op o_mul (de_op o_add (de_op o_add (de_op o_mod (de_var 2) de_int) (de_op o_mul (de_op o_mul de_int (de_var 1)) (de_var 1))) de_int) de_int) de_int) (da_cons de_int da_nil)))))))))
theorem ok_law_take (Z : Tops K mg) : FnG P w K mg base 1 Z.a__law_take Z.d__law_take ["_law_hand_here", "_law_many"] f_law_take :=
  exit_ok (fn_ok Z.F__law_take sc_law_take fun cdv A outer s H E B => (dss_cons (ds_if (dt_cmp o_gt (de_ix (de_var 0) de_int) de_int)
  (dss_cons (ds_asg (de_op o_mod (de_ix (de_var 0) de_int) (de_var 1)) (dg_name sc_law_take.nd))
  (dss_cons (ds_asg (de_op o_div (de_ix (de_var 0) de_int) (de_var 1)) (dg_sub (de_var 0) de_int))
  (dss_one (ds_ret (de_var 2)))))
  dss_nil)
  (dss_cons (ds_asg (de_op o_add (de_ix (de_var 0) de_int) de_int) (dg_sub (de_var 0) de_int))
  (dss_cons (ds_asg (de_op o_mod (de_op o_mul (de_op o_add (de_op o_add (de_ix (de_var 0) de_int) (de_op o_mul (de_op o_mul de_int (de_ix (de_var 0) de_int)) (de_ix (de_var 0) de_int))) de_int) de_int) de_int) (dg_name sc_law_take.nd))
  (dss_cons (ds_asg (de_op o_mod (de_op o_mul (de_var 3) (de_op o_add (de_op o_mod (de_var 3) de_int) (de_op o_mul de_int (de_ix (de_var 0) de_int)))) de_int) (dg_name sc_law_take.nd))
  (dss_one (ds_ret (de_op o_mod (de_op o_add (de_op o_div (de_var 3) de_int) (de_op o_div (de_var 3) de_int)) (de_var 1)))))))))
theorem ok_law_whole (Z : Tops K mg) : FnG P w K mg base 1 Z.a__law_whole Z.d__law_whole ["_law_thing", "_law_low", "_law_high"] f_law_whole :=
  exit_ok (fn_ok Z.F__law_whole sc_law_whole fun cdv A outer s H E B => (dss_one (ds_ret (de_and (de_isi (de_var 0) Z.m_isinstance Z.m_int) (de_and (de_not (de_isi (de_var 0) Z.m_isinstance Z.m_bool)) (de_one (de_chain o_le o_le (de_var 1) (de_var 0) (de_var 2))))))))
theorem ok_law_due (Z : Tops K mg) : FnG P w K mg base 2 Z.a__law_due Z.d__law_due ["_law_thing"] f_law_due :=
  exit_ok (fn_ok Z.F__law_due sc_law_due fun cdv A outer s H E B => (dss_cons (ds_if (dt_w (dw_or (dt_not (dt_bl (de_isi (de_var 0) Z.m_isinstance Z.m_tuple))) (dw_or1 (dt_cmp (o_ne B.hu64) (de_callB c_len Z.m_len (da_cons (de_var 0) da_nil)) de_int))))
  (dss_one (ds_ret de_bl))
  dss_nil)
  (dss_cons (ds_if (dt_w (dw_or (dt_not (dt_bl (de_call (ok_law_whole Z) (B.room.mono (by decide)) B.gd B.pass Z.g__law_whole Z.F__law_whole.kp Z.b__law_whole (da_cons (de_ix (de_var 0) de_int) (da_cons de_int (da_cons de_int da_nil))) (len_cons (len_cons (len_cons len_nil)))))) (dw_or1 (dt_not (dt_bl (de_call (ok_law_whole Z) (B.room.mono (by decide)) B.gd B.pass Z.g__law_whole Z.F__law_whole.kp Z.b__law_whole (da_cons (de_ix (de_var 0) de_int) (da_cons de_int (da_cons (de_op o_pow de_int de_int) da_nil))) (len_cons (len_cons (len_cons len_nil)))))))))
  (dss_one (ds_ret de_bl))
  dss_nil)
  (dss_one (ds_ret (de_call (ok_law_whole Z) (B.room.mono (by decide)) B.gd B.pass Z.g__law_whole Z.F__law_whole.kp Z.b__law_whole (da_cons (de_ix (de_var 0) de_int) (da_cons de_int (da_cons (de_op o_sub (de_ix (de_var 0) de_int) de_int) da_nil))) (len_cons (len_cons (len_cons len_nil)))))))))
theorem ok_law_claim (Z : Tops K mg) : FnG P w K mg base 2 Z.a__law_claim Z.d__law_claim ["_law_hand_here"] f_law_claim :=
  exit_ok (fn_ok Z.F__law_claim sc_law_claim fun cdv A outer s H E B => (dss_cons (ds_par3 rfl sc_law_claim.nd (da_cons (de_call (ok_law_take Z) (B.room.mono (by decide)) B.gd B.pass Z.g__law_take Z.F__law_take.kp Z.b__law_take (da_cons (de_var 0) (da_cons de_int da_nil)) (len_cons (len_cons len_nil))) (da_cons (de_call (ok_law_take Z) (B.room.mono (by decide)) B.gd B.pass Z.g__law_take Z.F__law_take.kp Z.b__law_take (da_cons (de_var 0) (da_cons de_int da_nil)) (len_cons (len_cons len_nil))) (da_cons (de_call (ok_law_take Z) (B.room.mono (by decide)) B.gd B.pass Z.g__law_take Z.F__law_take.kp Z.b__law_take (da_cons (de_var 0) (da_cons de_int da_nil)) (len_cons (len_cons len_nil))) da_nil))))
  (dss_cons (ds_asg (de_if (dt_cmp o_lt (de_var 1) de_int) (de_ix (de_frz (dl_lst (da_cons de_int (da_cons de_int (da_cons de_int da_nil))))) (de_var 1)) (de_op o_add de_int (de_call (ok_law_take Z) (B.room.mono (by decide)) B.gd B.pass Z.g__law_take Z.F__law_take.kp Z.b__law_take (da_cons (de_var 0) (da_cons (de_ix (de_frz (dl_lst (da_cons de_int (da_cons de_int da_nil)))) (de_op o_sub (de_var 1) de_int)) da_nil)) (len_cons (len_cons len_nil))))) (dg_name sc_law_claim.nd))
  (dss_cons (ds_asg (de_if (dt_cmp o_lt (de_var 2) de_int) (de_ix (de_frz (dl_lst (da_cons de_int (da_cons (de_op o_sub (de_var 4) de_int) da_nil)))) (de_var 2)) (de_call (ok_law_take Z) (B.room.mono (by decide)) B.gd B.pass Z.g__law_take Z.F__law_take.kp Z.b__law_take (da_cons (de_var 0) (da_cons (de_var 4) da_nil)) (len_cons (len_cons len_nil)))) (dg_name sc_law_claim.nd))
  (dss_one (ds_ret (de_tup (da_cons (de_var 4) (da_cons (de_var 5) (da_cons (de_if (dt_cmp o_lt (de_var 3) de_int) (de_ix (de_frz (dl_lst (da_cons de_int (da_cons (de_op o_pow de_int de_int) da_nil)))) (de_var 3)) (de_op o_add de_int (de_call (ok_law_take Z) (B.room.mono (by decide)) B.gd B.pass Z.g__law_take Z.F__law_take.kp Z.b__law_take (da_cons (de_var 0) (da_cons (de_ix (de_frz (dl_lst (da_cons de_int (da_cons de_int da_nil)))) (de_op o_sub (de_var 3) de_int)) da_nil)) (len_cons (len_cons len_nil))))) da_nil))))))))))
theorem ok_law_deep (Z : Tops K mg) : FnG P w K mg base 1 Z.a__law_deep Z.d__law_deep [] f_law_deep :=
  exit_ok (fn_ok Z.F__law_deep sc_law_deep fun cdv A outer s H E B => (dss_cons (ds_asg (de_tup (da_cons de_int (da_cons de_int (da_cons de_int da_nil)))) (dg_name sc_law_deep.nd))
  (dss_cons (ds_for B.own rfl (di_range1 Z.m_range (da_cons de_int da_nil)) (dg_name sc_law_deep.nd)
  (dss_one (ds_asg (de_tup (da_cons (de_var 0) da_nil)) (dg_name sc_law_deep.nd))))
  (dss_one (ds_ret (de_var 0))))))
theorem ok_law_odd (Z : Tops K mg) : FnG P w K mg base 2 Z.a__law_odd Z.d__law_odd ["_law_hand_here", "_law_claim_here"] f_law_odd :=
  exit_ok (fn_ok Z.F__law_odd sc_law_odd fun cdv A outer s H E B => (dss_cons (ds_asg (de_call (ok_law_take Z) (B.room.mono (by decide)) B.gd B.pass Z.g__law_take Z.F__law_take.kp Z.b__law_take (da_cons (de_var 0) (da_cons de_int da_nil)) (len_cons (len_cons len_nil))) (dg_name sc_law_odd.nd))
  (dss_cons (ds_asg (de_frz (dl_lst (da_cons de_non (da_cons de_bl (da_cons de_bl (da_cons (de_neg de_int) (da_cons de_int (da_cons de_int (da_cons de_int (da_cons (de_ix (de_var 1) de_int) (da_cons (de_op o_add (de_ix (de_var 1) de_int) de_int) (da_cons de_int (da_cons (de_op o_add (de_op o_pow de_int de_int) de_int) (da_cons (de_op o_pow de_int de_int) da_nil)))))))))))))) (dg_name sc_law_odd.nd))
  (dss_one (ds_ret (de_ix (de_frz (dl_cat (de_var 3) (de_frz (dl_lst (da_cons de_str (da_cons de_str (da_cons (de_tup (da_cons de_int da_nil)) (da_cons (de_frz (dl_lst (da_cons de_int da_nil))) (da_cons (de_tup da_nil) (da_cons (de_frz (dl_lst da_nil)) (da_cons de_emp (da_cons (de_call0 (ok_law_deep Z) (B.room.mono (by decide)) B.gd B.pass Z.g__law_deep Z.F__law_deep.kp Z.b__law_deep) da_nil)))))))))))) (de_var 2)))))))
theorem ok_law_otherwise (Z : Tops K mg) : FnG P w K mg base 3 Z.a__law_otherwise Z.d__law_otherwise ["_law_hand_here", "_law_claim_here"] f_law_otherwise :=
  exit_ok (fn_ok Z.F__law_otherwise sc_law_otherwise fun cdv A outer s H E B => (dss_cons (ds_par3 rfl sc_law_otherwise.nd (da_cons (de_call (ok_law_take Z) (B.room.mono (by decide)) B.gd B.pass Z.g__law_take Z.F__law_take.kp Z.b__law_take (da_cons (de_var 0) (da_cons de_int da_nil)) (len_cons (len_cons len_nil))) (da_cons (de_call (ok_law_take Z) (B.room.mono (by decide)) B.gd B.pass Z.g__law_take Z.F__law_take.kp Z.b__law_take (da_cons (de_var 0) (da_cons de_int da_nil)) (len_cons (len_cons len_nil))) (da_cons (de_call (ok_law_take Z) (B.room.mono (by decide)) B.gd B.pass Z.g__law_take Z.F__law_take.kp Z.b__law_take (da_cons (de_var 0) (da_cons de_int da_nil)) (len_cons (len_cons len_nil))) da_nil))))
  (dss_cons (ds_asg (de_call (ok_law_odd Z) (B.room.mono (by decide)) B.gd B.pass Z.g__law_odd Z.F__law_odd.kp Z.b__law_odd (da_cons (de_var 0) (da_cons (de_var 1) da_nil)) (len_cons (len_cons len_nil))) (dg_name sc_law_otherwise.nd))
  (dss_cons (ds_if (dt_cmp o_lt (de_var 2) de_int)
  (dss_one (ds_ret (de_op o_catT (de_op o_catT (de_cut (de_var 1) do_none (do_some (de_var 3))) (de_tup (da_cons (de_var 5) da_nil))) (de_cut (de_var 1) (do_some (de_op o_add (de_var 3) de_int)) do_none))))
  dss_nil)
  (dss_cons (ds_if (dt_cmp (o_eq B.hu64) (de_var 2) de_int)
  (dss_cons (ds_asg (de_new (dl_callT c_list Z.m_list (da_cons (de_var 1) da_nil))) (dg_name sc_law_otherwise.nd))
  (dss_cons (ds_asg (de_tup (da_cons (de_ix (de_var 6) (de_var 4)) (da_cons (de_ix (de_var 6) (de_var 3)) da_nil))) (dg_w (dg_tup rfl (dgs_cons (dg_sub (de_var 6) (de_var 3)) (dgs_cons (dg_sub (de_var 6) (de_var 4)) dgs_nil)))))
  (dss_one (ds_ret (de_callT c_tuple Z.m_tuple (da_cons (de_var 6) da_nil))))))
  dss_nil)
  (dss_cons (ds_asg (de_frz (dl_lst (da_cons (de_op o_catT (de_cut (de_var 1) do_none (do_some (de_var 3))) (de_cut (de_var 1) (do_some (de_op o_add (de_var 3) de_int)) do_none)) (da_cons (de_op o_catT (de_op o_catT (de_cut (de_var 1) do_none (do_some (de_var 3))) (de_tup (da_cons (de_var 5) da_nil))) (de_cut (de_var 1) (do_some (de_var 3)) do_none)) da_nil)))) (dg_name sc_law_otherwise.nd))
  (dss_one (ds_ret (de_ix (de_frz (dl_cat (de_var 7) (de_frz (dl_lst (da_cons (de_ix (de_frz (dl_lst (da_cons (de_frz (dl_callT c_list Z.m_list (da_cons (de_var 1) da_nil))) (da_cons (de_var 5) da_nil)))) (de_op o_mod (de_var 3) de_int)) da_nil))))) (de_op o_sub (de_var 2) de_int))))))))))
theorem ok_law_told (Z : Tops K mg) : FnG P w K mg base 3 Z.a__law_told Z.d__law_told ["_law_thing"] f_law_told :=
  exit_ok (fn_ok Z.F__law_told sc_law_told fun cdv A outer s H E B => (dss_cons (ds_asg (de_callB (c_reprE B.gd B.hu) Z.m_repr (da_cons (de_var 0) da_nil)) (dg_name sc_law_told.nd))
  (dss_cons (ds_asg (de_call (okis_claim Z) (B.room.mono (by decide)) B.gd B.pass Z.g_is_claim Z.F_is_claim.kp Z.b_is_claim (da_cons (de_var 0) da_nil) (len_cons len_nil)) (dg_name sc_law_told.nd))
  (dss_one (ds_ret (de_and (de_isi (de_var 2) Z.m_isinstance Z.m_bool) (de_and (de_cmp (o_eq B.hu64) (de_var 2) (de_call (ok_law_due Z) (B.room.mono (by decide)) B.gd B.pass Z.g__law_due Z.F__law_due.kp Z.b__law_due (da_cons (de_var 0) da_nil) (len_cons len_nil))) (de_one (de_cmp (o_eq B.hu64) (de_callB (c_reprE B.gd B.hu) Z.m_repr (da_cons (de_var 0) da_nil)) (de_var 1))))))))))
theorem oklaw (Z : Tops K mg) : FnG P w K mg base 4 Z.a_law Z.d_law ["_law_script"] flaw :=
  exit_ok (fn_ok Z.F_law sclaw fun cdv A outer s H E B => (dss_cons (ds_for B.own rfl (di_range1 Z.m_range (da_cons (de_callB (c_max2 rfl) Z.m_max (da_cons de_int (da_cons (de_callB (c_min2 rfl) Z.m_min (da_cons (de_callB c_len Z.m_len (da_cons (de_var 0) da_nil)) (da_cons de_int da_nil))) da_nil))) da_nil)) (dg_name sclaw.nd)
  (dss_cons (ds_asg (de_call (ok_law_hand Z) (B.room.mono (by decide)) B.gd B.pass Z.g__law_hand Z.F__law_hand.kp Z.b__law_hand (da_cons (de_var 0) (da_cons (de_var 1) da_nil)) (len_cons (len_cons len_nil))) (dg_name sclaw.nd))
  (dss_one (ds_for B.own rfl (di_range1 Z.m_range (da_cons de_int da_nil)) (dg_name sclaw.nd)
  (dss_cons (ds_asg (de_call (ok_law_claim Z) (B.room.mono (by decide)) B.gd B.pass Z.g__law_claim Z.F__law_claim.kp Z.b__law_claim (da_cons (de_var 2) da_nil) (len_cons len_nil)) (dg_name sclaw.nd))
  (dss_cons (ds_if (dt_w (dw_or (dt_cmp o_notQ (de_call (okis_claim Z) (B.room.mono (by decide)) B.gd B.pass Z.g_is_claim Z.F_is_claim.kp Z.b_is_claim (da_cons (de_var 4) da_nil) (len_cons len_nil)) de_bl) (dw_or1 (dt_not (dt_bl (de_call (ok_law_told Z) (B.room.mono (by decide)) B.gd B.pass Z.g__law_told Z.F__law_told.kp Z.b__law_told (da_cons (de_call (ok_law_otherwise Z) (B.room.mono (by decide)) B.gd B.pass Z.g__law_otherwise Z.F__law_otherwise.kp Z.b__law_otherwise (da_cons (de_var 2) (da_cons (de_var 4) da_nil)) (len_cons (len_cons len_nil))) da_nil) (len_cons len_nil)))))))
  (dss_one (ds_ret de_bl))
  dss_nil)
  (dss_one (ds_if (dt_not (dt_bl (de_call (ok_law_told Z) (B.room.mono (by decide)) B.gd B.pass Z.g__law_told Z.F__law_told.kp Z.b__law_told (da_cons (de_call (ok_law_odd Z) (B.room.mono (by decide)) B.gd B.pass Z.g__law_odd Z.F__law_odd.kp Z.b__law_odd (da_cons (de_var 2) (da_cons (de_var 4) da_nil)) (len_cons (len_cons len_nil))) da_nil) (len_cons len_nil))))
  (dss_one (ds_ret de_bl))
  dss_nil))))))))
  (dss_cons (ds_for B.own rfl (di_seq (de_tup (da_cons (de_tup (da_cons de_int (da_cons de_int (da_cons de_int da_nil)))) (da_cons (de_tup (da_cons de_int (da_cons de_int (da_cons de_int da_nil)))) (da_cons (de_tup (da_cons de_int (da_cons de_int (da_cons de_int da_nil)))) (da_cons (de_tup (da_cons de_int (da_cons de_int (da_cons (de_op o_add (de_op o_pow de_int de_int) de_int) da_nil)))) (da_cons (de_tup (da_cons de_int (da_cons de_int (da_cons de_int da_nil)))) (da_cons (de_tup (da_cons de_int (da_cons de_int (da_cons de_int da_nil)))) da_nil)))))))) (dg_name sclaw.nd)
  (dss_one (ds_if (dt_cmp o_notQ (de_call (okis_claim Z) (B.room.mono (by decide)) B.gd B.pass Z.g_is_claim Z.F_is_claim.kp Z.b_is_claim (da_cons (de_var 5) da_nil) (len_cons len_nil)) de_bl)
  (dss_one (ds_ret de_bl))
  dss_nil)))
  (dss_one (ds_ret (de_and (de_cmp o_isQ (de_call (okis_claim Z) (B.room.mono (by decide)) B.gd B.pass Z.g_is_claim Z.F_is_claim.kp Z.b_is_claim (da_cons (de_tup (da_cons de_int (da_cons de_int (da_cons de_int da_nil)))) da_nil) (len_cons len_nil)) de_bl) (de_one (de_cmp o_isQ (de_call (okis_claim Z) (B.room.mono (by decide)) B.gd B.pass Z.g_is_claim Z.F_is_claim.kp Z.b_is_claim (da_cons (de_tup (da_cons de_int (da_cons de_int (da_cons (de_op o_pow de_int de_int) da_nil)))) da_nil) (len_cons len_nil)) de_bl))))))))
end
theorem lz0 {P : List Value → Prop} (h : P []) : ∀ us : List Value, us.length = 0 → P us
  | [], _ => h
theorem lz1 {P : List Value → Prop} (h : ∀ a0, P [a0]) : ∀ us : List Value, us.length = 1 → P us
  | [a0], _ => h a0
theorem lz2 {P : List Value → Prop} (h : ∀ a0 a1, P [a0, a1]) : ∀ us : List Value, us.length = 2 → P us
  | [a0, a1], _ => h a0 a1
theorem lz3 {P : List Value → Prop} (h : ∀ a0 a1 a2, P [a0, a1, a2]) : ∀ us : List Value, us.length = 3 → P us
  | [a0, a1, a2], _ => h a0 a1 a2
theorem all_mk {l : PySem.W.OpenLaw} {w : World} {K : PySem.W.Frag} {h : Heap} {mg : Str → Option Value} {fa f0 f1 f2 f3 f4 f5 f6 f7 f8 f9 f10 f11 : Addr} (X : K.In h) (G : h.Ns mainGlobals mg) (hfa : mg "law" = some (.ref fa))
    {od0 an0 od1 an1 od2 an2 od3 an3 od4 an4 od5 an5 od6 an6 od7 an7 od8 an8 od9 an9 od10 an10 od11 an11 : Option Addr} {sl0 sl1 sl2 sl3 sl4 sl5 sl6 sl7 sl8 sl9 sl10 sl11 : Array (Option Value)} {oc0 kV0 dc0 pm0 cd0 ct0 oc1 kV1 dc1 pm1 cd1 ct1 oc2 kV2 dc2 pm2 cd2 ct2 oc3 kV3 dc3 pm3 cd3 ct3 oc4 kV4 dc4 pm4 cd4 ct4 oc5 kV5 dc5 pm5 cd5 ct5 oc6 kV6 dc6 pm6 cd6 ct6 oc7 kV7 dc7 pm7 cd7 ct7 oc8 kV8 dc8 pm8 cd8 ct8 oc9 kV9 dc9 pm9 cd9 ct9 oc10 kV10 dc10 pm10 cd10 ct10 oc11 kV11 dc11 pm11 cd11 ct11 : Value}
    (a0 : PySem.W.nsIn K mainGlobals "is_whole" = some (some (.ref f0))) (l0 : K.lookup f0 = some ⟨oc0, od0, .func (PySem.W.fnOf "is_whole" "is_whole" (defArgs sis_whole) (defBody sis_whole) (defScope sis_whole) .none kV0 dc0 pm0 an0 cd0 ct0), sl0⟩) (c0 : PySem.W.codeIn K cd0 "is_whole" = true) (k0 : PySem.W.keepIn K (.ref f0) = true)
    (a1 : PySem.W.nsIn K mainGlobals "is_claim" = some (some (.ref f1))) (l1 : K.lookup f1 = some ⟨oc1, od1, .func (PySem.W.fnOf "is_claim" "is_claim" (defArgs sis_claim) (defBody sis_claim) (defScope sis_claim) .none kV1 dc1 pm1 an1 cd1 ct1), sl1⟩) (c1 : PySem.W.codeIn K cd1 "is_claim" = true) (k1 : PySem.W.keepIn K (.ref f1) = true)
    (a2 : PySem.W.nsIn K mainGlobals "_law_hand" = some (some (.ref f2))) (l2 : K.lookup f2 = some ⟨oc2, od2, .func (PySem.W.fnOf "_law_hand" "_law_hand" (defArgs s_law_hand) (defBody s_law_hand) (defScope s_law_hand) .none kV2 dc2 pm2 an2 cd2 ct2), sl2⟩) (c2 : PySem.W.codeIn K cd2 "_law_hand" = true) (k2 : PySem.W.keepIn K (.ref f2) = true)
    (a3 : PySem.W.nsIn K mainGlobals "_law_take" = some (some (.ref f3))) (l3 : K.lookup f3 = some ⟨oc3, od3, .func (PySem.W.fnOf "_law_take" "_law_take" (defArgs s_law_take) (defBody s_law_take) (defScope s_law_take) .none kV3 dc3 pm3 an3 cd3 ct3), sl3⟩) (c3 : PySem.W.codeIn K cd3 "_law_take" = true) (k3 : PySem.W.keepIn K (.ref f3) = true)
    (a4 : PySem.W.nsIn K mainGlobals "_law_whole" = some (some (.ref f4))) (l4 : K.lookup f4 = some ⟨oc4, od4, .func (PySem.W.fnOf "_law_whole" "_law_whole" (defArgs s_law_whole) (defBody s_law_whole) (defScope s_law_whole) .none kV4 dc4 pm4 an4 cd4 ct4), sl4⟩) (c4 : PySem.W.codeIn K cd4 "_law_whole" = true) (k4 : PySem.W.keepIn K (.ref f4) = true)
    (a5 : PySem.W.nsIn K mainGlobals "_law_due" = some (some (.ref f5))) (l5 : K.lookup f5 = some ⟨oc5, od5, .func (PySem.W.fnOf "_law_due" "_law_due" (defArgs s_law_due) (defBody s_law_due) (defScope s_law_due) .none kV5 dc5 pm5 an5 cd5 ct5), sl5⟩) (c5 : PySem.W.codeIn K cd5 "_law_due" = true) (k5 : PySem.W.keepIn K (.ref f5) = true)
    (a6 : PySem.W.nsIn K mainGlobals "_law_claim" = some (some (.ref f6))) (l6 : K.lookup f6 = some ⟨oc6, od6, .func (PySem.W.fnOf "_law_claim" "_law_claim" (defArgs s_law_claim) (defBody s_law_claim) (defScope s_law_claim) .none kV6 dc6 pm6 an6 cd6 ct6), sl6⟩) (c6 : PySem.W.codeIn K cd6 "_law_claim" = true) (k6 : PySem.W.keepIn K (.ref f6) = true)
    (a7 : PySem.W.nsIn K mainGlobals "_law_deep" = some (some (.ref f7))) (l7 : K.lookup f7 = some ⟨oc7, od7, .func (PySem.W.fnOf "_law_deep" "_law_deep" (defArgs s_law_deep) (defBody s_law_deep) (defScope s_law_deep) .none kV7 dc7 pm7 an7 cd7 ct7), sl7⟩) (c7 : PySem.W.codeIn K cd7 "_law_deep" = true) (k7 : PySem.W.keepIn K (.ref f7) = true)
    (a8 : PySem.W.nsIn K mainGlobals "_law_odd" = some (some (.ref f8))) (l8 : K.lookup f8 = some ⟨oc8, od8, .func (PySem.W.fnOf "_law_odd" "_law_odd" (defArgs s_law_odd) (defBody s_law_odd) (defScope s_law_odd) .none kV8 dc8 pm8 an8 cd8 ct8), sl8⟩) (c8 : PySem.W.codeIn K cd8 "_law_odd" = true) (k8 : PySem.W.keepIn K (.ref f8) = true)
    (a9 : PySem.W.nsIn K mainGlobals "_law_otherwise" = some (some (.ref f9))) (l9 : K.lookup f9 = some ⟨oc9, od9, .func (PySem.W.fnOf "_law_otherwise" "_law_otherwise" (defArgs s_law_otherwise) (defBody s_law_otherwise) (defScope s_law_otherwise) .none kV9 dc9 pm9 an9 cd9 ct9), sl9⟩) (c9 : PySem.W.codeIn K cd9 "_law_otherwise" = true) (k9 : PySem.W.keepIn K (.ref f9) = true)
    (a10 : PySem.W.nsIn K mainGlobals "_law_told" = some (some (.ref f10))) (l10 : K.lookup f10 = some ⟨oc10, od10, .func (PySem.W.fnOf "_law_told" "_law_told" (defArgs s_law_told) (defBody s_law_told) (defScope s_law_told) .none kV10 dc10 pm10 an10 cd10 ct10), sl10⟩) (c10 : PySem.W.codeIn K cd10 "_law_told" = true) (k10 : PySem.W.keepIn K (.ref f10) = true)
    (a11 : PySem.W.nsIn K mainGlobals "law" = some (some (.ref f11))) (l11 : K.lookup f11 = some ⟨oc11, od11, .func (PySem.W.fnOf "law" "law" (defArgs slaw) (defBody slaw) (defScope slaw) .none kV11 dc11 pm11 an11 cd11 ct11), sl11⟩) (c11 : PySem.W.codeIn K cd11 "law" = true) (k11 : PySem.W.keepIn K (.ref f11) = true)
    (z_isinstance : PySem.W.nsIn K mainGlobals "isinstance" = some none)
    (z_int : PySem.W.nsIn K mainGlobals "int" = some none)
    (z_bool : PySem.W.nsIn K mainGlobals "bool" = some none)
    (z_tuple : PySem.W.nsIn K mainGlobals "tuple" = some none)
    (z_len : PySem.W.nsIn K mainGlobals "len" = some none)
    (z_abs : PySem.W.nsIn K mainGlobals "abs" = some none)
    (z_range : PySem.W.nsIn K mainGlobals "range" = some none)
    (z_list : PySem.W.nsIn K mainGlobals "list" = some none)
    (z_repr : PySem.W.nsIn K mainGlobals "repr" = some none)
    (z_max : PySem.W.nsIn K mainGlobals "max" = some none)
    (z_min : PySem.W.nsIn K mainGlobals "min" = some none)
    {tk_MOST_STEP : Nat} {tk_MOST_NUMBER : Nat}
    (rr_MOST_STEP : PySem.W.nsIn K mainGlobals "MOST_STEP" = some (some (.int 600 tk_MOST_STEP)))
    (rr_MOST_NUMBER : PySem.W.nsIn K mainGlobals "MOST_NUMBER" = some (some (.int 1000000 tk_MOST_NUMBER)))
    : ∃ fd : FuncData, (∀ (s : Shared) (v : Value), BindsTo s fd ⟨[v], []⟩ [("_law_script", v)]) ∧ ∀ base : Heap, K.In base → base.Ns mainGlobals mg → FnG l.prog w K mg base 4 fa fd ["_law_script"] flaw := by
  have e := hfa.symm.trans (PySem.W.mg_of X G a11)
  cases e
  have F0 := fun_mk (st := sis_whole) l0 c0 k0
  have F1 := fun_mk (st := sis_claim) l1 c1 k1
  have F2 := fun_mk (st := s_law_hand) l2 c2 k2
  have F3 := fun_mk (st := s_law_take) l3 c3 k3
  have F4 := fun_mk (st := s_law_whole) l4 c4 k4
  have F5 := fun_mk (st := s_law_due) l5 c5 k5
  have F6 := fun_mk (st := s_law_claim) l6 c6 k6
  have F7 := fun_mk (st := s_law_deep) l7 c7 k7
  have F8 := fun_mk (st := s_law_odd) l8 c8 k8
  have F9 := fun_mk (st := s_law_otherwise) l9 c9 k9
  have F10 := fun_mk (st := s_law_told) l10 c10 k10
  have F11 := fun_mk (st := slaw) l11 c11 k11
  exact ⟨_, fun s v => .of_eq rfl, fun base _ _ => oklaw (Z := {
    a_is_whole := _, d_is_whole := _, F_is_whole := F0, g_is_whole := PySem.W.mg_of X G a0, b_is_whole := F0.binds (ps := ["thing", "low", "high"]) fun _ _ _ _ _ _ us hl => by revert us hl; refine lz3 ?_; intros; rfl,
    a_is_claim := _, d_is_claim := _, F_is_claim := F1, g_is_claim := PySem.W.mg_of X G a1, b_is_claim := F1.binds (ps := ["thing"]) fun _ _ _ _ _ _ us hl => by revert us hl; refine lz1 ?_; intros; rfl,
    a__law_hand := _, d__law_hand := _, F__law_hand := F2, g__law_hand := PySem.W.mg_of X G a2, b__law_hand := F2.binds (ps := ["_law_script", "_law_k"]) fun _ _ _ _ _ _ us hl => by revert us hl; refine lz2 ?_; intros; rfl,
    a__law_take := _, d__law_take := _, F__law_take := F3, g__law_take := PySem.W.mg_of X G a3, b__law_take := F3.binds (ps := ["_law_hand_here", "_law_many"]) fun _ _ _ _ _ _ us hl => by revert us hl; refine lz2 ?_; intros; rfl,
    a__law_whole := _, d__law_whole := _, F__law_whole := F4, g__law_whole := PySem.W.mg_of X G a4, b__law_whole := F4.binds (ps := ["_law_thing", "_law_low", "_law_high"]) fun _ _ _ _ _ _ us hl => by revert us hl; refine lz3 ?_; intros; rfl,
    a__law_due := _, d__law_due := _, F__law_due := F5, g__law_due := PySem.W.mg_of X G a5, b__law_due := F5.binds (ps := ["_law_thing"]) fun _ _ _ _ _ _ us hl => by revert us hl; refine lz1 ?_; intros; rfl,
    a__law_claim := _, d__law_claim := _, F__law_claim := F6, g__law_claim := PySem.W.mg_of X G a6, b__law_claim := F6.binds (ps := ["_law_hand_here"]) fun _ _ _ _ _ _ us hl => by revert us hl; refine lz1 ?_; intros; rfl,
    a__law_deep := _, d__law_deep := _, F__law_deep := F7, g__law_deep := PySem.W.mg_of X G a7, b__law_deep := F7.binds (ps := []) fun _ _ _ _ _ _ us hl => by revert us hl; refine lz0 ?_; intros; rfl,
    a__law_odd := _, d__law_odd := _, F__law_odd := F8, g__law_odd := PySem.W.mg_of X G a8, b__law_odd := F8.binds (ps := ["_law_hand_here", "_law_claim_here"]) fun _ _ _ _ _ _ us hl => by revert us hl; refine lz2 ?_; intros; rfl,
    a__law_otherwise := _, d__law_otherwise := _, F__law_otherwise := F9, g__law_otherwise := PySem.W.mg_of X G a9, b__law_otherwise := F9.binds (ps := ["_law_hand_here", "_law_claim_here"]) fun _ _ _ _ _ _ us hl => by revert us hl; refine lz2 ?_; intros; rfl,
    a__law_told := _, d__law_told := _, F__law_told := F10, g__law_told := PySem.W.mg_of X G a10, b__law_told := F10.binds (ps := ["_law_thing"]) fun _ _ _ _ _ _ us hl => by revert us hl; refine lz1 ?_; intros; rfl,
    a_law := _, d_law := _, F_law := F11, g_law := PySem.W.mg_of X G a11, b_law := F11.binds (ps := ["_law_script"]) fun _ _ _ _ _ _ us hl => by revert us hl; refine lz1 ?_; intros; rfl,
    m_isinstance := PySem.W.mg_none_of X G z_isinstance,
    m_int := PySem.W.mg_none_of X G z_int,
    m_bool := PySem.W.mg_none_of X G z_bool,
    m_tuple := PySem.W.mg_none_of X G z_tuple,
    m_len := PySem.W.mg_none_of X G z_len,
    m_abs := PySem.W.mg_none_of X G z_abs,
    m_range := PySem.W.mg_none_of X G z_range,
    m_list := PySem.W.mg_none_of X G z_list,
    m_repr := PySem.W.mg_none_of X G z_repr,
    m_max := PySem.W.mg_none_of X G z_max,
    m_min := PySem.W.mg_none_of X G z_min,
    tk_MOST_STEP := _, r_MOST_STEP := PySem.W.mg_of X G rr_MOST_STEP,
    tk_MOST_NUMBER := _, r_MOST_NUMBER := PySem.W.mg_of X G rr_MOST_NUMBER })⟩
end Lk26
namespace Lk26
open PySem PySem.Spec PyProof.Rows L2 Vi
theorem all_hd {l : PySem.W.OpenLaw} {w : World} {K : PySem.W.Frag} {h : Heap} {mg : Str → Option Value} {fa : Addr} (X : K.In h) (G : h.Ns mainGlobals mg) (hfa : mg "law" = some (.ref fa)) (c : SaysH hdFa hdFn hdTs hdBs w K)
    : ∃ fd : FuncData, (∀ (s : Shared) (v : Value), BindsTo s fd ⟨[v], []⟩ [("_law_script", v)]) ∧ ∀ base : Heap, K.In base → base.Ns mainGlobals mg → FnG l.prog w K mg base 4 fa fd ["_law_script"] flaw := by
  obtain ⟨oc0, od0, sl0, kV0, dc0, pm0, an0, cd0, ct0, l0, c0, k0⟩ := c.f 0 (st := sis_whole) rfl
  obtain ⟨oc1, od1, sl1, kV1, dc1, pm1, an1, cd1, ct1, l1, c1, k1⟩ := c.f 1 (st := sis_claim) rfl
  obtain ⟨oc2, od2, sl2, kV2, dc2, pm2, an2, cd2, ct2, l2, c2, k2⟩ := c.f 2 (st := s_law_hand) rfl
  obtain ⟨oc3, od3, sl3, kV3, dc3, pm3, an3, cd3, ct3, l3, c3, k3⟩ := c.f 3 (st := s_law_take) rfl
  obtain ⟨oc4, od4, sl4, kV4, dc4, pm4, an4, cd4, ct4, l4, c4, k4⟩ := c.f 4 (st := s_law_whole) rfl
  obtain ⟨oc5, od5, sl5, kV5, dc5, pm5, an5, cd5, ct5, l5, c5, k5⟩ := c.f 5 (st := s_law_due) rfl
  obtain ⟨oc6, od6, sl6, kV6, dc6, pm6, an6, cd6, ct6, l6, c6, k6⟩ := c.f 6 (st := s_law_claim) rfl
  obtain ⟨oc7, od7, sl7, kV7, dc7, pm7, an7, cd7, ct7, l7, c7, k7⟩ := c.f 7 (st := s_law_deep) rfl
  obtain ⟨oc8, od8, sl8, kV8, dc8, pm8, an8, cd8, ct8, l8, c8, k8⟩ := c.f 8 (st := s_law_odd) rfl
  obtain ⟨oc9, od9, sl9, kV9, dc9, pm9, an9, cd9, ct9, l9, c9, k9⟩ := c.f 9 (st := s_law_otherwise) rfl
  obtain ⟨oc10, od10, sl10, kV10, dc10, pm10, an10, cd10, ct10, l10, c10, k10⟩ := c.f 10 (st := s_law_told) rfl
  obtain ⟨oc11, od11, sl11, kV11, dc11, pm11, an11, cd11, ct11, l11, c11, k11⟩ := c.f 11 (st := slaw) rfl
  obtain ⟨tk_MOST_STEP, rr_MOST_STEP⟩ := c.i 0 rfl
  obtain ⟨tk_MOST_NUMBER, rr_MOST_NUMBER⟩ := c.i 1 rfl
  exact all_mk (f0 := (He.fAd K ("is_whole", none))) (f1 := (He.fAd K ("is_claim", none))) (f2 := (He.fAd K ("_law_hand", none))) (f3 := (He.fAd K ("_law_take", none))) (f4 := (He.fAd K ("_law_whole", none))) (f5 := (He.fAd K ("_law_due", none))) (f6 := (He.fAd K ("_law_claim", none))) (f7 := (He.fAd K ("_law_deep", none))) (f8 := (He.fAd K ("_law_odd", none))) (f9 := (He.fAd K ("_law_otherwise", none))) (f10 := (He.fAd K ("_law_told", none))) (f11 := (He.fAd K ("law", none))) X G hfa (c.b 0 rfl rfl) l0 c0 k0 (c.b 1 rfl rfl) l1 c1 k1 (c.b 2 rfl rfl) l2 c2 k2 (c.b 3 rfl rfl) l3 c3 k3 (c.b 4 rfl rfl) l4 c4 k4 (c.b 5 rfl rfl) l5 c5 k5 (c.b 6 rfl rfl) l6 c6 k6 (c.b 7 rfl rfl) l7 c7 k7 (c.b 8 rfl rfl) l8 c8 k8 (c.b 9 rfl rfl) l9 c9 k9 (c.b 10 rfl rfl) l10 c10 k10 (c.b 11 rfl rfl) l11 c11 k11 (c.b 12 rfl rfl) (c.b 13 rfl rfl) (c.b 14 rfl rfl) (c.b 15 rfl rfl) (c.b 16 rfl rfl) (c.b 17 rfl rfl) (c.b 18 rfl rfl) (c.b 19 rfl rfl) (c.b 20 rfl rfl) (c.b 21 rfl rfl) (c.b 22 rfl rfl) rr_MOST_STEP rr_MOST_NUMBER
end Lk26
namespace Vi
open PySem PySem.Spec PyProof.Rows L2
inductive T where
  | lst (xs : List D) | lls (ts : List T) | dic (kvs : List (Key × D)) | dct (kvs : List (List Key × D)) | leaf (d : D)
mutual
inductive Has (m : M) : List Nat → D → T → Prop
  | lst {n : Nat} {xs : List D} : m[n]? = some (.lst xs) → noRefs xs = true → Has m [n] (.ref n) (.lst xs)
  | dic {n : Nat} {xs : List (Key × D)} : m[n]? = some (.dic xs) → noKV xs = true → Has m [n] (.ref n) (.dic xs)
  | dct {n : Nat} {xs : List (List Key × D)} : m[n]? = some (.dct xs) → noKV xs = true → Has m [n] (.ref n) (.dct xs)
  | leaf {d : D} : noRef d = true → Has m [] d (.leaf d)
  | lls {n : Nat} {ds : List D} {A : List Nat} {ts : List T} : m[n]? = some (.lst ds) → HasL m A ds ts → n ∉ A → Has m (n :: A) (.ref n) (.lls ts)
inductive HasL (m : M) : List Nat → List D → List T → Prop
  | nil : HasL m [] [] []
  | cons {A B : List Nat} {d : D} {ds : List D} {t : T} {ts : List T} : Has m A d t → HasL m B ds ts → (∀ a ∈ A, a ∉ B) → HasL m (A ++ B) (d :: ds) (t :: ts)
end
mutual
theorem Has.frame {m m' : M} : ∀ {A : List Nat} {d : D} {t : T}, Has m A d t → (∀ a ∈ A, m'[a]? = m[a]?) → Has m' A d t
  | _, _, _, .lst h n, f => .lst (by rw [f _ (List.mem_singleton.mpr rfl)]; exact h) n
  | _, _, _, .dic h n, f => .dic (by rw [f _ (List.mem_singleton.mpr rfl)]; exact h) n
  | _, _, _, .dct h n, f => .dct (by rw [f _ (List.mem_singleton.mpr rfl)]; exact h) n
  | _, _, _, .leaf h, _ => .leaf h
  | _, _, _, .lls h l n, f => .lls (by rw [f _ (List.mem_cons_self ..)]; exact h) (HasL.frame l fun a ha => f a (List.mem_cons_of_mem _ ha)) n
theorem HasL.frame {m m' : M} : ∀ {A : List Nat} {ds : List D} {ts : List T}, HasL m A ds ts → (∀ a ∈ A, m'[a]? = m[a]?) → HasL m' A ds ts
  | _, _, _, .nil, _ => .nil
  | _, _, _, .cons h l n, f => .cons (Has.frame h fun a ha => f a (List.mem_append_left _ ha)) (HasL.frame l fun a ha => f a (List.mem_append_right _ ha)) n
end
mutual
theorem Has.lt {m : M} : ∀ {A : List Nat} {d : D} {t : T}, Has m A d t → ∀ a ∈ A, a < m.length
  | _, _, _, .lst h _, a, ha => by rw [List.mem_singleton.mp ha]; exact (List.getElem?_eq_some_iff.mp h).1
  | _, _, _, .dic h _, a, ha => by rw [List.mem_singleton.mp ha]; exact (List.getElem?_eq_some_iff.mp h).1
  | _, _, _, .dct h _, a, ha => by rw [List.mem_singleton.mp ha]; exact (List.getElem?_eq_some_iff.mp h).1
  | _, _, _, .leaf _, a, ha => by cases ha
  | _, _, _, .lls h l _, a, ha => by
    rcases List.mem_cons.mp ha with e | e
    · rw [e]; exact (List.getElem?_eq_some_iff.mp h).1
    · exact HasL.lt l a e
theorem HasL.lt {m : M} : ∀ {A : List Nat} {ds : List D} {ts : List T}, HasL m A ds ts → ∀ a ∈ A, a < m.length
  | _, _, _, .nil, _, ha => by cases ha
  | _, _, _, .cons h l _, a, ha => by
    rcases List.mem_append.mp ha with e | e
    · exact Has.lt h a e
    · exact HasL.lt l a e
end
mutual
theorem Has.low {m : M} {n : Nat} : ∀ {A : List Nat} {d : D} {t : T}, Has m A d t → (∀ a ∈ A, a < n) → lowD n d = true ∧ ∀ a ∈ A, ∀ c, m[a]? = some c → lowC n c = true
  | _, _, _, .lst h hx, hA => ⟨by simpa [lowD] using hA _ (List.mem_singleton.mpr rfl), fun a ha c hc => by
    rw [List.mem_singleton.mp ha, h] at hc; cases hc; exact lows_no hx⟩
  | _, _, _, .dic h hx, hA => ⟨by simpa [lowD] using hA _ (List.mem_singleton.mpr rfl), fun a ha c hc => by
    rw [List.mem_singleton.mp ha, h] at hc; cases hc; exact hx⟩
  | _, _, _, .dct h hx, hA => ⟨by simpa [lowD] using hA _ (List.mem_singleton.mpr rfl), fun a ha c hc => by
    rw [List.mem_singleton.mp ha, h] at hc; cases hc; exact hx⟩
  | _, _, _, .leaf h, _ => ⟨low_no h, fun a ha => by cases ha⟩
  | _, _, _, .lls h l _, hA => by
    obtain ⟨q1, q2⟩ := HasL.low l fun a ha => hA a (List.mem_cons_of_mem _ ha)
    refine ⟨by simpa [lowD] using hA _ (List.mem_cons_self ..), fun a ha c hc => ?_⟩
    rcases List.mem_cons.mp ha with e | e
    · rw [e, h] at hc; cases hc; exact q1
    · exact q2 a e c hc
theorem HasL.low {m : M} {n : Nat} : ∀ {A : List Nat} {ds : List D} {ts : List T}, HasL m A ds ts → (∀ a ∈ A, a < n) → lowDs n ds = true ∧ ∀ a ∈ A, ∀ c, m[a]? = some c → lowC n c = true
  | _, _, _, .nil, _ => ⟨rfl, fun a ha => by cases ha⟩
  | _, _, _, .cons h l _, hA => by
    obtain ⟨p1, p2⟩ := Has.low h fun a ha => hA a (List.mem_append_left _ ha)
    obtain ⟨q1, q2⟩ := HasL.low l fun a ha => hA a (List.mem_append_right _ ha)
    refine ⟨by simp only [lowDs, p1, q1, Bool.and_self], fun a ha c hc => ?_⟩
    rcases List.mem_append.mp ha with e | e
    · exact p2 a e c hc
    · exact q2 a e c hc
end
inductive S where
  | v (d : D) | o (t : T) | p (k : Nat) (t : T)
abbrev Ga := List (Option S)
def lk : Ga → Nat → Option S
  | [], _ => none
  | x :: _, 0 => x
  | _ :: r, n + 1 => lk r n
def put : Ga → Nat → Option S → Ga
  | [], _, _ => []
  | _ :: r, 0, s => s :: r
  | x :: r, n + 1, s => x :: put r n s
theorem lk_put_ne : ∀ {Γ : Ga} {i j : Nat} {s : Option S}, i ≠ j → lk (put Γ i s) j = lk Γ j
  | [], _, _, _, _ => rfl
  | _ :: _, 0, 0, _, h => absurd rfl h
  | _ :: _, 0, _ + 1, _, _ => rfl
  | _ :: _, _ + 1, 0, _, _ => rfl
  | _ :: r, i + 1, j + 1, s, h => lk_put_ne (Γ := r) fun e => h (by rw [e])
theorem lk_put_eq : ∀ {Γ : Ga} {i : Nat} {s : Option S} {x : S}, lk (put Γ i s) i = some x → s = some x ∧ i < Γ.length
  | [], _, _, _, h => by cases h
  | _ :: _, 0, _, _, h => ⟨h, Nat.succ_pos _⟩
  | _ :: r, i + 1, s, x, h => by
    obtain ⟨a, b⟩ := lk_put_eq (Γ := r) (i := i) h
    exact ⟨a, Nat.succ_lt_succ b⟩
theorem put_len : ∀ (Γ : Ga) (i : Nat) (s : Option S), (put Γ i s).length = Γ.length
  | [], _, _ => rfl
  | _ :: _, 0, _ => rfl
  | _ :: r, i + 1, s => by simp [put, put_len r i s]
theorem lk_lt : ∀ {Γ : Ga} {i : Nat} {x : S}, lk Γ i = some x → i < Γ.length
  | [], _, _, h => by cases h
  | _ :: _, 0, _, _ => Nat.succ_pos _
  | _ :: r, i + 1, x, h => Nat.succ_lt_succ (lk_lt (Γ := r) h)
abbrev Ps := List (List Nat × D)
structure PD (b : M) (P : Ps) : Prop where
  lt : ∀ (k : Nat) (A : List Nat) (d : D), P[k]? = some (A, d) → ∀ a ∈ A, a < b.length
  dj : ∀ (k l : Nat) (A B : List Nat) (d e : D), k ≠ l → P[k]? = some (A, d) → P[l]? = some (B, e) → ∀ a ∈ A, a ∉ B
structure Fr (b : M) (P : Ps) (m : M) : Prop where
  len : b.length ≤ m.length
  old : ∀ (j : Nat) (c : Cell), j < b.length → m[j]? = some c → b[j]? = some c ∨ (∃ (k : Nat) (A : List Nat) (d : D), P[k]? = some (A, d) ∧ j ∈ A) ∧ lowC b.length c = true
structure Rel (b : M) (P : Ps) (Γ : Ga) (ρ : En) (m : M) : Prop where
  len : ρ.length = Γ.length
  v : ∀ (i : Nat) (d : D), lk Γ i = some (.v d) → ρ[i]? = some (some d) ∧ noRef d = true
  o : ∃ As : Nat → List Nat, (∀ (i : Nat) (t : T), lk Γ i = some (.o t) → ∃ d : D, ρ[i]? = some (some d) ∧ Has m (As i) d t ∧ ∀ a ∈ As i, b.length ≤ a) ∧
    ∀ (i j : Nat) (t u : T), i ≠ j → lk Γ i = some (.o t) → lk Γ j = some (.o u) → ∀ a ∈ As i, a ∉ As j
  p : ∀ (i k : Nat) (t : T), lk Γ i = some (.p k t) → ∃ (A : List Nat) (d : D), P[k]? = some (A, d) ∧ ρ[i]? = some (some d) ∧ Has m A d t
  pi : ∀ (i j k : Nat) (t u : T), lk Γ i = some (.p k t) → lk Γ j = some (.p k u) → i = j
  fr : Fr b P m
  pd : PD b P
section
variable {b : M} {P : Ps} {Γ Γ' : Ga} {ρ : En} {m m' : M}
theorem set_get {ρ : En} {i j : Nat} {x : Option D} (h : i ≠ j) : (ρ.set i x)[j]? = ρ[j]? := List.getElem?_set_ne h
theorem Rel.put_v (r : Rel b P Γ ρ m) (i : Nat) {d : D} (hd : noRef d = true) : Rel b P (put Γ i (some (.v d))) (ρ.set i (some d)) m := by
  obtain ⟨As, h1, h2⟩ := r.o
  refine ⟨by rw [List.length_set, put_len, r.len], fun j e h => ?_, ⟨As, fun j t h => ?_, fun j k t u hn h h' => ?_⟩, fun j k t h => ?_, fun j l k t u h h' => ?_, r.fr, r.pd⟩
  all_goals by_cases hj : i = j
  all_goals try subst hj
  · obtain ⟨q, hl⟩ := lk_put_eq h
    cases q
    exact ⟨List.getElem?_set_self (by rw [r.len]; exact hl), hd⟩
  · rw [lk_put_ne hj] at h
    rw [set_get hj]; exact r.v j e h
  · have := (lk_put_eq h).1; cases this
  · rw [lk_put_ne hj] at h
    rw [set_get hj]; exact h1 j t h
  · have := (lk_put_eq h).1; cases this
  · rw [lk_put_ne hj] at h
    by_cases hk : i = k
    · subst hk; have := (lk_put_eq h').1; cases this
    · rw [lk_put_ne hk] at h'; exact h2 j k t u hn h h'
  · have := (lk_put_eq h).1; cases this
  · rw [lk_put_ne hj] at h
    rw [set_get hj]; exact r.p j k t h
  · have := (lk_put_eq h).1; cases this
  · rw [lk_put_ne hj] at h
    by_cases hk : i = l
    · subst hk; have := (lk_put_eq h').1; cases this
    · rw [lk_put_ne hk] at h'; exact r.pi j l k t u h h'
theorem Rel.put_o (r : Rel b P Γ ρ m) (i : Nat) {m' : M} {A : List Nat} {d : D} {t : T} (hl : m.length ≤ m'.length) (hs : ∀ j, j < m.length → m'[j]? = m[j]?) (h : Has m' A d t) (hA : ∀ a ∈ A, m.length ≤ a) :
    Rel b P (put Γ i (some (.o t))) (ρ.set i (some d)) m' := by
  obtain ⟨As, h1, h2⟩ := r.o
  refine ⟨by rw [List.length_set, put_len, r.len], fun j e h => ?_, ⟨fun j => if j = i then A else As j, fun j t h => ?_, fun j k t u hn h h' => ?_⟩, fun j k t h => ?_, fun j l k t u h h' => ?_, ⟨Nat.le_trans r.fr.len hl, fun j c hj hc => ?_⟩, r.pd⟩
  · by_cases hj : i = j
    · subst hj; have := (lk_put_eq h).1; cases this
    · rw [lk_put_ne hj] at h
      rw [set_get hj]; exact r.v j e h
  · by_cases hj : i = j
    · subst hj
      obtain ⟨q, hl'⟩ := lk_put_eq h
      cases q
      exact ⟨d, List.getElem?_set_self (by rw [r.len]; exact hl'), by simpa using ‹Has m' A d t›, by simp only [if_true]; exact fun a ha => Nat.le_trans r.fr.len (hA a ha)⟩
    · rw [lk_put_ne hj] at h
      obtain ⟨e, q1, q2, q3⟩ := h1 j t h
      simp only [if_neg (Ne.symm hj)]
      exact ⟨e, by rw [set_get hj]; exact q1, q2.frame fun a ha => hs a (q2.lt a ha), q3⟩
  · by_cases hj : i = j
    · subst hj
      rw [lk_put_ne hn] at h'
      obtain ⟨e, q1, q2, q3⟩ := h1 k u h'
      simp only [if_true, if_neg (Ne.symm hn)]
      intro a ha hk
      have := q2.lt a hk
      have := hA a ha
      omega
    · rw [lk_put_ne hj] at h
      by_cases hk : i = k
      · subst hk
        obtain ⟨e, q1, q2, q3⟩ := h1 j t h
        simp only [if_true, if_neg hn]
        intro a ha hk
        have := q2.lt a ha
        have := hA a hk
        omega
      · rw [lk_put_ne hk] at h'
        simp only [if_neg (Ne.symm hj), if_neg (Ne.symm hk)]
        exact h2 j k t u hn h h'
  · by_cases hj : i = j
    · subst hj; have := (lk_put_eq h).1; cases this
    · rw [lk_put_ne hj] at h
      obtain ⟨B, e, q1, q2, q3⟩ := r.p j k t h
      exact ⟨B, e, q1, by rw [set_get hj]; exact q2, q3.frame fun a ha => hs a (q3.lt a ha)⟩
  · by_cases hj : i = j
    · subst hj; have := (lk_put_eq h).1; cases this
    · rw [lk_put_ne hj] at h
      by_cases hk : i = l
      · subst hk; have := (lk_put_eq h').1; cases this
      · rw [lk_put_ne hk] at h'; exact r.pi j l k t u h h'
  · rw [hs j (Nat.lt_of_lt_of_le hj r.fr.len)] at hc
    exact r.fr.old j c hj hc
def Wk : Ga → Ga → Prop
  | [], [] => True
  | _ :: xs, none :: ys => Wk xs ys
  | x :: xs, some s :: ys => x = some s ∧ Wk xs ys
  | _, _ => False
def hd' : Ga → Option S
  | [] => none
  | x :: _ => x
def tl' : Ga → Ga
  | [] => []
  | _ :: r => r
def isC : Ga → Bool
  | [] => false
  | _ :: _ => true
theorem wk_nil {Γ : Ga} (h : isC Γ = false) : Wk Γ [] := by
  cases Γ with
  | nil => trivial
  | cons _ _ => cases h
theorem wk_n {Γ ys : Ga} (c : isC Γ = true) (h : Wk (tl' Γ) ys) : Wk Γ (none :: ys) := by
  cases Γ with
  | nil => cases c
  | cons _ _ => exact h
theorem wk_s {Γ ys : Ga} {s : S} (c : hd' Γ = some s) (h : Wk (tl' Γ) ys) : Wk Γ (some s :: ys) := by
  cases Γ with
  | nil => cases c
  | cons _ _ => exact ⟨c, h⟩
theorem Wk.refl : ∀ Γ : Ga, Wk Γ Γ
  | [] => trivial
  | none :: r => Wk.refl r
  | some s :: r => ⟨rfl, Wk.refl r⟩
theorem Wk.len : ∀ {Γ Γ' : Ga}, Wk Γ Γ' → Γ.length = Γ'.length
  | [], [], _ => rfl
  | _ :: xs, none :: ys, h => by simp [Wk.len (Γ := xs) (Γ' := ys) h]
  | _ :: xs, some _ :: ys, h => by simp [Wk.len (Γ := xs) (Γ' := ys) h.2]
  | [], _ :: _, h => h.elim
  | _ :: _, [], h => h.elim
theorem Wk.lk : ∀ {Γ Γ' : Ga} {i : Nat} {s : S}, Wk Γ Γ' → lk Γ' i = some s → lk Γ i = some s
  | [], [], _, _, _, e => e
  | _ :: xs, none :: ys, 0, _, _, e => by cases e
  | _ :: xs, none :: ys, i + 1, s, h, e => Wk.lk (Γ := xs) (Γ' := ys) (i := i) h e
  | _ :: xs, some _ :: ys, 0, _, h, e => by rw [h.1]; exact e
  | _ :: xs, some _ :: ys, i + 1, s, h, e => Wk.lk (Γ := xs) (Γ' := ys) (i := i) h.2 e
  | [], _ :: _, _, _, h, _ => h.elim
  | _ :: _, [], _, _, h, _ => h.elim
theorem Rel.wk (r : Rel b P Γ ρ m) (w : Wk Γ Γ') : Rel b P Γ' ρ m := by
  obtain ⟨As, h1, h2⟩ := r.o
  exact ⟨by rw [← w.len]; exact r.len, fun i d h => r.v i d (w.lk h), ⟨As, fun i t h => h1 i t (w.lk h), fun i j t u hn h h' => h2 i j t u hn (w.lk h) (w.lk h')⟩,
    fun i k t h => r.p i k t (w.lk h), fun i j k t u h h' => r.pi i j k t u (w.lk h) (w.lk h'), r.fr, r.pd⟩
def treeOf : S → Option T
  | .v _ => none
  | .o t => some t
  | .p _ t => some t
def asTree (s : S) (t : T) : S := match s with
  | .v d => .v d
  | .o _ => .o t
  | .p k _ => .p k t
structure Chg (A : List Nat) (m m' : M) : Prop where
  len : m'.length = m.length
  out : ∀ j, j ∉ A → m'[j]? = m[j]?
theorem Rel.tree (r : Rel b P Γ ρ m) {i : Nat} {s : S} {t : T} (h : lk Γ i = some s) (ht : treeOf s = some t) : ∃ A d, ρ[i]? = some (some d) ∧ Has m A d t ∧
    ∀ (m' : M) (t' : T), Chg A m m' → Has m' A d t' → Rel b P (put Γ i (some (asTree s t'))) ρ m' := by
  obtain ⟨As, h1, h2⟩ := r.o
  have hi := lk_lt h
  have key : ∀ j s', Vi.lk (put Γ i (some s)) j = some s' → Vi.lk Γ j = some s' := fun j s' e => by
    by_cases hj : i = j
    · subst hj; obtain ⟨q, _⟩ := lk_put_eq e; cases q; exact h
    · rwa [lk_put_ne hj] at e
  cases s with
  | v d => cases ht
  | o t0 =>
    cases ht
    obtain ⟨d, q1, q2, q3⟩ := h1 i t h
    refine ⟨As i, d, q1, q2, fun m' t' c hm => ⟨by rw [put_len, r.len], fun j e hj => ?_, ⟨As, fun j u hj => ?_, fun j k u w hn hj hk => ?_⟩, fun j k u hj => ?_, fun j l k u w hj hl => ?_, ⟨by rw [c.len]; exact r.fr.len, fun j x hj hx => ?_⟩, r.pd⟩⟩
    · by_cases z : i = j
      · subst z; have := (lk_put_eq hj).1; cases this
      · rw [lk_put_ne z] at hj; exact r.v j e hj
    · by_cases z : i = j
      · subst z; obtain ⟨q, _⟩ := lk_put_eq hj; cases q; exact ⟨d, q1, hm, q3⟩
      · rw [lk_put_ne z] at hj
        obtain ⟨e, p1, p2, p3⟩ := h1 j u hj
        exact ⟨e, p1, p2.frame fun a ha => c.out a fun ha' => h2 i j _ _ z h hj a ha' ha, p3⟩
    · have oj : ∃ u', Vi.lk Γ j = some (.o u') := by
        by_cases z : i = j
        · subst z; exact ⟨_, h⟩
        · rw [lk_put_ne z] at hj; exact ⟨_, hj⟩
      have ok : ∃ u', Vi.lk Γ k = some (.o u') := by
        by_cases z : i = k
        · subst z; exact ⟨_, h⟩
        · rw [lk_put_ne z] at hk; exact ⟨_, hk⟩
      exact h2 j k _ _ hn oj.choose_spec ok.choose_spec
    · by_cases z : i = j
      · subst z; have := (lk_put_eq hj).1; cases this
      · rw [lk_put_ne z] at hj
        obtain ⟨B, e, p1, p2, p3⟩ := r.p j k u hj
        exact ⟨B, e, p1, p2, p3.frame fun a ha => c.out a fun ha' => by have := r.pd.lt k B e p1 a ha; have := q3 a ha'; omega⟩
    · have e1 : i ≠ j := fun z => by subst z; have := (lk_put_eq hj).1; cases this
      have e2 : i ≠ l := fun z => by subst z; have := (lk_put_eq hl).1; cases this
      rw [lk_put_ne e1] at hj
      rw [lk_put_ne e2] at hl
      exact r.pi j l k u w hj hl
    · by_cases z : j ∈ As i
      · have := q3 j z; omega
      · rw [c.out j z] at hx; exact r.fr.old j x hj hx
  | p k0 t0 =>
    cases ht
    obtain ⟨A, d, q0, q1, q2⟩ := r.p i k0 t h
    refine ⟨A, d, q1, q2, fun m' t' c hm => ⟨by rw [put_len, r.len], fun j e hj => ?_, ⟨As, fun j u hj => ?_, fun j k u w hn hj hk => ?_⟩, fun j k u hj => ?_, fun j l k u w hj hl => ?_, ⟨by rw [c.len]; exact r.fr.len, fun j x hj hx => ?_⟩, r.pd⟩⟩
    · by_cases z : i = j
      · subst z; have := (lk_put_eq hj).1; cases this
      · rw [lk_put_ne z] at hj; exact r.v j e hj
    · by_cases z : i = j
      · subst z; have := (lk_put_eq hj).1; cases this
      · rw [lk_put_ne z] at hj
        obtain ⟨e, p1, p2, p3⟩ := h1 j u hj
        exact ⟨e, p1, p2.frame fun a ha => c.out a fun ha' => by have := r.pd.lt k0 A d q0 a ha'; have := p3 a ha; omega, p3⟩
    · have e1 : i ≠ j := fun z => by subst z; have := (lk_put_eq hj).1; cases this
      have e2 : i ≠ k := fun z => by subst z; have := (lk_put_eq hk).1; cases this
      rw [lk_put_ne e1] at hj
      rw [lk_put_ne e2] at hk
      exact h2 j k u w hn hj hk
    · by_cases z : i = j
      · subst z; obtain ⟨q, _⟩ := lk_put_eq hj; cases q; exact ⟨A, d, q0, q1, hm⟩
      · rw [lk_put_ne z] at hj
        obtain ⟨B, e, p1, p2, p3⟩ := r.p j k u hj
        have hk : k ≠ k0 := fun w => by subst w; exact z (r.pi i j k _ _ h hj)
        exact ⟨B, e, p1, p2, p3.frame fun a ha => c.out a fun ha' => r.pd.dj k k0 B A e d hk p1 q0 a ha ha'⟩
    · have hj' : ∃ u', Vi.lk Γ j = some (.p k u') := by
        by_cases z : i = j
        · subst z; obtain ⟨q, _⟩ := lk_put_eq hj; cases q; exact ⟨_, h⟩
        · rw [lk_put_ne z] at hj; exact ⟨_, hj⟩
      have hl' : ∃ u', Vi.lk Γ l = some (.p k u') := by
        by_cases z : i = l
        · subst z; obtain ⟨q, _⟩ := lk_put_eq hl; cases q; exact ⟨_, h⟩
        · rw [lk_put_ne z] at hl; exact ⟨_, hl⟩
      exact r.pi j l k _ _ hj'.choose_spec hl'.choose_spec
    · by_cases z : j ∈ A
      · exact .inr ⟨⟨k0, A, d, q0, z⟩, (hm.low (r.pd.lt k0 A d q0)).2 j z x hx⟩
      · rw [c.out j z] at hx; exact r.fr.old j x hj hx
end
def EpG {ι : Type} (ok : ι → Prop) (e : En → M → R ι) (Γ : Ga) (d : ι) : Prop := ∀ b P ρ m, Rel b P Γ ρ m → e ρ m = .ok d m ∧ ok d
def EvG {ι α : Type} (ok : ι → Prop) (e : En → M → R ι) (Γ : Ga) (t : Option α) (f : α → ι) (G : α → Ga) : Prop :=
  ∀ a, t = some a → ∀ b P ρ m, Rel b P Γ ρ m → ∃ m', e ρ m = .ok (f a) m' ∧ ok (f a) ∧ Rel b P (G a) ρ m'
abbrev okD : D → Prop := fun d => noRef d = true
abbrev okDs : List D → Prop := fun d => noRefs d = true
abbrev okT {ι : Type} : ι → Prop := fun _ => True
abbrev EP (e : SE) (Γ : Ga) (d : D) : Prop := EpG okD e Γ d
abbrev TP (e : SB) (Γ : Ga) (k : Bool) : Prop := EpG okT e Γ k
abbrev AP (e : SA) (Γ : Ga) (ds : List D) : Prop := EpG okDs e Γ ds
abbrev EV {α : Type} (e : SE) (Γ : Ga) (t : Option α) (f : α → D) (G : α → Ga) : Prop := EvG okD e Γ t f G
abbrev TV {α : Type} (e : SB) (Γ : Ga) (t : Option α) (f : α → Bool) (G : α → Ga) : Prop := EvG okT e Γ t f G
abbrev AV {α : Type} (e : SA) (Γ : Ga) (t : Option α) (f : α → List D) (G : α → Ga) : Prop := EvG okDs e Γ t f G
def RdT (e : SE) (Γ : Ga) (t : T) : Prop := ∀ b P ρ m, Rel b P Γ ρ m → ∃ A d, e ρ m = .ok d m ∧ Has m A d t
def Pl (e : SE) (Γ : Ga) (t : T) (up : T → Ga) : Prop := ∀ b P ρ m, Rel b P Γ ρ m → ∃ A d, e ρ m = .ok d m ∧ Has m A d t ∧ ∀ (m' : M) (t' : T), Chg A m m' → Has m' A d t' → Rel b P (up t') ρ m'
theorem Pl.rd {e : SE} {Γ : Ga} {t : T} {up : T → Ga} (h : Pl e Γ t up) : RdT e Γ t := fun b P ρ m r => let ⟨A, d, h1, h2, _⟩ := h b P ρ m r; ⟨A, d, h1, h2⟩
theorem EpG.ev {ι : Type} {ok : ι → Prop} {e : En → M → R ι} {Γ : Ga} {d : ι} (h : EpG ok e Γ d) : EvG ok e Γ (some ()) (fun _ => d) (fun _ => Γ) := fun _ _ b P ρ m r => ⟨m, (h b P ρ m r).1, (h b P ρ m r).2, r⟩
section
variable {Γ : Ga} {i : Nat}
theorem ep_var {d : D} (h : lk Γ i = some (.v d)) : EP (sVar i) Γ d := fun b P ρ m r => by
  obtain ⟨h1, h2⟩ := r.v i d h
  exact ⟨by simp only [sVar, h1], h2⟩
theorem ep_c {d : D} (h : noRef d = true) : EP (sC d) Γ d := fun b P ρ m r => ⟨rfl, h⟩
theorem pl_var {s : S} {t : T} (h : lk Γ i = some s) (ht : treeOf s = some t) : Pl (sVar i) Γ t (fun t' => put Γ i (some (asTree s t'))) := fun b P ρ m r => by
  obtain ⟨A, d, h1, h2, h3⟩ := r.tree h ht
  exact ⟨A, d, by simp only [sVar, h1], h2, h3⟩
end
end Vi
namespace Vi
open PySem PySem.Spec PyProof.Rows L2
abbrev eN : Unit → D := fun _ => .non
abbrev eT {α : Type} (f : α → D) (xs : List α) : D := .tup (xs.map f)
abbrev eL {α : Type} (f : α → D) (xs : List α) : D := .lst (xs.map f)
abbrev eZ {α : Type} (f : α → D) (xs : List α) : D := .frz (xs.map f)
abbrev e0 : Unit → D := fun _ => .tup []
abbrev e2 {α β : Type} (f : α → D) (g : β → D) (p : α × β) : D := .tup [f p.1, g p.2]
abbrev e3 {α β γ : Type} (f : α → D) (g : β → D) (h : γ → D) (p : α × β × γ) : D := .tup [f p.1, g p.2.1, h p.2.2]
abbrev e4 {α β γ δ : Type} (f : α → D) (g : β → D) (h : γ → D) (k : δ → D) (p : α × β × γ × δ) : D := .tup [f p.1, g p.2.1, h p.2.2.1, k p.2.2.2]
abbrev e5 {α β γ δ ε : Type} (f : α → D) (g : β → D) (h : γ → D) (k : δ → D) (l : ε → D) (p : α × β × γ × δ × ε) : D := .tup [f p.1, g p.2.1, h p.2.2.1, k p.2.2.2.1, l p.2.2.2.2]
abbrev trL {α : Type} (f : α → D) (xs : List α) : T := .lst (xs.map f)
@[inline] def vlet {α β : Type} (a : α) (f : α → β) : β := f a
def pairB {α β : Type} (a : Option α) (f : α → Option β) : Option (α × β) := a.bind fun x => (f x).bind fun y => some (x, y)
section
variable {ι κ : Type} {ok : ι → Prop} {ok' : κ → Prop} {Γ : Ga} {α β γ : Type}
theorem EvG.congr {e e' : En → M → R ι} {t : Option α} {f : α → ι} {G : α → Ga} (he : ∀ ρ m, e ρ m = e' ρ m) (h : EvG ok e' Γ t f G) : EvG ok e Γ t f G := fun a ha b P ρ m r => by rw [he]; exact h a ha b P ρ m r
theorem EpG.congr {e e' : En → M → R ι} {d : ι} (he : ∀ ρ m, e ρ m = e' ρ m) (h : EpG ok e' Γ d) : EpG ok e Γ d := fun b P ρ m r => by rw [he]; exact h b P ρ m r
theorem EvG.val {e : En → M → R ι} {t : Option α} {f f' : α → ι} {G : α → Ga} (h : EvG ok e Γ t f G) (hf : ∀ a, f a = f' a) : EvG ok e Γ t f' G := fun a ha b P ρ m r => by rw [← hf]; exact h a ha b P ρ m r
theorem EpG.val {e : En → M → R ι} {d d' : ι} (h : EpG ok e Γ d) (hd : d = d') : EpG ok e Γ d' := hd ▸ h
def bindS (args : En → M → R ι) (g : ι → M → R κ) : En → M → R κ := fun ρ m => (args ρ m).bind g
theorem op_p {args : En → M → R ι} {g : ι → M → R κ} {ds : ι} {d : κ} (h : EpG ok args Γ ds) (hg : ok ds → ∀ m, g ds m = .ok d m ∧ ok' d) : EpG ok' (bindS args g) Γ d := fun b P ρ m r => by
  obtain ⟨h1, h2⟩ := h b P ρ m r
  obtain ⟨h3, h4⟩ := hg h2 m
  exact ⟨by simp only [bindS, h1, bind_ok, h3], h4⟩
theorem op_c {args : En → M → R ι} {g : ι → M → R κ} {ds : ι} {t : Option α} {f : α → κ} (h : EpG ok args Γ ds) (hg : ok ds → ∀ a, t = some a → ∀ m, g ds m = .ok (f a) m ∧ ok' (f a)) : EvG ok' (bindS args g) Γ t f (fun _ => Γ) := fun a ha b P ρ m r => by
  obtain ⟨h1, h2⟩ := h b P ρ m r
  obtain ⟨h3, h4⟩ := hg h2 a ha m
  exact ⟨m, by simp only [bindS, h1, bind_ok, h3], h4, r⟩
theorem op_m {args : En → M → R ι} {g : ι → M → R κ} {t : Option α} {fs : α → ι} {f : α → κ} {G : α → Ga} (h : EvG ok args Γ t fs G) (hg : ∀ a, ok (fs a) → ∀ m, g (fs a) m = .ok (f a) m ∧ ok' (f a)) : EvG ok' (bindS args g) Γ t f G := fun a ha b P ρ m r => by
  obtain ⟨m', h1, h2, h5⟩ := h a ha b P ρ m r
  obtain ⟨h3, h4⟩ := hg a h2 m'
  exact ⟨m', by simp only [bindS, h1, bind_ok, h3], h4, h5⟩
theorem op_mc {args : En → M → R ι} {g : ι → M → R κ} {t : Option α} {k : α → Option β} {fs : α → ι} {f : α → β → κ} {G : α → Ga} (h : EvG ok args Γ t fs G) (hg : ∀ a, ok (fs a) → ∀ c, k a = some c → ∀ m, g (fs a) m = .ok (f a c) m ∧ ok' (f a c)) :
    EvG ok' (bindS args g) Γ (pairB t k) (fun c => f c.1 c.2) (fun c => G c.1) := fun c hc b P ρ m r => by
  unfold pairB at hc
  obtain ⟨a, ha, hc⟩ := Option.bind_eq_some_iff.mp hc
  obtain ⟨y, hy, hc⟩ := Option.bind_eq_some_iff.mp hc
  cases hc
  obtain ⟨m', h1, h2, h5⟩ := h a ha b P ρ m r
  obtain ⟨h3, h4⟩ := hg a h2 y hy m'
  exact ⟨m', by simp only [bindS, h1, bind_ok, h3], h4, h5⟩
end
section
variable {Γ : Ga} {α β : Type} {e : SE} {es : SA}
theorem ap_nil : AP sNil Γ [] := fun b P ρ m r => ⟨rfl, rfl⟩
theorem ap_cons {d : D} {ds : List D} (h : EP e Γ d) (hs : AP es Γ ds) : AP (sCons e es) Γ (d :: ds) := fun b P ρ m r => by
  obtain ⟨h1, h2⟩ := h b P ρ m r
  obtain ⟨h3, h4⟩ := hs b P ρ m r
  refine ⟨by simp only [sCons, h1, bind_ok, h3], ?_⟩
  have h2 : noRef d = true := h2
  have h4 : noRefs ds = true := h4
  show noRefs (d :: ds) = true
  simp only [noRefs, h2, h4]; rfl
theorem av_pm {d : D} {t : Option α} {fs : α → List D} {G : α → Ga} (h : EP e Γ d) (hs : AV es Γ t fs G) : AV (sCons e es) Γ t (fun a => d :: fs a) G := fun a ha b P ρ m r => by
  obtain ⟨h1, h2⟩ := h b P ρ m r
  obtain ⟨m', h3, h4, h5⟩ := hs a ha b P ρ m r
  refine ⟨m', by simp only [sCons, h1, bind_ok, h3], ?_, h5⟩
  have h2 : noRef d = true := h2
  have h4 : noRefs (fs a) = true := h4
  show noRefs (d :: fs a) = true
  simp only [noRefs, h2, h4]; rfl
theorem av_mp {t : Option α} {f : α → D} {G : α → Ga} {ds : α → List D} (h : EV e Γ t f G) (hs : ∀ a, AP es (G a) (ds a)) : AV (sCons e es) Γ t (fun a => f a :: ds a) G := fun a ha b P ρ m r => by
  obtain ⟨m', h1, h2, h5⟩ := h a ha b P ρ m r
  obtain ⟨h3, h4⟩ := hs a b P ρ m' h5
  refine ⟨m', by simp only [sCons, h1, bind_ok, h3], ?_, h5⟩
  have h2 : noRef (f a) = true := h2
  have h4 : noRefs (ds a) = true := h4
  show noRefs (f a :: ds a) = true
  simp only [noRefs, h2, h4]; rfl
theorem av_mm {t : Option α} {f : α → D} {G : α → Ga} {u : α → Option β} {fs : α → β → List D} {G2 : α → β → Ga} (h : EV e Γ t f G) (hs : ∀ a, AV es (G a) (u a) (fs a) (G2 a)) :
    AV (sCons e es) Γ (pairB t u) (fun c => f c.1 :: fs c.1 c.2) (fun c => G2 c.1 c.2) := fun c hc b P ρ m r => by
  unfold pairB at hc
  obtain ⟨a, ha, hc⟩ := Option.bind_eq_some_iff.mp hc
  obtain ⟨y, hy, hc⟩ := Option.bind_eq_some_iff.mp hc
  cases hc
  obtain ⟨m', h1, h2, h5⟩ := h a ha b P ρ m r
  obtain ⟨m2, h3, h4, h6⟩ := hs a y hy b P ρ m' h5
  refine ⟨m2, by simp only [sCons, h1, bind_ok, h3], ?_, h6⟩
  have h2 : noRef (f a) = true := h2
  have h4 : noRefs (fs a y) = true := h4
  show noRefs (f a :: fs a y) = true
  simp only [noRefs, h2, h4]; rfl
def g2 {κ : Type} (g : D → D → M → R κ) : List D → M → R κ := fun xs m => match xs with
  | [x, y] => g x y m
  | _ => .bad
theorem bin_eq (g : G2) (a b : SE) (ρ : En) (m : M) : sBin g a b ρ m = bindS (sCons a (sCons b sNil)) (g2 g) ρ m := by
  simp only [sBin, bindS, sCons, sNil]
  cases a ρ m with
  | ok x m1 =>
    simp only [bind_ok]
    cases b ρ m1 <;> rfl
  | exn c m1 => rfl
  | bad => rfl
theorem binT_eq (g : D → D → M → R Bool) (a b : SE) (ρ : En) (m : M) : sBinT g a b ρ m = bindS (sCons a (sCons b sNil)) (g2 g) ρ m := by
  simp only [sBinT, bindS, sCons, sNil]
  cases a ρ m with
  | ok x m1 =>
    simp only [bind_ok]
    cases b ρ m1 <;> rfl
  | exn c m1 => rfl
  | bad => rfl
end
section
variable {Γ : Ga} {α β : Type} {a b : SE} {g : G2} {gb : D → D → M → R Bool} {ds : List D} {d : D} {k : Bool} {t : Option α} {fs : α → List D} {f : α → D} {G : α → Ga} {u : α → Option β} {f2' : α → β → D} {fb : α → Bool} {fb2 : α → β → Bool}
abbrev sC2 (a b : SE) : SA := sCons a (sCons b sNil)
theorem bin_p (h : AP (sC2 a b) Γ ds) (hg : okDs ds → ∀ m, g2 g ds m = .ok d m ∧ okD d) : EP (sBin g a b) Γ d := (op_p h hg).congr (bin_eq g a b)
theorem bin_c (h : AP (sC2 a b) Γ ds) (hg : okDs ds → ∀ x, t = some x → ∀ m, g2 g ds m = .ok (f x) m ∧ okD (f x)) : EV (sBin g a b) Γ t f (fun _ => Γ) := (op_c h hg).congr (bin_eq g a b)
theorem bin_m (h : AV (sC2 a b) Γ t fs G) (hg : ∀ x, okDs (fs x) → ∀ m, g2 g (fs x) m = .ok (f x) m ∧ okD (f x)) : EV (sBin g a b) Γ t f G := (op_m h hg).congr (bin_eq g a b)
theorem bin_mc (h : AV (sC2 a b) Γ t fs G) (hg : ∀ x, okDs (fs x) → ∀ c, u x = some c → ∀ m, g2 g (fs x) m = .ok (f2' x c) m ∧ okD (f2' x c)) : EV (sBin g a b) Γ (pairB t u) (fun c => f2' c.1 c.2) (fun c => G c.1) := (op_mc h hg).congr (bin_eq g a b)
theorem cmp_p (h : AP (sC2 a b) Γ ds) (hg : okDs ds → ∀ m, g2 gb ds m = .ok k m ∧ okT k) : TP (sBinT gb a b) Γ k := (op_p h hg).congr (binT_eq gb a b)
theorem cmp_m (h : AV (sC2 a b) Γ t fs G) (hg : ∀ x, okDs (fs x) → ∀ m, g2 gb (fs x) m = .ok (fb x) m ∧ okT (fb x)) : TV (sBinT gb a b) Γ t fb G := (op_m h hg).congr (binT_eq gb a b)
end
section
variable {Γ : Ga} {α β : Type} {args : SA} {g : List D → M → R D} {gl : List D → M → R (List D)} {ds es : List D} {d : D} {t : Option α} {fs : α → List D} {f : α → D} {G : α → Ga} {u : α → Option β} {f2' : α → β → D} {fl : α → List D} {fl2 : α → β → List D}
theorem call_p (h : AP args Γ ds) (hg : okDs ds → ∀ m, g ds m = .ok d m ∧ okD d) : EP (sCall g args) Γ d := op_p h hg
theorem call_c (h : AP args Γ ds) (hg : okDs ds → ∀ x, t = some x → ∀ m, g ds m = .ok (f x) m ∧ okD (f x)) : EV (sCall g args) Γ t f (fun _ => Γ) := op_c h hg
theorem call_m (h : AV args Γ t fs G) (hg : ∀ x, okDs (fs x) → ∀ m, g (fs x) m = .ok (f x) m ∧ okD (f x)) : EV (sCall g args) Γ t f G := op_m h hg
theorem callL_p (h : AP args Γ ds) (hg : okDs ds → ∀ m, gl ds m = .ok es m ∧ okDs es) : AP (sCallL gl args) Γ es := op_p h hg
theorem un_p {e : SE} {g : D → M → R D} {x : D} (h : EP e Γ x) (hg : okD x → ∀ m, g x m = .ok d m ∧ okD d) : EP (sUn g e) Γ d := op_p h hg
def gTupS : List D → M → R D := fun xs m => if xs.length ≤ big then .ok (.tup xs) m else .bad
def gLstS : List D → M → R (List D) := fun xs m => if xs.length ≤ big then .ok xs m else .bad
def gFrzS : List D → M → R D := fun xs m => .ok (.lst xs) m
def gBlS : Bool → M → R D := fun k m => .ok (.bl k) m
def gTbS : D → M → R Bool := fun x m => match x with
  | .bl b => .ok b m
  | _ => .bad
def gNotS : Bool → M → R Bool := fun k m => .ok (!k) m
theorem tup_p (h : AP args Γ ds) (hl : ds.length ≤ 1000 := by exact Nat.le_of_ble_eq_true rfl) : EP (sTup args) Γ (.tup ds) := op_p (ok' := okD) (g := gTupS) h fun o m => ⟨if_pos (Nat.le_trans hl (by decide)), o⟩
theorem tup_m (h : AV args Γ t fs G) (hl : ∀ x, (fs x).length ≤ 1000 := by intro _; exact Nat.le_of_ble_eq_true rfl) : EV (sTup args) Γ t (fun x => .tup (fs x)) G := op_m (ok' := okD) (g := gTupS) h fun x o m => ⟨if_pos (Nat.le_trans (hl x) (by decide)), o⟩
theorem lst_p (h : AP args Γ ds) (hl : ds.length ≤ 1000 := by exact Nat.le_of_ble_eq_true rfl) : AP (sLst args) Γ ds := op_p (ok' := okDs) (g := gLstS) h fun o m => ⟨if_pos (Nat.le_trans hl (by decide)), o⟩
theorem lst_m (h : AV args Γ t fs G) (hl : ∀ x, (fs x).length ≤ 1000 := by intro _; exact Nat.le_of_ble_eq_true rfl) : AV (sLst args) Γ t fs G := op_m (ok' := okDs) (g := gLstS) h fun x o m => ⟨if_pos (Nat.le_trans (hl x) (by decide)), o⟩
theorem frz_p (h : AP args Γ ds) : EP (sFrz args) Γ (.lst ds) := op_p (ok' := okD) (g := gFrzS) h fun o m => ⟨rfl, o⟩
theorem frz_m (h : AV args Γ t fs G) : EV (sFrz args) Γ t (fun x => .lst (fs x)) G := op_m (ok' := okD) (g := gFrzS) h fun x o m => ⟨rfl, o⟩
theorem ofT_m {e : SB} {fb : α → Bool} (h : TV e Γ t fb G) : EV (sOfT e) Γ t (fun x => .bl (fb x)) G := op_m (ok' := okD) (g := gBlS) h fun _ _ m => ⟨rfl, rfl⟩
theorem tb_p {e : SE} {k : Bool} (h : EP e Γ (.bl k)) : TP (sTB e) Γ k := op_p (ok' := okT) (g := gTbS) h fun _ m => ⟨rfl, trivial⟩
theorem tb_m {e : SE} {fb : α → Bool} (h : EV e Γ t (fun x => .bl (fb x)) G) : TV (sTB e) Γ t fb G := op_m (ok' := okT) (g := gTbS) h fun _ _ m => ⟨rfl, trivial⟩
theorem not_m {e : SB} {fb : α → Bool} (h : TV e Γ t fb G) : TV (sNot e) Γ t (fun x => !(fb x)) G := op_m (ok' := okT) (g := gNotS) h fun _ _ m => ⟨rfl, trivial⟩
theorem andV_of {a b : SE} (ρ : En) (m : M) : (sAnd (sTB a) (sTB b)) ρ m = (sTB (sAndV a b)) ρ m := by
  simp only [sAnd, sTB, sAndV]
  cases a ρ m with
  | ok x m1 =>
    simp only [bind_ok]
    cases x with
    | bl k => cases k <;> rfl
    | _ => rfl
  | exn c m1 => rfl
  | bad => rfl
theorem tb_back {e : SE} {fb : α → Bool} (h : TV (sTB e) Γ t fb G) : EV e Γ t (fun x => .bl (fb x)) G := fun x hx b P ρ m r => by
  obtain ⟨m', h1, _, h5⟩ := h x hx b P ρ m r
  unfold sTB at h1
  cases q : e ρ m with
  | ok y m1 =>
    rw [q] at h1
    simp only [bind_ok] at h1
    cases y with
    | bl k => cases h1; exact ⟨_, rfl, rfl, h5⟩
    | _ => cases h1
  | exn c m1 => rw [q] at h1; cases h1
  | bad => rw [q] at h1; cases h1
theorem andV_t {a b : SE} {fb : α → Bool} (h : TV (sAnd (sTB a) (sTB b)) Γ t fb G) : EV (sAndV a b) Γ t (fun x => .bl (fb x)) G := tb_back (EvG.congr (fun ρ m => (andV_of ρ m).symm) h)
theorem notV_m {a : SE} {fb : α → Bool} (h : EV a Γ t (fun x => .bl (fb x)) G) : EV (sNotV a) Γ t (fun x => .bl (!(fb x))) G := ofT_m (not_m (tb_m h))
theorem if_p {c : SB} {a b : SE} {k : Bool} {x y : D} (hc : TP c Γ k) (ha : EP a Γ x) (hb : EP b Γ y) : EP (sIf c a b) Γ (if k = true then x else y) := fun b' P ρ m r => by
  simp only [sIf, (hc b' P ρ m r).1, bind_ok]
  cases k
  · exact hb b' P ρ m r
  · exact ha b' P ρ m r
theorem if_m {c : SB} {a b : SE} {k : Bool} {u v : Option α} (hc : TP c Γ k) (ha : k = true → EV a Γ u f G) (hb : k = false → EV b Γ v f G) : EV (sIf c a b) Γ (if k = true then u else v) f G := fun x hx b' P ρ m r => by
  obtain ⟨h1, _⟩ := hc b' P ρ m r
  cases k with
  | true => rw [if_pos rfl] at hx; obtain ⟨m', q⟩ := ha rfl x hx b' P ρ m r; exact ⟨m', by simp only [sIf, h1, bind_ok, if_true]; exact q.1, q.2⟩
  | false =>
    simp only [Bool.false_eq_true, if_false] at hx
    obtain ⟨m', q⟩ := hb rfl x hx b' P ρ m r; exact ⟨m', by simp only [sIf, h1, bind_ok]; exact q.1, q.2⟩
theorem EvG.wk {ι : Type} {ok : ι → Prop} {e : En → M → R ι} {t : Option α} {f : α → ι} {G G' : α → Ga} (h : EvG ok e Γ t f G) (hw : ∀ a, Wk (G a) (G' a)) : EvG ok e Γ t f G' := fun a ha b P ρ m r => let ⟨m', h1, h2, h3⟩ := h a ha b P ρ m r; ⟨m', h1, h2, h3.wk (hw a)⟩
theorem EvG.map {ι : Type} {ok : ι → Prop} {e : En → M → R ι} {t : Option α} {f : α → ι} {G : α → Ga} (h : EvG ok e Γ t f G) (v : α → β) {f' : β → ι} {G' : β → Ga} (hf : ∀ a, f a = f' (v a)) (hG : ∀ a, Wk (G a) (G' (v a))) : EvG ok e Γ (t.map v) f' G' := fun c hc b P ρ m r => by
  obtain ⟨a, ha, rfl⟩ := Option.map_eq_some_iff.mp hc
  obtain ⟨m', h1, h2, h3⟩ := h a ha b P ρ m r
  exact ⟨m', by rw [h1, hf], by rw [← hf]; exact h2, h3.wk (hG a)⟩
theorem EpG.pur {ι : Type} {ok : ι → Prop} {e : En → M → R ι} {f : α → ι} {v : α} (h : EpG ok e Γ (f v)) : EvG ok e Γ (some v) f (fun _ => Γ) := fun c hc b P ρ m r => by
  cases hc
  exact ⟨m, (h b P ρ m r).1, (h b P ρ m r).2, r⟩
end
end Vi
namespace Vi
open PySem PySem.Spec PyProof.Rows L2
inductive Out where
  | nx (Γ : Ga) | lp (Γ : Ga) | bk (Γ : Ga) | rt (d : D) (ts : List T) | rl (t : T) (ts : List T) | fin (ts : List T) | ex (c : Str) (ts : List T)
structure Fin (b : M) (P : Ps) (ts : List T) (m : M) : Prop where
  fr : Fr b P m
  has : ∀ (k : Nat) (A : List Nat) (d : D) (t : T), P[k]? = some (A, d) → ts[k]? = some t → Has m A d t
def OutRel (b : M) (P : Ps) (u : Out) (o : O) : Prop := match u with
  | .nx Γ => ∃ ρ m, o = .nx ρ m ∧ Rel b P Γ ρ m
  | .lp Γ => ∃ ρ m, (o = .nx ρ m ∨ o = .ct ρ m) ∧ Rel b P Γ ρ m
  | .bk Γ => ∃ ρ m, o = .bk ρ m ∧ Rel b P Γ ρ m
  | .rt d ts => ∃ x m, o = .rt x m ∧ fz m b.length fzK x = some d ∧ noRef d = true ∧ Fin b P ts m
  | .rl t ts => ∃ A x m, o = .rt x m ∧ Has m A x t ∧ (∀ a ∈ A, b.length ≤ a) ∧ Fin b P ts m
  | .fin ts => ∃ ρ m, o = .nx ρ m ∧ Fin b P ts m
  | .ex c ts => ∃ m, o = .exn c m ∧ Fin b P ts m
def Sim {α : Type} (d : SS) (Γ : Ga) (t : Option α) (F : α → Out) : Prop := ∀ a, t = some a → ∀ b P ρ m, Rel b P Γ ρ m → OutRel b P (F a) (d ρ m)
def Fins (Γ : Ga) (ts : List T) : Prop := ∀ (k : Nat) (t : T), ts[k]? = some t → ∃ i, lk Γ i = some (.p k t)
theorem fins_nil {Γ : Ga} : Fins Γ [] := fun k t h => by simp at h
theorem fins_1 {Γ : Ga} {t : T} (i : Nat) (h : lk Γ i = some (.p 0 t)) : Fins Γ [t] := fun k u hk => by
  match k, hk with
  | 0, hk => cases hk; exact ⟨i, h⟩
  | k + 1, hk => simp at hk
theorem Fins.fin {b : M} {P : Ps} {Γ : Ga} {ρ : En} {m : M} {ts : List T} (h : Fins Γ ts) (r : Rel b P Γ ρ m) : Fin b P ts m := ⟨r.fr, fun k A d t hk ht => by
  obtain ⟨i, hi⟩ := h k t ht
  obtain ⟨A', d', e1, e2, e3⟩ := r.p i k t hi
  rw [hk] at e1
  cases e1
  exact e3⟩
section
variable {α β σ γ : Type} {Γ : Ga} {a b c : SS} {t : Option α} {F : α → Out}
theorem Sim.wk {Γ' : Ga} (h : Sim a Γ' t F) (w : Wk Γ Γ') : Sim a Γ t F := fun x hx b P ρ m r => h x hx b P ρ m (r.wk w)
theorem Sim.eqs (he : ∀ ρ m, a ρ m = c ρ m) (h : Sim c Γ t F) : Sim a Γ t F := fun x hx b P ρ m r => by rw [he]; exact h x hx b P ρ m r
theorem sim_last (h : Sim (sSeq a sPass) Γ t F) : Sim a Γ t F := Sim.eqs (fun ρ m => by
  unfold sSeq
  cases a ρ m <;> rfl) h
theorem sim_assoc (h : Sim (sSeq a (sSeq b c)) Γ t F) : Sim (sSeq (sSeq a b) c) Γ t F := Sim.eqs (fun ρ m => by
  unfold sSeq
  cases a ρ m <;> rfl) h
theorem sim_pass (h : Sim c Γ t F) : Sim (sSeq sPass c) Γ t F := Sim.eqs (fun ρ m => rfl) h
theorem sim_lp {x : α} {Γ' : Ga} (hF : F x = .lp Γ') (w : Wk Γ Γ') : Sim sPass Γ (some x) F := fun y hy b P ρ m r => by
  cases hy
  rw [hF]
  exact ⟨ρ, m, .inl rfl, r.wk w⟩
theorem sim_ret {e : SE} {x : α} {d : D} {ts : List T} (h : EP e Γ d) (hF : F x = .rt d ts) (w : Fins Γ ts) : Sim (sSeq (sRet e) c) Γ (some x) F := fun y hy b P ρ m r => by
  cases hy
  rw [hF]
  obtain ⟨h1, h2⟩ := h b P ρ m r
  exact ⟨d, m, by simp only [sSeq, sRet, h1, toO_ok, then_rt], fz_no h2, h2, w.fin r⟩
theorem sim_retM {e : SE} {u : Option β} {f : β → D} {G : β → Ga} {k : β → α} {ts : β → List T} (h : EV e Γ u f G) (hF : ∀ x, F (k x) = .rt (f x) (ts x)) (w : ∀ x, Fins (G x) (ts x)) : Sim (sSeq (sRet e) c) Γ (u.bind fun x => some (k x)) F := fun y hy b P ρ m r => by
  obtain ⟨x, hx, hy⟩ := Option.bind_eq_some_iff.mp hy
  cases hy
  rw [hF]
  obtain ⟨m', h1, h2, h3⟩ := h x hx b P ρ m r
  exact ⟨f x, m', by simp only [sSeq, sRet, h1, toO_ok, then_rt], fz_no h2, h2, (w x).fin h3⟩
theorem sim_asgP {i : Nat} {e : SE} {v : β} (emb : β → D) {K : β → Option α} (h : EP e Γ (emb v)) (k : ∀ x, Sim c (put Γ i (some (.v (emb x)))) (K x) F) : Sim (sSeq (sAsg e (gNm i)) c) Γ (vlet v K) F := fun y hy b P ρ m r => by
  obtain ⟨h1, h2⟩ := h b P ρ m r
  have := k v y hy b P _ m (r.put_v i h2)
  simpa only [sSeq, sAsg, h1, toO_ok, gNm, then_nx] using this
theorem sim_asgM {i : Nat} {e : SE} {u : Option γ} {f : γ → D} {G : γ → Ga} {v : γ → β} (emb : β → D) {K : γ → β → Option α} (h : EV e Γ u f G) (hv : ∀ x, f x = emb (v x)) (k : ∀ z x, Sim c (put (G z) i (some (.v (emb x)))) (K z x) F) :
    Sim (sSeq (sAsg e (gNm i)) c) Γ (u.bind fun z => vlet (v z) (K z)) F := fun y hy b P ρ m r => by
  obtain ⟨z, hz, hy⟩ := Option.bind_eq_some_iff.mp hy
  obtain ⟨m', h1, h2, h3⟩ := h z hz b P ρ m r
  rw [hv] at h1 h2
  have := k z (v z) y hy b P _ m' (h3.put_v i h2)
  simpa only [sSeq, sAsg, h1, toO_ok, gNm, then_nx] using this
theorem sim_asgB {i : Nat} {e : SE} {u : Option β} {Γ' : Ga} (emb : β → D) {K : β → Option α} (h : EV e Γ u emb (fun _ => Γ')) (k : ∀ x, Sim c (put Γ' i (some (.v (emb x)))) (K x) F) : Sim (sSeq (sAsg e (gNm i)) c) Γ (u.bind K) F := fun y hy b P ρ m r => by
  obtain ⟨z, hz, hy⟩ := Option.bind_eq_some_iff.mp hy
  obtain ⟨m', h1, h2, h3⟩ := h z hz b P ρ m r
  have := k z y hy b P _ m' (h3.put_v i h2)
  simpa only [sSeq, sAsg, h1, toO_ok, gNm, then_nx] using this
def EO {γ : Type} (e : SE) (Γ : Ga) (u : Option γ) (f : γ → T) (G : γ → Ga) : Prop := ∀ z, u = some z → ∀ b P ρ m, Rel b P Γ ρ m → ∃ x m', e ρ m = .ok x m' ∧ ∀ i, Rel b P (put (G z) i (some (.o (f z)))) (ρ.set i (some x)) m'
theorem eo_new {ds : SA} {u : Option γ} {fs : γ → List D} {G : γ → Ga} (h : AV ds Γ u fs G) : EO (sNew ds) Γ u (fun z => .lst (fs z)) G := fun z hz b P ρ m r => by
  obtain ⟨m', h1, h2, h3⟩ := h z hz b P ρ m r
  refine ⟨.ref m'.length, m' ++ [.lst (fs z)], by simp only [sNew, h1, bind_ok], fun i => h3.put_o i (by simp) (fun j hj => List.getElem?_append_left hj) (A := [m'.length]) (.lst (by simp) h2) (by simp)⟩
theorem sim_new {i : Nat} {e : SE} {u : Option γ} {f : γ → T} {G : γ → Ga} {v : γ → β} (emb : β → T) {K : γ → β → Option α} (h : EO e Γ u f G) (hv : ∀ x, f x = emb (v x)) (k : ∀ z x, Sim c (put (G z) i (some (.o (emb x)))) (K z x) F) :
    Sim (sSeq (sAsg e (gNm i)) c) Γ (u.bind fun z => vlet (v z) (K z)) F := fun y hy b P ρ m r => by
  obtain ⟨z, hz, hy⟩ := Option.bind_eq_some_iff.mp hy
  obtain ⟨x, m', h1, h2⟩ := h z hz b P ρ m r
  have h3 := h2 i
  rw [hv] at h3
  have := k z (v z) y hy b P _ m' h3
  simpa only [sSeq, sAsg, h1, toO_ok, gNm, then_nx] using this
theorem sim_newP {i : Nat} {ds : SA} {xs : List D} {v : β} (emb : β → T) {K : β → Option α} (h : AP ds Γ xs) (hv : .lst xs = emb v) (k : ∀ x, Sim c (put Γ i (some (.o (emb x)))) (K x) F) :
    Sim (sSeq (sAsg (sNew ds) (gNm i)) c) Γ (vlet v K) F := sim_new (u := some ()) (v := fun _ => v) (K := fun _ => K) emb (eo_new h.ev) (fun _ => hv) (fun _ x => k x)
theorem sim_if {q : SB} {k : Bool} {A B : SS} {u v : Option α} (hq : TP q Γ k) (ha : k = true → Sim (sSeq A c) Γ u F) (hb : k = false → Sim (sSeq B c) Γ v F) : Sim (sSeq (sIfS q A B) c) Γ (if k = true then u else v) F := fun y hy b P ρ m r => by
  obtain ⟨h1, _⟩ := hq b P ρ m r
  cases k with
  | true =>
    rw [if_pos rfl] at hy
    simpa only [sSeq, sIfS, h1, toO_ok, if_true] using ha rfl y hy b P ρ m r
  | false =>
    simp only [Bool.false_eq_true, if_false] at hy
    simpa only [sSeq, sIfS, h1, toO_ok, Bool.false_eq_true, if_false] using hb rfl y hy b P ρ m r
theorem sim_ifM {q : SB} {w : Option γ} {fb : γ → Bool} {G : γ → Ga} {A B : SS} {u v : γ → Option α} (hq : TV q Γ w fb G) (ha : ∀ z, Sim (sSeq A c) (G z) (u z) F) (hb : ∀ z, Sim (sSeq B c) (G z) (v z) F) :
    Sim (sSeq (sIfS q A B) c) Γ (w.bind fun z => if fb z = true then u z else v z) F := fun y hy b P ρ m r => by
  obtain ⟨z, hz, hy⟩ := Option.bind_eq_some_iff.mp hy
  obtain ⟨m', h1, _, h3⟩ := hq z hz b P ρ m r
  cases hk : fb z with
  | true =>
    rw [hk, if_pos rfl] at hy
    simpa only [sSeq, sIfS, h1, toO_ok, hk, if_true] using ha z y hy b P ρ m' h3
  | false =>
    rw [hk] at hy
    simp only [Bool.false_eq_true, if_false] at hy
    simpa only [sSeq, sIfS, h1, toO_ok, hk, Bool.false_eq_true, if_false] using hb z y hy b P ρ m' h3
def forO (f : σ → β → Option σ) : List β → σ → Option σ
  | [], s => some s
  | x :: xs, s => (f s x).bind (forO f xs)
inductive Lp (ρ σ : Type) where
  | nx (s : σ) | bk (s : σ) | rt (r : ρ)
def forR {ρ : Type} (f : σ → β → Option (Lp ρ σ)) : List β → σ → Option (ρ ⊕ σ)
  | [], s => some (.inr s)
  | x :: xs, s => (f s x).bind fun r => match r with
    | .nx s => forR f xs s
    | .bk s => some (.inr s)
    | .rt v => some (.inl v)
def bindR {ρ : Type} (w : ρ → α) (u : Option (ρ ⊕ σ)) (K : σ → Option α) : Option α := u.bind fun r => match r with
  | .inl v => some (w v)
  | .inr s => K s
def Bod (g : SG) (a : SS) (d : D) (Γ : Ga) (u : Option β) (F : β → Out) : Prop := ∀ y, u = some y → noRef d = true → ∀ b P ρ m, Rel b P Γ ρ m → ∃ ρ1, g d ρ m = .ok ρ1 m ∧ OutRel b P (F y) (a ρ1 m)
theorem bod_1 {i : Nat} {d : D} {u : Option β} {F : β → Out} (h : Sim a (put Γ i (some (.v d))) u F) : Bod (gNm i) a d Γ u F := fun y hy hd b P ρ m r => ⟨_, rfl, h y hy b P _ m (r.put_v i hd)⟩
theorem noRefs_cons {x : D} {xs : List D} (h : noRefs (x :: xs) = true) : noRef x = true ∧ noRefs xs = true := by
  simpa only [noRefs, Bool.and_eq_true] using h
theorem for_core {g : SG} {em : β → D} {G : σ → Ga} {step : σ → β → Option σ} (hb : ∀ s x, Bod g a (em x) (G s) (step s x) (fun s => .lp (G s))) : ∀ (xs : List β) (s s' : σ), forO step xs s = some s' → noRefs (xs.map em) = true →
    ∀ b P ρ m, Rel b P (G s) ρ m → ∃ ρ' m', forLoop g a (xs.map em) ρ m = .nx ρ' m' ∧ Rel b P (G s') ρ' m'
  | [], s, s', h, _, b, P, ρ, m, r => by cases h; exact ⟨ρ, m, rfl, r⟩
  | x :: xs, s, s', h, hn, b, P, ρ, m, r => by
    obtain ⟨s1, h1, h2⟩ := Option.bind_eq_some_iff.mp h
    obtain ⟨n1, n2⟩ := noRefs_cons hn
    obtain ⟨ρ1, e1, ρ2, m2, e2, r2⟩ := hb s x s1 h1 n1 b P ρ m r
    obtain ⟨ρ3, m3, e3, r3⟩ := for_core hb xs s1 s' h2 n2 b P ρ2 m2 r2
    refine ⟨ρ3, m3, ?_, r3⟩
    simp only [List.map_cons, forLoop, e1, toO_ok]
    rcases e2 with e2 | e2 <;> rw [e2] <;> exact e3
theorem sim_forM {it : SA} {g : SG} {em : β → D} {w : Option γ} {G0 : γ → Ga} {xs : γ → List β} {s0 : γ → σ} (G : σ → Ga) {step : σ → β → Option σ} {K : σ → Option α} (hi : AV it Γ w (fun z => (xs z).map em) G0) (hG : ∀ z, Wk (G0 z) (G (s0 z)))
    (hb : ∀ s x, Bod g a (em x) (G s) (step s x) (fun s => .lp (G s))) (k : ∀ s, Sim c (G s) (K s) F) :
    Sim (sSeq (sFor it g a) c) Γ (w.bind fun z => (forO step (xs z) (s0 z)).bind K) F := fun y hy b P ρ m r => by
  obtain ⟨z, hz, hy⟩ := Option.bind_eq_some_iff.mp hy
  obtain ⟨s, hs, hy⟩ := Option.bind_eq_some_iff.mp hy
  obtain ⟨m1, h1, h2, r1⟩ := hi z hz b P ρ m r
  obtain ⟨ρ', m', e1, r2⟩ := for_core hb (xs z) (s0 z) s hs h2 b P ρ m1 (r1.wk (hG z))
  have := k s y hy b P ρ' m' r2
  simpa only [sSeq, sFor, h1, toO_ok, e1, then_nx] using this
def isRet : Out → Bool
  | .rt _ _ => true
  | .rl _ _ => true
  | .ex _ _ => true
  | _ => false
def FR {ρ : Type} (G : σ → Ga) (w : ρ → Out) : Lp ρ σ → Out
  | .nx s => .lp (G s)
  | .bk s => .bk (G s)
  | .rt r => w r
theorem out_ret {b : M} {P : Ps} {u : Out} {o : O} (h : OutRel b P u o) (hu : isRet u = true) : (∃ x m, o = .rt x m) ∨ ∃ c m, o = .exn c m := by
  cases u with
  | rt d ts => obtain ⟨x, m, e, _⟩ := h; exact .inl ⟨x, m, e⟩
  | rl t ts => obtain ⟨A, x, m, e, _⟩ := h; exact .inl ⟨x, m, e⟩
  | ex t ts => obtain ⟨m, e, _⟩ := h; exact .inr ⟨_, m, e⟩
  | _ => cases hu
theorem forR_core {ρ' : Type} {g : SG} {em : β → D} {G : σ → Ga} {w : ρ' → Out} {step : σ → β → Option (Lp ρ' σ)} (hw : ∀ v, isRet (w v) = true) (hb : ∀ s x, Bod g a (em x) (G s) (step s x) (FR G w)) : ∀ (xs : List β) (s : σ) (z : ρ' ⊕ σ), forR step xs s = some z → noRefs (xs.map em) = true →
    ∀ b P ρ m, Rel b P (G s) ρ m → OutRel b P (match z with | .inl v => w v | .inr s => .nx (G s)) (forLoop g a (xs.map em) ρ m)
  | [], s, z, h, _, b, P, ρ, m, r => by cases h; exact ⟨ρ, m, rfl, r⟩
  | x :: xs, s, z, h, hn, b, P, ρ, m, r => by
    obtain ⟨l, h1, h2⟩ := Option.bind_eq_some_iff.mp h
    obtain ⟨n1, n2⟩ := noRefs_cons hn
    obtain ⟨ρ1, e1, q⟩ := hb s x _ h1 n1 b P ρ m r
    cases l with
    | nx s1 =>
      obtain ⟨ρ2, m2, e2, r2⟩ := q
      have := forR_core hw hb xs s1 z h2 n2 b P ρ2 m2 r2
      simp only [List.map_cons, forLoop, e1, toO_ok]
      rcases e2 with e2 | e2 <;> rw [e2] <;> exact this
    | bk s1 =>
      obtain ⟨ρ2, m2, e2, r2⟩ := q
      cases h2
      exact ⟨ρ2, m2, by simp only [List.map_cons, forLoop, e1, toO_ok, e2], r2⟩
    | rt v =>
      cases h2
      have q' : OutRel b P (w v) (a ρ1 m) := q
      rcases out_ret q (hw v) with ⟨y, m2, e2⟩ | ⟨y, m2, e2⟩
      all_goals rw [e2] at q'
      all_goals simpa only [List.map_cons, forLoop, e1, toO_ok, e2] using q'
theorem sim_forR {ρ' : Type} {it : SA} {g : SG} {em : β → D} {w : Option γ} {G0 : γ → Ga} {xs : γ → List β} {s0 : γ → σ} (G : σ → Ga) {step : σ → β → Option (Lp ρ' σ)} {wr : ρ' → α} {K : σ → Option α} (hi : AV it Γ w (fun z => (xs z).map em) G0) (hG : ∀ z, Wk (G0 z) (G (s0 z)))
    (hw : ∀ v, isRet (F (wr v)) = true) (hb : ∀ s x, Bod g a (em x) (G s) (step s x) (FR G fun v => F (wr v))) (k : ∀ s, Sim c (G s) (K s) F) :
    Sim (sSeq (sFor it g a) c) Γ (w.bind fun z => bindR wr (forR step (xs z) (s0 z)) K) F := fun y hy b P ρ m r => by
  obtain ⟨z, hz, hy⟩ := Option.bind_eq_some_iff.mp hy
  obtain ⟨l, hs, hy⟩ := Option.bind_eq_some_iff.mp hy
  obtain ⟨m1, h1, h2, r1⟩ := hi z hz b P ρ m r
  have q := forR_core hw hb (xs z) (s0 z) l hs h2 b P ρ m1 (r1.wk (hG z))
  cases l with
  | inl v =>
    cases hy
    have q' : OutRel b P (F (wr v)) (forLoop g a ((xs z).map em) ρ m1) := q
    rcases out_ret q (hw v) with ⟨y, m2, e2⟩ | ⟨y, m2, e2⟩
    all_goals rw [e2] at q'
    all_goals simpa only [sSeq, sFor, h1, toO_ok, e2, then_rt, then_exn] using q'
  | inr s =>
    obtain ⟨ρ', m', e1, r2⟩ := q
    have := k s y hy b P ρ' m' r2
    simpa only [sSeq, sFor, h1, toO_ok, e1, then_nx] using this
end
end Vi
namespace Vi
open PySem PySem.Spec PyProof.Rows L2
def ArgR (m : M) (P : Ps) : List S → List D → Prop
  | [], [] => True
  | .v d :: ss, x :: xs => (x = d ∧ noRef d = true) ∧ ArgR m P ss xs
  | .p k t :: ss, x :: xs => (∃ A, P[k]? = some (A, x) ∧ Has m A x t) ∧ ArgR m P ss xs
  | _, _ => False
def pix : List S → List Nat
  | [] => []
  | .p k _ :: ss => k :: pix ss
  | _ :: ss => pix ss
def FOut (b : M) (P : Ps) (u : Out) (r : R D) : Prop := match u with
  | .rt d ts => ∃ m', r = .ok d m' ∧ noRef d = true ∧ m'.length = b.length ∧ Fin b P ts m'
  | .fin ts => ∃ m', r = .ok .non m' ∧ m'.length = b.length ∧ Fin b P ts m'
  | .rl t ts => ∃ A x m', r = .ok x m' ∧ Has m' A x t ∧ (∀ a ∈ A, b.length ≤ a) ∧ Fin b P ts m'
  | .ex c ts => ∃ m', r = .exn c m' ∧ m'.length = b.length ∧ Fin b P ts m'
  | _ => False
def FnT {α : Type} (F : Fn) (ss : List S) (t : Option α) (f : α → Out) : Prop := ∀ a, t = some a → ∀ P ds m, PD m P → (pix ss).Nodup → ArgR m P ss ds → FOut m P (f a) (F ds m)
theorem argR_len {m : M} {P : Ps} : ∀ {ss : List S} {ds : List D}, ArgR m P ss ds → ds.length = ss.length
  | [], [], _ => rfl
  | .v d :: ss, x :: xs, h => by simp [argR_len h.2]
  | .p k t :: ss, x :: xs, h => by simp [argR_len h.2]
  | [], _ :: _, h => h.elim
  | .v _ :: _, [], h => h.elim
  | .p _ _ :: _, [], h => h.elim
  | .o _ :: _, [], h => h.elim
  | .o _ :: _, _ :: _, h => h.elim
theorem argR_get {m : M} {P : Ps} : ∀ {ss : List S} {ds : List D} {i : Nat} {s : S}, ArgR m P ss ds → ss[i]? = some s → ∃ x, ds[i]? = some x ∧ match s with
    | .v d => x = d ∧ noRef d = true
    | .p k t => ∃ A, P[k]? = some (A, x) ∧ Has m A x t
    | .o _ => False
  | [], _, _, _, _, e => by simp at e
  | .v d :: ss, x :: xs, 0, s, h, e => by simp at e; subst e; exact ⟨x, rfl, h.1⟩
  | .p k t :: ss, x :: xs, 0, s, h, e => by simp at e; subst e; exact ⟨x, rfl, h.1⟩
  | .v d :: ss, x :: xs, i + 1, s, h, e => by
    obtain ⟨y, h1, h2⟩ := argR_get (i := i) h.2 (by simpa using e)
    exact ⟨y, by simpa using h1, h2⟩
  | .p k t :: ss, x :: xs, i + 1, s, h, e => by
    obtain ⟨y, h1, h2⟩ := argR_get (i := i) h.2 (by simpa using e)
    exact ⟨y, by simpa using h1, h2⟩
  | .v _ :: _, [], _, _, h, _ => h.elim
  | .p _ _ :: _, [], _, _, h, _ => h.elim
  | .o _ :: _, [], _, _, h, _ => h.elim
  | .o _ :: _, _ :: _, _, _, h, _ => h.elim
theorem pix_inj : ∀ {ss : List S} {i j k : Nat} {t u : T}, (pix ss).Nodup → ss[i]? = some (.p k t) → ss[j]? = some (.p k u) → i = j
  | [], _, _, _, _, _, _, e, _ => by simp at e
  | s :: ss, i, j, k, t, u, n, e1, e2 => by
    have mem : ∀ {ss : List S} {i : Nat} {t : T}, ss[i]? = some (.p k t) → k ∈ pix ss := by
      intro ss
      induction ss with
      | nil => intro i t e; simp at e
      | cons s ss ih =>
        intro i t e
        cases i with
        | zero => simp at e; subst e; exact List.mem_cons_self ..
        | succ i =>
          have := ih (i := i) (t := t) (by simpa using e)
          cases s <;> simp [pix, this]
    have n' : (pix ss).Nodup := by
      cases s <;> simp only [pix] at n <;> first | exact n | exact (List.nodup_cons.mp n).2
    cases i with
    | zero =>
      cases j with
      | zero => rfl
      | succ j =>
        simp at e1
        subst e1
        exact absurd (mem (i := j) (by simpa using e2)) (List.nodup_cons.mp n).1
    | succ i =>
      cases j with
      | zero =>
        simp at e2
        subst e2
        exact absurd (mem (i := i) (by simpa using e1)) (List.nodup_cons.mp n).1
      | succ j => rw [pix_inj (i := i) (j := j) n' (by simpa using e1) (by simpa using e2)]
def ga0 (n : Nat) (ss : List S) : Ga := ss.map some ++ List.replicate (n - ss.length) none
theorem lk_get : ∀ {Γ : Ga} {i : Nat} {s : S}, lk Γ i = some s → Γ[i]? = some (some s)
  | [], _, _, h => by cases h
  | x :: _, 0, _, h => by
    have : x = some _ := h
    simp [this]
  | _ :: r, i + 1, s, h => by simpa using lk_get (Γ := r) (i := i) h
theorem ga0_get {n : Nat} {ss : List S} {i : Nat} {s : S} (h : lk (ga0 n ss) i = some s) : ss[i]? = some s := by
  have := lk_get h
  unfold ga0 at this
  rcases Nat.lt_or_ge i ss.length with q | q
  · rw [List.getElem?_append_left (by simpa using q), List.getElem?_map] at this
    obtain ⟨y, h1, h2⟩ := Option.map_eq_some_iff.mp this
    cases h2
    exact h1
  · rw [List.getElem?_append_right (by simpa using q), List.getElem?_replicate] at this
    split at this <;> cases this
theorem rel_start {m : M} {P : Ps} {ss : List S} {ds : List D} (n : Nat) (pd : PD m P) (nd : (pix ss).Nodup) (h : ArgR m P ss ds) : Rel m P (ga0 n ss) (ds.map some ++ List.replicate (n - ds.length) none) m := by
  have hl := argR_len h
  have at_ : ∀ (i : Nat) (x : D), ds[i]? = some x → (ds.map some ++ List.replicate (n - ds.length) none)[i]? = some (some x) := fun i x e => by
    have q := (List.getElem?_eq_some_iff.mp e).1
    rw [List.getElem?_append_left (by simpa using q), List.getElem?_map, e]
    rfl
  refine ⟨by simp [ga0, hl], fun i d e => ?_, ⟨fun _ => [], fun i t e => ?_, fun i j t u hn e e' a ha => by cases ha⟩, fun i k t e => ?_, fun i j k t u e e' => pix_inj nd (ga0_get e) (ga0_get e'), ⟨Nat.le_refl _, fun j c _ e => .inl e⟩, pd⟩
  · obtain ⟨x, h1, h2⟩ := argR_get h (ga0_get e)
    obtain ⟨rfl, h3⟩ := h2
    exact ⟨at_ i x h1, h3⟩
  · obtain ⟨x, _, h2⟩ := argR_get h (ga0_get e)
    exact h2.elim
  · obtain ⟨x, h1, A, h2, h3⟩ := argR_get h (ga0_get e)
    exact ⟨A, x, h2, at_ i x h1, h3⟩
theorem okM_of {k : Nat} : ∀ (m b : M), m.length = b.length → (∀ (j : Nat) (c : Cell), m[j]? = some c → b[j]? = some c ∨ lowC k c = true) → okMn k m b = true
  | [], [], _, _ => rfl
  | [], _ :: _, h, _ => by simp at h
  | _ :: _, [], h, _ => by simp at h
  | x :: xs, y :: ys, h, f => by
    simp only [okMn, Bool.and_eq_true, Bool.or_eq_true]
    refine ⟨?_, okM_of xs ys (by simpa using h) fun j c e => ?_⟩
    · rcases f 0 x rfl with q | q
      · simp at q; subst q; exact .inl (eqC_refl _)
      · exact .inr q
    · have := f (j + 1) c (by simpa using e)
      simpa using this
theorem fr_take {b m : M} {P : Ps} (f : Fr b P m) : okM (m.take b.length) b = true := okM_of _ _ (by rw [List.length_take, Nat.min_eq_left f.len]) fun j c e => by
  have hj : j < b.length := by
    have := (List.getElem?_eq_some_iff.mp e).1
    rw [List.length_take] at this
    omega
  rw [List.getElem?_take, if_pos hj] at e
  rcases f.old j c hj e with q | q
  · exact .inl q
  · exact .inr q.2
theorem fin_take {b m : M} {P : Ps} {ts : List T} (pd : PD b P) (h : Fin b P ts m) : (m.take b.length).length = b.length ∧ Fin b P ts (m.take b.length) := by
  have hl : (m.take b.length).length = b.length := by rw [List.length_take, Nat.min_eq_left h.fr.len]
  refine ⟨hl, ⟨by rw [hl]; exact Nat.le_refl _, fun j c hj e => ?_⟩, fun k A d t hk ht => (h.has k A d t hk ht).frame fun a ha => ?_⟩
  · rw [List.getElem?_take, if_pos hj] at e
    exact h.fr.old j c hj e
  · rw [List.getElem?_take, if_pos (pd.lt k A d hk a ha)]
theorem fn_exit {α : Type} {n : Nat} {body : SS} {ss : List S} {t : Option α} {f : α → Out} (hf : ∀ a, (∃ d ts, f a = .rt d ts) ∨ (∃ ts, f a = .fin ts) ∨ ∃ c ts, f a = .ex c ts) (h : Sim body (ga0 n ss) t f) : FnT (exitF (runDef n body)) ss t f := fun a ha P ds m pd nd ar => by
  have r := rel_start n pd nd ar
  have o := h a ha m P _ m r
  rcases hf a with ⟨d, ts, e⟩ | ⟨ts, e⟩ | ⟨c, ts, e⟩
  · rw [e] at o ⊢
    obtain ⟨x, m', e1, e2, e3, e4⟩ := o
    obtain ⟨q1, q2⟩ := fin_take pd e4
    refine ⟨m'.take m.length, ?_, e3, q1, q2⟩
    have e5 : runDef n body ds m = .ok x m' := by simp only [runDef, e1]
    simp only [exitF, e5, fr_take e4.fr, if_true, e2]
  · rw [e] at o ⊢
    obtain ⟨ρ', m', e1, e4⟩ := o
    obtain ⟨q1, q2⟩ := fin_take pd e4
    refine ⟨m'.take m.length, ?_, q1, q2⟩
    have e5 : runDef n body ds m = .ok .non m' := by simp only [runDef, e1]
    simp only [exitF, e5, fr_take e4.fr, if_true]
    rfl
  · rw [e] at o ⊢
    obtain ⟨m', e1, e4⟩ := o
    obtain ⟨q1, q2⟩ := fin_take pd e4
    refine ⟨m'.take m.length, ?_, q1, q2⟩
    have e5 : runDef n body ds m = .exn c m' := by simp only [runDef, e1]
    simp only [exitF, e5, fr_take e4.fr, if_true]
theorem fn_new {α : Type} {n : Nat} {body : SS} {ss : List S} {t : Option α} {f : α → Out} (hf : ∀ a, ∃ t ts, f a = .rl t ts) (h : Sim body (ga0 n ss) t f) : FnT (runDef n body) ss t f := fun a ha P ds m pd nd ar => by
  have r := rel_start n pd nd ar
  have o := h a ha m P _ m r
  obtain ⟨t0, ts, e⟩ := hf a
  rw [e] at o ⊢
  obtain ⟨A, x, m', e1, e2, e3, e4⟩ := o
  exact ⟨A, x, m', by simp only [runDef, e1], e2, e3, e4⟩
inductive Ar where
  | v (d : D) | s (i : Nat)
def ArV (ρ : En) : List Ar → List D → Prop
  | [], [] => True
  | .v d :: as, x :: xs => (x = d ∧ noRef d = true) ∧ ArV ρ as xs
  | .s i :: as, x :: xs => ρ[i]? = some (some x) ∧ ArV ρ as xs
  | _, _ => False
def GA {α : Type} (args : SA) (Γ : Ga) (t : Option α) (fs : α → List Ar) (G : α → Ga) : Prop := ∀ a, t = some a → ∀ b P ρ m, Rel b P Γ ρ m → ∃ ds m', args ρ m = .ok ds m' ∧ Rel b P (G a) ρ m' ∧ ArV ρ (fs a) ds
section
variable {Γ : Ga} {α β : Type} {e : SE} {es : SA} {t : Option α} {u : α → Option β} {f : α → D} {G : α → Ga} {G2 : α → β → Ga} {fs : α → List Ar} {fs2 : α → β → List Ar}
theorem ga_nil : GA sNil Γ (some ()) (fun _ => []) (fun _ => Γ) := fun a ha b P ρ m r => ⟨[], m, rfl, r, trivial⟩
theorem ga_s {i : Nat} {s : S} (h : lk Γ i = some s) (hs : GA es Γ t fs G) : GA (sCons (sVar i) es) Γ t (fun a => .s i :: fs a) G := fun a ha b P ρ m r => by
  obtain ⟨ds, m', h1, h2, h3⟩ := hs a ha b P ρ m r
  have : ∃ x, ρ[i]? = some (some x) := by
    cases s with
    | v d => exact ⟨_, (r.v i d h).1⟩
    | o t => obtain ⟨As, q, _⟩ := r.o; obtain ⟨d, q1, _⟩ := q i t h; exact ⟨d, q1⟩
    | p k t => obtain ⟨A, d, _, q1, _⟩ := r.p i k t h; exact ⟨d, q1⟩
  obtain ⟨x, hx⟩ := this
  exact ⟨x :: ds, m', by simp only [sCons, sVar, hx, bind_ok, h1], h2, hx, h3⟩
theorem ga_v {d : D} (h : EP e Γ d) (hs : GA es Γ t fs G) : GA (sCons e es) Γ t (fun a => .v d :: fs a) G := fun a ha b P ρ m r => by
  obtain ⟨q1, q2⟩ := h b P ρ m r
  obtain ⟨ds, m', h1, h2, h3⟩ := hs a ha b P ρ m r
  exact ⟨d :: ds, m', by simp only [sCons, q1, bind_ok, h1], h2, ⟨rfl, q2⟩, h3⟩
theorem ga_m (h : EV e Γ t f G) (hs : ∀ a, GA es (G a) (some ()) (fun _ => fs a) (fun _ => G a)) : GA (sCons e es) Γ t (fun a => .v (f a) :: fs a) G := fun a ha b P ρ m r => by
  obtain ⟨m1, q1, q2, q3⟩ := h a ha b P ρ m r
  obtain ⟨ds, m', h1, h2, h3⟩ := hs a () rfl b P ρ m1 q3
  exact ⟨f a :: ds, m', by simp only [sCons, q1, bind_ok, h1], h2, ⟨rfl, q2⟩, h3⟩
end
def Fit (Γ : Ga) (sl : List Nat) : List Ar → List S → Prop
  | [], [] => True
  | .v d :: as, .v e :: ss => d = e ∧ Fit Γ sl as ss
  | .s i :: as, .p k t :: ss => ((∃ s, lk Γ i = some s ∧ treeOf s = some t) ∧ sl[k]? = some i) ∧ Fit Γ sl as ss
  | .s i :: as, .v e :: ss => lk Γ i = some (.v e) ∧ Fit Γ sl as ss
  | _, _ => False
theorem fit_nil {Γ : Ga} {sl : List Nat} : Fit Γ sl [] [] := trivial
theorem fit_v {Γ : Ga} {sl : List Nat} {d : D} {as : List Ar} {ss : List S} (h : Fit Γ sl as ss) : Fit Γ sl (.v d :: as) (.v d :: ss) := ⟨rfl, h⟩
theorem fit_s {Γ : Ga} {sl : List Nat} {i k : Nat} {s : S} {t : T} {as : List Ar} {ss : List S} (h1 : lk Γ i = some s) (h2 : treeOf s = some t) (h3 : sl[k]? = some i) (h : Fit Γ sl as ss) : Fit Γ sl (.s i :: as) (.p k t :: ss) := ⟨⟨⟨s, h1, h2⟩, h3⟩, h⟩
def putTs (Γ : Ga) : List Nat → List T → Ga
  | i :: is, t :: ts => match lk Γ i with
    | some s => put (putTs Γ is ts) i (some (asTree s t))
    | none => putTs Γ is ts
  | _, _ => Γ
section
variable {b : M} {P : Ps} {Γ : Ga} {ρ : En} {m : M}
theorem Rel.trees (r : Rel b P Γ ρ m) (is : List Nat) (nd : is.Nodup) (hs : ∀ i ∈ is, ∃ s t, lk Γ i = some s ∧ treeOf s = some t) :
    ∃ Q : Ps, Q.length = is.length ∧ (∀ (k i : Nat) (s : S) (t : T), is[k]? = some i → lk Γ i = some s → treeOf s = some t → ∃ A d, Q[k]? = some (A, d) ∧ ρ[i]? = some (some d) ∧ Has m A d t) ∧ PD m Q ∧
      ∀ (m' : M) (ts : List T), Fr m Q m' → ts.length = is.length → (∀ (k : Nat) (A : List Nat) (d : D) (t : T), Q[k]? = some (A, d) → ts[k]? = some t → Has m' A d t) →
        Rel b P (putTs Γ is ts) ρ m' ∧ ∀ (i : Nat) (A : List Nat) (x : D) (t : T), Has m' A x t → (∀ a ∈ A, m.length ≤ a) → Rel b P (put (putTs Γ is ts) i (some (.o t))) (ρ.set i (some x)) m' := by
  obtain ⟨As, h1, h2⟩ := r.o
  -- where each slot's tree stands
  have ex : ∀ i, i ∈ is → ∃ q : List Nat × D, ρ[i]? = some (some q.2) ∧ (∀ s t, lk Γ i = some s → treeOf s = some t → Has m q.1 q.2 t) ∧ ((∃ t, lk Γ i = some (.o t) ∧ q.1 = As i) ∨ ∃ k t, lk Γ i = some (.p k t) ∧ P[k]? = some q) := by
    intro i hi
    obtain ⟨s, t, hl, ht⟩ := hs i hi
    cases s with
    | v d => cases ht
    | o t0 =>
      cases ht
      obtain ⟨d, q1, q2, q3⟩ := h1 i t hl
      exact ⟨(As i, d), q1, fun s u e1 e2 => by rw [hl] at e1; cases e1; cases e2; exact q2, .inl ⟨t, hl, rfl⟩⟩
    | p k t0 =>
      cases ht
      obtain ⟨A, d, q0, q1, q2⟩ := r.p i k t hl
      exact ⟨(A, d), q1, fun s u e1 e2 => by rw [hl] at e1; cases e1; cases e2; exact q2, .inr ⟨k, t, hl, q0⟩⟩
  -- two slots' trees share nothing
  have apart : ∀ i j qi qj, i ≠ j → ((∃ t, lk Γ i = some (.o t) ∧ qi = As i) ∨ ∃ k t d, lk Γ i = some (.p k t) ∧ P[k]? = some (qi, d)) → ((∃ t, lk Γ j = some (.o t) ∧ qj = As j) ∨ ∃ k t d, lk Γ j = some (.p k t) ∧ P[k]? = some (qj, d)) → ∀ a ∈ qi, a ∉ qj := by
    rintro i j qi qj hij (⟨t, e1, rfl⟩ | ⟨k, t, d, e1, e2⟩) (⟨u, e3, rfl⟩ | ⟨l, u, e, e3, e4⟩) a ha hb
    · exact h2 i j t u hij e1 e3 a ha hb
    · obtain ⟨_, _, _, q3⟩ := h1 i t e1
      have := q3 a ha
      have := r.pd.lt l qj e e4 a hb
      omega
    · obtain ⟨_, _, _, q3⟩ := h1 j u e3
      have := q3 a hb
      have := r.pd.lt k qi d e2 a ha
      omega
    · by_cases hk : k = l
      · subst hk; exact hij (r.pi i j k t u e1 e3)
      · exact r.pd.dj k l qi qj d e hk e2 e4 a ha hb
  let w : Nat → List Nat × D := fun i => if h : i ∈ is then (ex i h).choose else ([], .non)
  have hw : ∀ i (h : i ∈ is), ρ[i]? = some (some (w i).2) ∧ (∀ s t, lk Γ i = some s → treeOf s = some t → Has m (w i).1 (w i).2 t) ∧ ((∃ t, lk Γ i = some (.o t) ∧ (w i).1 = As i) ∨ ∃ k t, lk Γ i = some (.p k t) ∧ P[k]? = some (w i)) := fun i h => by
    have := (ex i h).choose_spec
    simp only [w, dif_pos h]
    exact this
  have hw' : ∀ i (h : i ∈ is), (∃ t, lk Γ i = some (.o t) ∧ (w i).1 = As i) ∨ ∃ k t d, lk Γ i = some (.p k t) ∧ P[k]? = some ((w i).1, d) := fun i h => by
    rcases (hw i h).2.2 with q | ⟨k, t, q1, q2⟩
    · exact .inl q
    · exact .inr ⟨k, t, (w i).2, q1, q2⟩
  have getQ : ∀ (k : Nat) (A : List Nat) (d : D), (is.map w)[k]? = some (A, d) → ∃ i, is[k]? = some i ∧ w i = (A, d) := fun k A d h => by
    rw [List.getElem?_map] at h
    exact Option.map_eq_some_iff.mp h
  refine ⟨is.map w, by simp, fun k i s t hk hl ht => ?_, ⟨fun k A d h a ha => ?_, fun k l A B d e hkl h h' a ha hb => ?_⟩, fun m' ts fr hlen has => ?_⟩
  · have hi := List.mem_of_getElem? hk
    refine ⟨(w i).1, (w i).2, by rw [List.getElem?_map, hk]; rfl, (hw i hi).1, (hw i hi).2.1 s t hl ht⟩
  · obtain ⟨i, hi, e⟩ := getQ k A d h
    have hi' := List.mem_of_getElem? hi
    obtain ⟨s, t, hl, ht⟩ := hs i hi'
    have := (hw i hi').2.1 s t hl ht
    rw [e] at this
    exact this.lt a ha
  · obtain ⟨i, hi, e1⟩ := getQ k A d h
    obtain ⟨j, hj, e2⟩ := getQ l B e h'
    have hij : i ≠ j := fun z => by
      subst z
      exact hkl (L2.nd_ix nd hi hj)
    have q1 := hw' i (List.mem_of_getElem? hi)
    have q2 := hw' j (List.mem_of_getElem? hj)
    rw [e1] at q1
    rw [e2] at q2
    exact apart i j A B hij q1 q2 a ha hb
  · -- slots of is
    have inQ : ∀ (k i : Nat), is[k]? = some i → (is.map w)[k]? = some ((w i).1, (w i).2) := fun k i h => by rw [List.getElem?_map, h]; rfl
    -- what stands outside of all of them stands
    have out : ∀ (a : Nat) (c : Cell), a < m.length → (∀ i ∈ is, a ∉ (w i).1) → m'[a]? = some c → m[a]? = some c := fun a c ha hn hc => by
      rcases fr.old a c ha hc with q | ⟨⟨k, A, d, q1, q2⟩, _⟩
      · exact q
      · obtain ⟨i, hi, e⟩ := getQ k A d q1
        exact absurd (by rw [e]; exact q2) (hn i (List.mem_of_getElem? hi))
    have out' : ∀ (a : Nat), a < m.length → (∀ i ∈ is, a ∉ (w i).1) → m'[a]? = m[a]? := fun a ha hn => by
      have : a < m'.length := Nat.lt_of_lt_of_le ha fr.len
      rw [List.getElem?_eq_getElem this]
      exact (out a _ ha hn (List.getElem?_eq_getElem this)).symm
    -- the slots behind
    have look : ∀ (js : List Nat) (us : List T), us.length = js.length → js.Nodup → (∀ i ∈ js, i ∈ is) → ∀ (j : Nat) (s' : S), lk (putTs Γ js us) j = some s' → (∃ (k : Nat) (t : T) (s : S), js[k]? = some j ∧ us[k]? = some t ∧ lk Γ j = some s ∧ s' = asTree s t) ∨ (j ∉ js ∧ lk Γ j = some s') := by
      intro js
      induction js with
      | nil => intro us _ _ _ j s' h; exact .inr ⟨by simp, h⟩
      | cons i js ih =>
        intro us hl hn hm j s' h
        cases us with
        | nil => cases hl
        | cons u us =>
          obtain ⟨s, t, hlk, _⟩ := hs i (hm i (List.mem_cons_self ..))
          simp only [putTs, hlk] at h
          by_cases hj : i = j
          · subst hj
            obtain ⟨e, _⟩ := lk_put_eq h
            cases e
            exact .inl ⟨0, u, s, rfl, rfl, hlk, rfl⟩
          · rw [lk_put_ne hj] at h
            rcases ih us (by simpa using hl) (List.nodup_cons.mp hn).2 (fun i hi => hm i (List.mem_cons_of_mem _ hi)) j s' h with ⟨k, t, s0, q1, q2, q3, q4⟩ | ⟨q1, q2⟩
            · exact .inl ⟨k + 1, t, s0, by simpa using q1, by simpa using q2, q3, q4⟩
            · exact .inr ⟨by simp [Ne.symm hj, q1], q2⟩
    have look1 := look is ts hlen nd (fun i h => h)
    have plen : ∀ (js : List Nat) (us : List T), (putTs Γ js us).length = Γ.length := by
      intro js
      induction js with
      | nil => intro us; rfl
      | cons i js ih =>
        intro us
        cases us with
        | nil => rfl
        | cons u us =>
          simp only [putTs]
          split
          · rw [put_len, ih]
          · exact ih us
    have kind : ∀ (j : Nat) (s' : S), lk (putTs Γ is ts) j = some s' → ∃ s, lk Γ j = some s ∧ (match s' with | .v d => s = .v d | .o _ => ∃ t, s = .o t | .p k _ => ∃ t, s = .p k t) := by
      intro j s' h
      rcases look1 j s' h with ⟨k, t, s, q1, q2, q3, rfl⟩ | ⟨q1, q2⟩
      · refine ⟨s, q3, ?_⟩
        cases s <;> simp [asTree]
      · refine ⟨s', q2, ?_⟩
        cases s' <;> simp
    have main : Rel b P (putTs Γ is ts) ρ m' := by
      refine ⟨by rw [plen, r.len], fun j e h => ?_, ⟨As, fun j t h => ?_, fun j k t u hn h h' => ?_⟩, fun j k t h => ?_, fun j l k t u h h' => ?_, ⟨Nat.le_trans r.fr.len fr.len, fun j c hj hc => ?_⟩, r.pd⟩
      · obtain ⟨s, q1, q2⟩ := kind j _ h
        cases q2
        exact r.v j e q1
      · rcases look1 j _ h with ⟨k, t', s, q1, q2, q3, q4⟩ | ⟨q1, q2⟩
        · cases s with
          | v d => cases q4
          | p k0 t0 => cases q4
          | o t0 =>
            cases q4
            obtain ⟨d, p1, p2, p3⟩ := h1 j t0 q3
            have hj := List.mem_of_getElem? q1
            have z := hw j hj
            rcases z.2.2 with ⟨_, _, eA⟩ | ⟨_, _, e, _⟩
            · have := has k (w j).1 (w j).2 t (inQ k j q1) q2
              rw [eA] at this
              exact ⟨(w j).2, z.1, this, p3⟩
            · rw [q3] at e; cases e
        · obtain ⟨d, p1, p2, p3⟩ := h1 j t q2
          exact ⟨d, p1, p2.frame fun a ha => out' a (p2.lt a ha) fun i hi ha' => apart i j _ _ (fun z => q1 (z ▸ hi)) (hw' i hi) (.inl ⟨t, q2, rfl⟩) a ha' ha, p3⟩
      · obtain ⟨s, q1, t1, q2⟩ := kind j _ h
        obtain ⟨s', q1', u1, q2'⟩ := kind k _ h'
        subst q2; subst q2'
        exact h2 j k t1 u1 hn q1 q1'
      · rcases look1 j _ h with ⟨l, t', s, q1, q2, q3, q4⟩ | ⟨q1, q2⟩
        · cases s with
          | v d => cases q4
          | o t0 => cases q4
          | p k0 t0 =>
            cases q4
            have hj := List.mem_of_getElem? q1
            have z := hw j hj
            rcases z.2.2 with ⟨_, e, _⟩ | ⟨k1, t1, e, eP⟩
            · rw [q3] at e; cases e
            · rw [q3] at e
              cases e
              exact ⟨(w j).1, (w j).2, eP, z.1, has l _ _ t (inQ l j q1) q2⟩
        · obtain ⟨A, d, p1, p2, p3⟩ := r.p j k t q2
          exact ⟨A, d, p1, p2, p3.frame fun a ha => out' a (p3.lt a ha) fun i hi ha' => apart i j _ _ (fun z => q1 (z ▸ hi)) (hw' i hi) (.inr ⟨k, t, d, q2, p1⟩) a ha' ha⟩
      · obtain ⟨s, q1, t1, q2⟩ := kind j _ h
        obtain ⟨s', q1', u1, q2'⟩ := kind l _ h'
        subst q2; subst q2'
        exact r.pi j l k t1 u1 q1 q1'
      · rcases fr.old j c (Nat.lt_of_lt_of_le hj r.fr.len) hc with q | ⟨⟨k, A, d, q1, q2⟩, q3⟩
        · exact r.fr.old j c hj q
        · obtain ⟨i, hi, e⟩ := getQ k A d q1
          have hi' := List.mem_of_getElem? hi
          rcases (hw i hi').2.2 with ⟨t, e1, e2⟩ | ⟨k1, t1, e1, e2⟩
          · obtain ⟨_, _, _, p3⟩ := h1 i t e1
            have : j ∈ As i := by rw [← e2, e]; exact q2
            have := p3 j this
            omega
          · rw [e] at e2
            have hk : k < ts.length := by
              have := (List.getElem?_eq_some_iff.mp q1).1
              rw [List.length_map] at this
              omega
            exact .inr ⟨⟨k1, A, d, e2, q2⟩, ((has k A d _ q1 (List.getElem?_eq_getElem hk)).low (r.pd.lt k1 A d e2)).2 j q2 c hc⟩
    refine ⟨main, fun i A x t hx hA => ?_⟩
    -- something new beside
    obtain ⟨l1, l2, _, l4, l5, l6, l7⟩ := main
    have own : ∀ (j : Nat) (t : T), lk (putTs Γ is ts) j = some (.o t) → ∃ d, ρ[j]? = some (some d) ∧ Has m' (As j) d t ∧ (∀ a ∈ As j, b.length ≤ a) ∧ ∀ a ∈ As j, a < m.length := fun j t h => by
      rcases look1 j _ h with ⟨k, t', s, q1, q2, q3, q4⟩ | ⟨q1, q2⟩
      · cases s with
        | v d => cases q4
        | p k0 t0 => cases q4
        | o t0 =>
          cases q4
          obtain ⟨d, p1, p2, p3⟩ := h1 j t0 q3
          have hj := List.mem_of_getElem? q1
          have z := hw j hj
          rcases z.2.2 with ⟨_, _, eA⟩ | ⟨_, _, e, _⟩
          · have := has k (w j).1 (w j).2 t (inQ k j q1) q2
            rw [eA] at this
            exact ⟨(w j).2, z.1, this, p3, p2.lt⟩
          · rw [q3] at e; cases e
      · obtain ⟨d, p1, p2, p3⟩ := h1 j t q2
        exact ⟨d, p1, p2.frame fun a ha => out' a (p2.lt a ha) fun i hi ha' => apart i j _ _ (fun z => q1 (z ▸ hi)) (hw' i hi) (.inl ⟨t, q2, rfl⟩) a ha' ha, p3, p2.lt⟩
    refine ⟨by rw [List.length_set, put_len]; exact l1, fun j e h => ?_, ⟨fun j => if j = i then A else As j, fun j u h => ?_, fun j k u v hn h h' => ?_⟩, fun j k u h => ?_, fun j l k u v h h' => ?_, l6, l7⟩
    · by_cases hj : i = j
      · subst hj; have := (lk_put_eq h).1; cases this
      · rw [lk_put_ne hj] at h
        rw [set_get hj]; exact l2 j e h
    · by_cases hj : i = j
      · subst hj
        obtain ⟨q, hl'⟩ := lk_put_eq h
        cases q
        exact ⟨x, List.getElem?_set_self (by rw [l1]; exact hl'), by simpa using hx, by simp only [if_true]; exact fun a ha => Nat.le_trans r.fr.len (hA a ha)⟩
      · rw [lk_put_ne hj] at h
        obtain ⟨e, q1, q2, q3, q4⟩ := own j u h
        simp only [if_neg (Ne.symm hj)]
        exact ⟨e, by rw [set_get hj]; exact q1, q2, q3⟩
    · by_cases hj : i = j
      · subst hj
        rw [lk_put_ne hn] at h'
        obtain ⟨e, q1, q2, q3, q4⟩ := own k v h'
        simp only [if_true, if_neg (Ne.symm hn)]
        intro a ha hk
        have := q4 a hk
        have := hA a ha
        omega
      · rw [lk_put_ne hj] at h
        by_cases hk : i = k
        · subst hk
          obtain ⟨e, q1, q2, q3, q4⟩ := own j u h
          simp only [if_true, if_neg hn]
          intro a ha hk
          have := q4 a ha
          have := hA a hk
          omega
        · rw [lk_put_ne hk] at h'
          simp only [if_neg (Ne.symm hj), if_neg (Ne.symm hk)]
          obtain ⟨s, q1, t1, q2⟩ := kind j _ h
          obtain ⟨s', q1', u1, q2'⟩ := kind k _ h'
          subst q2; subst q2'
          exact h2 j k t1 u1 hn q1 q1'
    · by_cases hj : i = j
      · subst hj; have := (lk_put_eq h).1; cases this
      · rw [lk_put_ne hj] at h
        obtain ⟨B, e, q1, q2, q3⟩ := l4 j k u h
        exact ⟨B, e, q1, by rw [set_get hj]; exact q2, q3⟩
    · by_cases hj : i = j
      · subst hj; have := (lk_put_eq h).1; cases this
      · rw [lk_put_ne hj] at h
        by_cases hk : i = l
        · subst hk; have := (lk_put_eq h').1; cases this
        · rw [lk_put_ne hk] at h'; exact l5 j l k u v h h'
theorem fit_args {ρ : En} {Γ : Ga} {b : M} {P : Ps} {m : M} (r : Rel b P Γ ρ m) {sl : List Nat} {Q : Ps}
    (hQ : ∀ (k i : Nat) (s : S) (t : T), sl[k]? = some i → lk Γ i = some s → treeOf s = some t → ∃ A d, Q[k]? = some (A, d) ∧ ρ[i]? = some (some d) ∧ Has m A d t) :
    ∀ {as : List Ar} {ss : List S} {ds : List D}, Fit Γ sl as ss → ArV ρ as ds → ArgR m Q ss ds
  | [], [], [], _, _ => trivial
  | .v d :: as, .v e :: ss, x :: xs, h, a => by
    obtain ⟨rfl, h⟩ := h
    exact ⟨a.1, fit_args r hQ h a.2⟩
  | .s i :: as, .p k t :: ss, x :: xs, h, a => by
    obtain ⟨⟨⟨s, h1, h2⟩, h3⟩, h⟩ := h
    obtain ⟨A, d, q1, q2, q3⟩ := hQ k i s t h3 h1 h2
    have e : d = x := by
      have := a.1
      rw [q2] at this
      simpa using this
    subst e
    exact ⟨⟨A, q1, q3⟩, fit_args r hQ h a.2⟩
  | .s i :: as, .v e :: ss, x :: xs, h, a => by
    obtain ⟨h1, h⟩ := h
    obtain ⟨q1, q2⟩ := r.v i e h1
    have e : x = e := by
      have := a.1
      rw [q1] at this
      simpa using this.symm
    exact ⟨⟨e, q2⟩, fit_args r hQ h a.2⟩
  | [], [], _ :: _, _, h => h.elim
  | [], _ :: _, _, h, _ => h.elim
  | .v _ :: _, [], _, h, _ => h.elim
  | .s _ :: _, [], _, h, _ => h.elim
  | .v _ :: _, _ :: _, [], _, h => h.elim
  | .s _ :: _, _ :: _, [], _, h => h.elim
  | .v _ :: _, .o _ :: _, _ :: _, h, _ => h.elim
  | .v _ :: _, .p _ _ :: _, _ :: _, h, _ => h.elim
  | .s _ :: _, .o _ :: _, _ :: _, h, _ => h.elim
end
section
variable {α β : Type} {F : Fn} {args : SA} {Γ : Ga} {t : Option α} {fs : α → List Ar} {G : α → Ga} {u : α → Option β} {f : α → β → Out}
theorem call_fn (sl : List Nat) (ts : α → β → List T) {val : α → β → D} {ss : α → List S} (hA : GA args Γ t fs G) (hF : ∀ a, FnT F (ss a) (u a) (f a)) (nd : sl.Nodup) (hsl : ∀ a, ∀ i ∈ sl, ∃ s t, lk (G a) i = some s ∧ treeOf s = some t) (np : ∀ a, (pix (ss a)).Nodup) (hfit : ∀ a, Fit (G a) sl (fs a) (ss a))
    (hl : ∀ a b, (ts a b).length = sl.length) (hf : ∀ a b, f a b = .rt (val a b) (ts a b) ∨ (f a b = .fin (ts a b) ∧ val a b = .non)) :
    EV (sCall F args) Γ (pairB t u) (fun c => val c.1 c.2) (fun c => putTs (G c.1) sl (ts c.1 c.2)) := fun c hc b P ρ m r => by
  unfold pairB at hc
  obtain ⟨a, ha, hc⟩ := Option.bind_eq_some_iff.mp hc
  obtain ⟨y, hy, hc⟩ := Option.bind_eq_some_iff.mp hc
  cases hc
  obtain ⟨ds, m1, e1, r1, av⟩ := hA a ha b P ρ m r
  obtain ⟨Q, _, hQ, pd, go⟩ := r1.trees sl nd (hsl a)
  have o := hF a y hy Q ds m1 pd (np a) (fit_args r1 hQ (hfit a) av)
  rcases hf a y with e | ⟨e, ev⟩
  · rw [e] at o
    obtain ⟨m', e2, e3, e4, fin⟩ := o
    exact ⟨m', by simp only [sCall, e1, bind_ok, e2], e3, (go m' _ fin.fr (hl a y) fin.has).1⟩
  · rw [e] at o
    obtain ⟨m', e2, e4, fin⟩ := o
    exact ⟨m', by simp only [sCall, e1, bind_ok, e2, ev], by show noRef (val a y) = true; rw [ev]; rfl, (go m' _ fin.fr (hl a y) fin.has).1⟩
theorem call_new (sl : List Nat) (ts : α → β → List T) {val : α → β → T} {ss : α → List S} (hA : GA args Γ t fs G) (hF : ∀ a, FnT F (ss a) (u a) (f a)) (nd : sl.Nodup) (hsl : ∀ a, ∀ i ∈ sl, ∃ s t, lk (G a) i = some s ∧ treeOf s = some t) (np : ∀ a, (pix (ss a)).Nodup) (hfit : ∀ a, Fit (G a) sl (fs a) (ss a))
    (hl : ∀ a b, (ts a b).length = sl.length) (hf : ∀ a b, f a b = .rl (val a b) (ts a b)) :
    EO (sCall F args) Γ (pairB t u) (fun c => val c.1 c.2) (fun c => putTs (G c.1) sl (ts c.1 c.2)) := fun c hc b P ρ m r => by
  unfold pairB at hc
  obtain ⟨a, ha, hc⟩ := Option.bind_eq_some_iff.mp hc
  obtain ⟨y, hy, hc⟩ := Option.bind_eq_some_iff.mp hc
  cases hc
  obtain ⟨ds, m1, e1, r1, av⟩ := hA a ha b P ρ m r
  obtain ⟨Q, _, hQ, pd, go⟩ := r1.trees sl nd (hsl a)
  have o := hF a y hy Q ds m1 pd (np a) (fit_args r1 hQ (hfit a) av)
  rw [hf] at o
  obtain ⟨A, x, m', e2, e3, e4, fin⟩ := o
  exact ⟨x, m', by simp only [sCall, e1, bind_ok, e2], fun i => (go m' _ fin.fr (hl a y) fin.has).2 i A x _ e3 e4⟩
theorem fn_p {ds : List D} {v : β → D} {w : Option β} (hA : AP args Γ ds) (hF : FnT F (ds.map .v) w (fun b => .rt (v b) [])) : EV (sCall F args) Γ w v (fun _ => Γ) := fun y hy b P ρ m r => by
  obtain ⟨e1, n1⟩ := hA b P ρ m r
  have np : (pix (ds.map S.v)) = [] := by
    clear hA hF e1 n1
    induction ds with
    | nil => rfl
    | cons d ds ih => exact ih
  have ar : ∀ ds : List D, noRefs ds = true → ArgR m [] (ds.map .v) ds := by
    intro ds
    induction ds with
    | nil => intro _; trivial
    | cons d ds ih => intro h; obtain ⟨h1, h2⟩ := noRefs_cons h; exact ⟨⟨rfl, h1⟩, ih h2⟩
  obtain ⟨m', e2, e3, e4, fin⟩ := hF y hy [] ds m ⟨fun k A d h => by simp at h, fun k l A B d e _ h => by simp at h⟩ (by rw [np]; exact List.nodup_nil) (ar ds n1)
  have em : m' = m := by
    apply List.ext_getElem?
    intro j
    rcases Nat.lt_or_ge j m.length with q | q
    · have : j < m'.length := by omega
      rw [List.getElem?_eq_getElem this]
      rcases fin.fr.old j _ q (List.getElem?_eq_getElem this) with z | ⟨⟨k, A, d, z, _⟩, _⟩
      · exact z.symm
      · simp at z
    · rw [List.getElem?_eq_none q, List.getElem?_eq_none (by omega)]
  subst em
  exact ⟨m', by simp only [sCall, e1, bind_ok, e2], e3, r⟩
theorem fn_m {ds : α → List D} {v : α → β → D} {w : α → Option β} (hA : AV args Γ t ds G) (hF : ∀ a, FnT F ((ds a).map .v) (w a) (fun b => .rt (v a b) [])) : EV (sCall F args) Γ (pairB t w) (fun c => v c.1 c.2) (fun c => G c.1) := fun c hc b P ρ m r => by
  unfold pairB at hc
  obtain ⟨a, ha, hc⟩ := Option.bind_eq_some_iff.mp hc
  obtain ⟨y, hy, hc⟩ := Option.bind_eq_some_iff.mp hc
  cases hc
  obtain ⟨m1, e1, n1, r1⟩ := hA a ha b P ρ m r
  have h := fn_p (F := F) (args := fun _ m => .ok (ds a) m) (Γ := G a) (fun b P ρ m _ => ⟨rfl, n1⟩) (hF a)
  obtain ⟨m2, e2, n2, r2⟩ := h y hy b P ρ m1 r1
  refine ⟨m2, ?_, n2, r2⟩
  have : F (ds a) m1 = .ok (v a y) m2 := e2
  simp only [sCall, e1, bind_ok, this]
end
end Vi
namespace Vi
open PySem PySem.Spec PyProof.Rows L2
section
variable {i j : Int}
theorem f_add : okDs [D.int i, D.int j] → ∀ m, g2 gAdd [.int i, .int j] m = .ok (.int (i + j)) m ∧ okD (.int (i + j)) := fun _ _ => ⟨rfl, rfl⟩
theorem f_sub : okDs [D.int i, D.int j] → ∀ m, g2 Vi.gSub [.int i, .int j] m = .ok (.int (i - j)) m ∧ okD (.int (i - j)) := fun _ _ => ⟨rfl, rfl⟩
def mulO (i j : Int) : Option Int := if i.natAbs.log2 + j.natAbs.log2 < 1000000 then some (i * j) else none
def divO (i j : Int) : Option Int := if 0 < j ∧ j.natAbs.log2 < 9000 then some (i / j) else none
def modO (i j : Int) : Option Int := if 0 < j then some (i % j) else none
theorem f_mul : okDs [D.int i, D.int j] → ∀ x, mulO i j = some x → ∀ m, g2 Vi.gMul [.int i, .int j] m = .ok (.int x) m ∧ okD (.int x) := fun _ x hx m => by
  unfold mulO at hx
  split at hx
  · cases hx; exact ⟨by simp only [g2, Vi.gMul, gI]; rw [if_pos (by simpa using ‹_›)], rfl⟩
  · cases hx
theorem f_div : okDs [D.int i, D.int j] → ∀ x, divO i j = some x → ∀ m, g2 Vi.gDiv [.int i, .int j] m = .ok (.int x) m ∧ okD (.int x) := fun _ x hx m => by
  unfold divO at hx
  split at hx
  · cases hx; exact ⟨by simp only [g2, Vi.gDiv, gI]; rw [if_pos (by simpa using ‹_›)], rfl⟩
  · cases hx
theorem f_mod : okDs [D.int i, D.int j] → ∀ x, modO i j = some x → ∀ m, g2 Vi.gMod [.int i, .int j] m = .ok (.int x) m ∧ okD (.int x) := fun _ x hx m => by
  unfold modO at hx
  split at hx
  · cases hx; exact ⟨by simp only [g2, Vi.gMod, gI]; rw [if_pos (by simpa using ‹_›)], rfl⟩
  · cases hx
theorem f_divL (h : 0 < j ∧ j.natAbs.log2 < 9000) : okDs [D.int i, D.int j] → ∀ m, g2 Vi.gDiv [.int i, .int j] m = .ok (.int (i / j)) m ∧ okD (.int (i / j)) := fun _ m => ⟨by simp only [g2, Vi.gDiv, gI]; rw [if_pos (by simpa using h)], rfl⟩
theorem f_modL (h : 0 < j) : okDs [D.int i, D.int j] → ∀ m, g2 Vi.gMod [.int i, .int j] m = .ok (.int (i % j)) m ∧ okD (.int (i % j)) := fun _ m => ⟨by simp only [g2, Vi.gMod, gI]; rw [if_pos (by simpa using h)], rfl⟩
theorem f_mulL (h : i.natAbs.log2 + j.natAbs.log2 < 1000000) : okDs [D.int i, D.int j] → ∀ m, g2 Vi.gMul [.int i, .int j] m = .ok (.int (i * j)) m ∧ okD (.int (i * j)) := fun _ m => ⟨by simp only [g2, Vi.gMul, gI]; rw [if_pos (by simpa using h)], rfl⟩
theorem f_powL (h : (0 ≤ j ∧ j ≤ 1000000) ∧ i.natAbs < 2 ^ 64) : okDs [D.int i, D.int j] → ∀ m, g2 Vi.gPow [.int i, .int j] m = .ok (.int (i ^ j.toNat)) m ∧ okD (.int (i ^ j.toNat)) := fun _ m => ⟨by simp only [g2, Vi.gPow, gI]; rw [if_pos (by simp only [Bool.and_eq_true, decide_eq_true_eq]; exact h)], rfl⟩
theorem f_neg : okD (D.int i) → ∀ m, gI1 (fun i => -i) (.int i) m = .ok (.int (-i)) m ∧ okD (.int (-i)) := fun _ _ => ⟨rfl, rfl⟩
theorem f_abs : okDs [D.int i] → ∀ m, gAbs [.int i] m = .ok (.int (if i < 0 then -i else i)) m ∧ okD (.int (if i < 0 then -i else i)) := fun _ _ => ⟨rfl, rfl⟩
theorem f_max2 : okDs [D.int i, D.int j] → ∀ m, gMax2 [.int i, .int j] m = .ok (.int (if j > i then j else i)) m ∧ okD (.int (if j > i then j else i)) := fun _ _ => ⟨rfl, rfl⟩
theorem f_min2 : okDs [D.int i, D.int j] → ∀ m, gMin2 [.int i, .int j] m = .ok (.int (if j < i then j else i)) m ∧ okD (.int (if j < i then j else i)) := fun _ _ => ⟨rfl, rfl⟩
theorem f_lt : okDs [D.int i, D.int j] → ∀ m, g2 gLt [.int i, .int j] m = .ok (decide (i < j)) m ∧ okT (decide (i < j)) := fun _ _ => ⟨rfl, trivial⟩
theorem f_le : okDs [D.int i, D.int j] → ∀ m, g2 gLe [.int i, .int j] m = .ok (decide (i ≤ j)) m ∧ okT (decide (i ≤ j)) := fun _ _ => ⟨rfl, trivial⟩
theorem f_gt : okDs [D.int i, D.int j] → ∀ m, g2 gGt [.int i, .int j] m = .ok (decide (j < i)) m ∧ okT (decide (j < i)) := fun _ _ => ⟨rfl, trivial⟩
theorem f_ge : okDs [D.int i, D.int j] → ∀ m, g2 gGe [.int i, .int j] m = .ok (decide (j ≤ i)) m ∧ okT (decide (j ≤ i)) := fun _ _ => ⟨rfl, trivial⟩
end
def IsPy {α : Type} (f : α → D) (p : α → PyData) (k : Nat) : Prop := (∀ a m, toPy (f a) m = some (p a)) ∧ (∀ a, (p a).canLay0 = true) ∧ ∀ a, (p a).depth ≤ k
def IsEq {α : Type} (p : α → PyData) : Prop := ∀ a b, PyData.eqv (p a) (p b) = true ↔ a = b
abbrev pI : Int → PyData := .int
abbrev pB : Bool → PyData := .bool
abbrev p0 : Unit → PyData := fun _ => .tuple []
abbrev p2 {α β : Type} (p : α → PyData) (q : β → PyData) (x : α × β) : PyData := .tuple [p x.1, q x.2]
abbrev p3 {α β γ : Type} (p : α → PyData) (q : β → PyData) (r : γ → PyData) (x : α × β × γ) : PyData := .tuple [p x.1, q x.2.1, r x.2.2]
section
variable {α β γ : Type} {f : α → D} {g : β → D} {h : γ → D} {p : α → PyData} {q : β → PyData} {r : γ → PyData} {k l n : Nat}
theorem y_I : IsPy D.int pI 0 := ⟨fun _ _ => rfl, fun _ => rfl, fun _ => Nat.le_refl _⟩
theorem y_B : IsPy D.bl pB 0 := ⟨fun _ _ => rfl, fun _ => rfl, fun _ => Nat.le_refl _⟩
theorem q_I : IsEq pI := fun a b => by simp [PyData.eqv]
theorem q_B : IsEq pB := fun a b => by simp [PyData.eqv]
theorem eq_gen {x y : D} {dx dy : PyData} {m : M} (hx : toPy x m = some dx) (hy : toPy y m = some dy) (sx : SeqAt.shaped dx = true) (sy : SeqAt.shaped dy = true) : gEq x y m = .ok (PyData.eqv dx dy) m ∧ gNe x y m = .ok (!PyData.eqv dx dy) m := by
  have r : ∀ (x : D) (d : PyData), toPy x m = some d → toPyR x m = some d := by
    intro x d h
    cases x with
    | ref n => simp [toPy] at h
    | _ => exact h
  have g1 : gEqD x y m = .ok (PyData.eqv dx dy) m := by simp only [gEqD, r _ _ hx, r _ _ hy, sx, sy, if_true]
  have g2 : gNeD x y m = .ok (!PyData.eqv dx dy) m := by simp only [gNeD, r _ _ hx, r _ _ hy, sx, sy, if_true]
  cases x with
  | str a => cases y with
    | str b =>
      simp only [toPy, Option.some.injEq] at hx hy
      subst hx; subst hy
      exact ⟨rfl, rfl⟩
    | _ => exact ⟨g1, g2⟩
  | _ => exact ⟨g1, g2⟩
theorem shaped_of (y : IsPy f p k) (hk : k ≤ 64) (a : α) : SeqAt.shaped (p a) = true := by
  simp only [SeqAt.shaped, y.2.1 a, Bool.true_and, decide_eq_true_eq]
  exact Nat.le_trans (y.2.2 a) hk
theorem f_eq [DecidableEq α] (y : IsPy f p k) (e : IsEq p) (hk : k ≤ 64) {a b : α} : okDs [f a, f b] → ∀ m, g2 gEq [f a, f b] m = .ok (decide (a = b)) m ∧ okT (decide (a = b)) := fun _ m => by
  refine ⟨?_, trivial⟩
  show gEq (f a) (f b) m = _
  rw [(eq_gen (y.1 a m) (y.1 b m) (shaped_of y hk a) (shaped_of y hk b)).1]
  congr 1
  rw [Bool.eq_iff_iff, e a b, decide_eq_true_eq]
theorem f_ne [DecidableEq α] (y : IsPy f p k) (e : IsEq p) (hk : k ≤ 64) {a b : α} : okDs [f a, f b] → ∀ m, g2 gNe [f a, f b] m = .ok (!decide (a = b)) m ∧ okT (!decide (a = b)) := fun _ m => by
  refine ⟨?_, trivial⟩
  show gNe (f a) (f b) m = _
  rw [(eq_gen (y.1 a m) (y.1 b m) (shaped_of y hk a) (shaped_of y hk b)).2]
  congr 2
  rw [Bool.eq_iff_iff, e a b, decide_eq_true_eq]
theorem f_eqS {a b : Str} : okDs [D.str a, D.str b] → ∀ m, g2 gEq [.str a, .str b] m = .ok (decide (a = b)) m ∧ okT (decide (a = b)) := fun _ m => ⟨by
  show R.ok (a == b) m = _
  congr 1, trivial⟩
mutual
theorem toPy_mem {m m' : M} : ∀ x : D, toPy x m = toPy x m'
  | .non => rfl
  | .bl _ => rfl
  | .int _ => rfl
  | .str _ => rfl
  | .ref _ => rfl
  | .exc _ => rfl
  | .emp => rfl
  | .obj _ _ _ => rfl
  | .tup xs => by simp only [toPy, toPys_mem (m := m) (m' := m') xs]
  | .lst xs => by simp only [toPy, toPys_mem (m := m) (m' := m') xs]
  | .frz xs => by simp only [toPy, toPys_mem (m := m) (m' := m') xs]
theorem toPys_mem {m m' : M} : ∀ xs : List D, toPys xs m = toPys xs m'
  | [] => rfl
  | x :: xs => by simp only [toPys, toPy_mem (m := m) (m' := m') x, toPys_mem (m := m) (m' := m') xs]
end
def repO (d : PyData) : Option Str := if d.showable = true ∧ d.shown.length ≤ big then some d.shown else none
end
theorem noRefs_iff : ∀ {xs : List D}, noRefs xs = true ↔ ∀ x ∈ xs, noRef x = true
  | [] => by simp [noRefs]
  | x :: xs => by simp only [noRefs, Bool.and_eq_true, noRefs_iff (xs := xs), List.mem_cons, forall_eq_or_imp]
theorem ok1 {x : D} (h : okDs [x]) : noRef x = true := (noRefs_cons h).1
theorem ok2 {x y : D} (h : okDs [x, y]) : noRef x = true ∧ noRef y = true := ⟨(noRefs_cons h).1, (noRefs_cons (noRefs_cons h).2).1⟩
section
variable {α β : Type} {f : α → D} {g : β → D} {xs ys : List α} {us : List β} {i : Int}
theorem f_lenZ : okDs [eZ f xs] → ∀ m, gLen [eZ f xs] m = .ok (.int xs.length) m ∧ okD (.int xs.length) := fun _ m => ⟨by simp only [gLen, asSeq, List.length_map], rfl⟩
theorem atI_map (i : Int) : atI (xs.map f) i = (atI xs i).map f := by
  unfold atI
  rw [List.length_map]
  cases ixN xs.length i with
  | none => rfl
  | some j => simp
theorem atI_mem {x : α} (h : atI xs i = some x) : x ∈ xs := by
  unfold atI at h
  obtain ⟨j, _, h2⟩ := Option.bind_eq_some_iff.mp h
  exact List.mem_of_getElem? h2
theorem f_ixL : okDs [eL f xs, .int i] → ∀ x, atI xs i = some x → ∀ m, g2 gIx [eL f xs, .int i] m = .ok (f x) m ∧ okD (f x) := fun o x hx m => ⟨by
  simp only [g2, gIx, asSeq, atI_map, hx, Option.map_some], noRefs_iff.mp (ok2 o).1 _ (List.mem_map_of_mem (atI_mem hx))⟩
theorem f_ixZ : okDs [eZ f xs, .int i] → ∀ x, atI xs i = some x → ∀ m, g2 gIx [eZ f xs, .int i] m = .ok (f x) m ∧ okD (f x) := fun o x hx m => ⟨by
  simp only [g2, gIx, asSeq, atI_map, hx, Option.map_some], noRefs_iff.mp (ok2 o).1 _ (List.mem_map_of_mem (atI_mem hx))⟩
theorem f_ixD {ds : List D} {d : D} (h : atI ds i = some d) : okDs [.tup ds, .int i] → ∀ m, g2 gIx [.tup ds, .int i] m = .ok d m ∧ okD d := fun o m => ⟨by
  simp only [g2, gIx, asSeq, h], noRefs_iff.mp (ok2 o).1 _ (atI_mem h)⟩
def ixA (x : D) (i : Int) : Option D := match x with
  | .tup xs => atI xs i
  | .lst xs => atI xs i
  | _ => none
theorem f_ixA {x : D} : okDs [x, .int i] → ∀ y, ixA x i = some y → ∀ m, g2 gIx [x, .int i] m = .ok y m ∧ okD y := fun o y hy m => by
  unfold ixA at hy
  split at hy
  · exact ⟨by simp only [g2, gIx, asSeq, hy], noRefs_iff.mp (ok2 o).1 _ (atI_mem hy)⟩
  · exact ⟨by simp only [g2, gIx, asSeq, hy], noRefs_iff.mp (ok2 o).1 _ (atI_mem hy)⟩
  · cases hy
def catO {α : Type} (xs ys : List α) : Option (List α) := if xs.length + ys.length ≤ big then some (xs ++ ys) else none
theorem noRefs_app {a b : List D} (h : noRefs a = true) (h' : noRefs b = true) : noRefs (a ++ b) = true := noRefs_iff.mpr fun x hx => by
  rcases List.mem_append.mp hx with q | q
  · exact noRefs_iff.mp h x q
  · exact noRefs_iff.mp h' x q
theorem f_catT : okDs [eT f xs, eT f ys] → ∀ zs, catO xs ys = some zs → ∀ m, g2 gCatT [eT f xs, eT f ys] m = .ok (eT f zs) m ∧ okD (eT f zs) := fun o zs hz m => by
  unfold catO at hz
  split at hz
  · rename_i h
    cases hz
    refine ⟨by simp only [g2, gCatT, List.length_map, h, if_true, eT, List.map_append], ?_⟩
    show noRefs ((xs ++ ys).map f) = true
    rw [List.map_append]
    exact noRefs_app (ok2 o).1 (ok2 o).2
  · cases hz
theorem f_listT : okDs [eT f xs] → ∀ m, gList [eT f xs] m = .ok (xs.map f) m ∧ okDs (xs.map f) := fun o m => ⟨rfl, ok1 o⟩
def gIS : D → M → R (List D) := fun x m => match fixS x with
  | some xs => .ok xs m
  | none => .bad
theorem i_p {e : SE} {Γ : Ga} {x : D} {ds : List D} (h : EP e Γ x) (hx : fixS x = some ds) (hd : noRef x = noRefs ds := by rfl) : AP (iS e) Γ ds := op_p (ok' := okDs) (g := gIS) h fun o m => ⟨by simp only [gIS, hx], by show noRefs ds = true; rw [← hd]; exact o⟩
def gEnS : List D → M → R (List D) := fun xs m => match xs with
  | [x] => match fixS x with
    | some ys => .ok (enumD ys) m
    | none => .bad
  | _ => .bad
def irg (lo : Int) (n : Nat) : List Int := (List.range n).map fun (i : Nat) => lo + (i : Int)
theorem rngD_irg (lo : Int) (n : Nat) : rngD lo 1 n = (irg lo n).map D.int := by
  unfold rngD irg
  rw [List.map_map]
  apply List.map_congr_left
  intro i _
  simp
theorem noRefs_int (ns : List Int) : noRefs (ns.map D.int) = true := noRefs_iff.mpr fun x hx => by obtain ⟨_, _, rfl⟩ := List.mem_map.mp hx; rfl
def rgO (lo hi : Int) : Option (List Int) := if (-lim62 ≤ lo ∧ lo < lim62) ∧ -lim62 ≤ hi ∧ hi < lim62 then some (irg lo (hi - lo).toNat) else none
def gRg1 : List D → M → R (List D) := fun xs m => match xs with
  | [.int j] => if -lim62 ≤ j ∧ j < lim62 then .ok (rngD 0 1 j.toNat) m else .bad
  | _ => .bad
theorem f_rg1 {j : Int} : okDs [D.int j] → ∀ xs, rgO 0 j = some xs → ∀ m, gRg1 [.int j] m = .ok (xs.map D.int) m ∧ okDs (xs.map D.int) := fun _ xs hx m => by
  unfold rgO at hx
  split at hx
  · rename_i h; cases hx; exact ⟨by simp only [gRg1]; rw [if_pos h.2, rngD_irg, Int.sub_zero], noRefs_int _⟩
  · cases hx
theorem rg1_c {es : SA} {Γ : Ga} {j : Int} (h : AP es Γ [.int j]) : AV (iR1 es) Γ (rgO 0 j) (fun xs => xs.map D.int) (fun _ => Γ) := op_c (ok' := okDs) (g := gRg1) h f_rg1
end
end Vi
namespace Vi
open PySem PySem.Spec PyProof.Rows L2
def Cbm {γ : Type} (g : SG) (t : SB) (el : SE) (d : D) (Γ : Ga) (u : Option γ) (y : γ → Option D) (G : γ → Ga) : Prop := noRef d = true → ∀ a, u = some a → ∀ b P ρ m, Rel b P Γ ρ m → ∃ ρ1, g d ρ m = .ok ρ1 m ∧ match y a with
  | some z => ∃ m1 m2, t ρ1 m = .ok true m1 ∧ el ρ1 m1 = .ok z m2 ∧ noRef z = true ∧ Rel b P (G a) ρ m2
  | none => ∃ m1, t ρ1 m = .ok false m1 ∧ Rel b P (G a) ρ m1
section
variable {α β γ σ : Type} {Γ : Ga} {own : List Nat} {src : SA} {g : SG} {t : SB} {el : SE} {d e k : D} {i j l : Nat} {q : Bool} {y : D}
theorem Cbm.map {γ' : Type} {u : Option γ} {y : γ → Option D} {G : γ → Ga} (h : Cbm g t el d Γ u y G) (v : γ → γ') {y' : γ' → Option D} {G' : γ' → Ga} (hy : ∀ a, y a = y' (v a)) (hG : ∀ a, G a = G' (v a)) : Cbm g t el d Γ (u.map v) y' G' := fun hd c hc b P ρ m r => by
  obtain ⟨a, ha, rfl⟩ := Option.map_eq_some_iff.mp hc
  rw [← hy, ← hG]
  exact h hd a ha b P ρ m r
end
def stO {β : Type} (xs : List β) (k : Int) (v : β) : Option (List β) := (ixN xs.length k).map fun j => xs.set j v
theorem chg_lst {m : M} {n : Nat} {xs ys : List D} (h : m[n]? = some (.lst xs)) (hy : noRefs ys = true) : Chg [n] m (m.set n (.lst ys)) ∧ Has (m.set n (.lst ys)) [n] (.ref n) (.lst ys) := by
  have hn := (List.getElem?_eq_some_iff.mp h).1
  exact ⟨⟨List.length_set .., fun j hj => List.getElem?_set_ne fun e => hj (by simp [e])⟩, .lst (List.getElem?_set_self hn) hy⟩
section
variable {α β γ : Type} {Γ : Ga} {c : SS} {t : Option α} {F : α → Out} {o e ix : SE} {f : β → D} {xs : List β} {up : T → Ga}
theorem noRefs_set {xs : List D} {j : Nat} {v : D} (h : noRefs xs = true) (hv : noRef v = true) : noRefs (xs.set j v) = true := noRefs_iff.mpr fun x hx => by
  rcases List.mem_or_eq_of_mem_set hx with q | q
  · exact noRefs_iff.mp h x q
  · rw [q]; exact hv
theorem sim_set {v : β} {kx : Int} {K : List β → Option α} (hv : EP e Γ (f v)) (hp : Pl o Γ (trL f xs) up) (hi : EP ix Γ (.int kx)) (k : ∀ zs, Sim c (up (trL f zs)) (K zs) F) : Sim (sSeq (sAsg e (gSb o ix)) c) Γ ((stO xs kx v).bind K) F := fun y hy b P ρ m r => by
  obtain ⟨zs, hzs, hy⟩ := Option.bind_eq_some_iff.mp hy
  unfold stO at hzs
  obtain ⟨j, hj, rfl⟩ := Option.map_eq_some_iff.mp hzs
  obtain ⟨A, d, h1, h2, h3⟩ := hp b P ρ m r
  obtain ⟨e1, e2⟩ := hv b P ρ m r
  obtain ⟨i1, _⟩ := hi b P ρ m r
  cases h2 with
  | @lst n _ hm hn =>
    have hz : noRefs ((xs.set j v).map f) = true := by
      rw [List.map_set]
      exact noRefs_set hn e2
    obtain ⟨ch, hh⟩ := chg_lst hm hz
    have := k _ y hy b P ρ _ (h3 _ _ ch hh)
    have ev : setIt (.ref n) (.int kx) (f v) m = .ok () (m.set n (.lst ((xs.set j v).map f))) := by
      simp only [setIt, hm, List.length_map, hj, List.map_set]
    simpa only [sSeq, sAsg, gSb, e1, toO_ok, h1, bind_ok, i1, ev, then_nx] using this
theorem sim_setM {w : Option γ} {fv : γ → D} {G : γ → Ga} {v : γ → β} {xs : γ → List β} {kx : γ → Int} {up : γ → T → Ga} {K : γ → List β → Option α} (he : EV e Γ w fv G) (hv : ∀ z, fv z = f (v z)) (hp : ∀ z, Pl o (G z) (trL f (xs z)) (up z)) (hi : ∀ z, EP ix (G z) (.int (kx z))) (k : ∀ z zs, Sim c (up z (trL f zs)) (K z zs) F) :
    Sim (sSeq (sAsg e (gSb o ix)) c) Γ (w.bind fun z => (stO (xs z) (kx z) (v z)).bind (K z)) F := fun y hy b P ρ m r => by
  obtain ⟨z, hz, hy⟩ := Option.bind_eq_some_iff.mp hy
  obtain ⟨zs, hzs, hy⟩ := Option.bind_eq_some_iff.mp hy
  unfold stO at hzs
  obtain ⟨j, hj, rfl⟩ := Option.map_eq_some_iff.mp hzs
  obtain ⟨m1, e1, e2, r1⟩ := he z hz b P ρ m r
  rw [hv] at e1 e2
  obtain ⟨A, d, h1, h2, h3⟩ := hp z b P ρ m1 r1
  obtain ⟨i1, _⟩ := hi z b P ρ m1 r1
  cases h2 with
  | @lst n _ hm hn =>
    have hz : noRefs (((xs z).set j (v z)).map f) = true := by
      rw [List.map_set]
      exact noRefs_set hn e2
    obtain ⟨ch, hh⟩ := chg_lst hm hz
    have := k z _ y hy b P ρ _ (h3 _ _ ch hh)
    have ev : setIt (.ref n) (.int (kx z)) (f (v z)) m1 = .ok () (m1.set n (.lst (((xs z).set j (v z)).map f))) := by
      simp only [setIt, hm, List.length_map, hj, List.map_set]
    simpa only [sSeq, sAsg, gSb, e1, toO_ok, h1, bind_ok, i1, ev, then_nx] using this
theorem rd_call {g : List D → M → R D} {t0 : T} {d : D} (h : RdT o Γ t0) (hg : ∀ A x m, Has m A x t0 → g [x] m = .ok d m ∧ okD d) : EP (sCall g (sCons o sNil)) Γ d := fun b P ρ m r => by
  obtain ⟨A, x, h1, h2⟩ := h b P ρ m r
  obtain ⟨h3, h4⟩ := hg A x m h2
  exact ⟨by simp only [sCall, sCons, sNil, h1, bind_ok, h3], h4⟩
theorem o_tuple {xs : List β} : ∀ A x m, Has m A x (trL f xs) → gTuple [x] m = .ok (eT f xs) m ∧ okD (eT f xs) := fun A x m h => by
  cases h with
  | lst hm hn => exact ⟨by simp only [gTuple, asList, hm], hn⟩
theorem rd_ix {kx : Int} (h : RdT o Γ (trL f xs)) (hi : EP ix Γ (.int kx)) : EV (sBin gIx o ix) Γ (atI xs kx) f (fun _ => Γ) := fun z hz b P ρ m r => by
  obtain ⟨A, x, h1, h2⟩ := h b P ρ m r
  obtain ⟨i1, _⟩ := hi b P ρ m r
  cases h2 with
  | @lst n _ hm hn =>
    refine ⟨m, ?_, noRefs_iff.mp hn _ (List.mem_map_of_mem (atI_mem hz)), r⟩
    simp only [sBin, h1, bind_ok, i1, gIx, asSeq, hm, atI_map, hz, Option.map_some]
theorem cat_pm {e' : SE} {w : Option γ} {G : γ → Ga} {xs' : γ → List β} (h : EP o Γ (eL f xs)) (h' : EV e' Γ w (fun z => eL f (xs' z)) G) : AV (sCatL o e') Γ (pairB w fun z => catO xs (xs' z)) (fun c => c.2.map f) (fun c => G c.1) := fun c hc b P ρ m r => by
  unfold pairB at hc
  obtain ⟨z, hz, hc⟩ := Option.bind_eq_some_iff.mp hc
  obtain ⟨y, hy, hc⟩ := Option.bind_eq_some_iff.mp hc
  cases hc
  (try dsimp only at hy)
  unfold catO at hy
  split at hy
  · rename_i hl
    cases hy
    obtain ⟨h1, h2⟩ := h b P ρ m r
    obtain ⟨m1, i1, i2, r1⟩ := h' z hz b P ρ m r
    refine ⟨m1, ?_, ?_, r1⟩
    · simp only [sCatL, h1, bind_ok, i1, asLst, List.length_map, hl, if_true, List.map_append]
    · show noRefs ((xs ++ xs' z).map f) = true
      rw [List.map_append]
      exact noRefs_app h2 i2
  · cases hy
end
end Vi
namespace Vi
open PySem PySem.Spec PyProof.Rows L2
section
variable {α β γ δ σ : Type} {Γ : Ga} {a b : SB} {e e' : SE} {c : SS} {t : Option α} {F : α → Out}
theorem if_pE {q : SB} {k : Bool} (emb : α → D) {x y : α} (hq : TP q Γ k) (ha : EP e Γ (emb x)) (hb : EP e' Γ (emb y)) : EP (sIf q e e') Γ (emb (if k = true then x else y)) := (if_p hq ha hb).val (by split <;> rfl)
theorem and_g {k : Bool} {u : Option α} {f : α → Bool} {G : α → Ga} {z0 : α} (h : TP a Γ k) (h' : k = true → TV b Γ u f G) (hf : f z0 = false) (hw : Wk Γ (G z0)) : TV (sAnd a b) Γ (if k = true then u else some z0) f G := fun x hx b' P ρ m r => by
  obtain ⟨h1, _⟩ := h b' P ρ m r
  cases k with
  | true =>
    rw [if_pos rfl] at hx
    obtain ⟨m', h3, h4, h5⟩ := h' rfl x hx b' P ρ m r
    exact ⟨m', by simp only [sAnd, h1, bind_ok, if_true]; exact h3, h4, h5⟩
  | false =>
    simp only [Bool.false_eq_true, if_false, Option.some.injEq] at hx
    subst hx
    exact ⟨m, by simp only [sAnd, h1, bind_ok, hf]; rfl, trivial, r.wk hw⟩
theorem and_gm {w : Option γ} {fa : γ → Bool} {Ga' : γ → Ga} {u : γ → Option α} {f : α → Bool} {G : α → Ga} {z0 : γ → α} (h : TV a Γ w fa Ga') (h' : ∀ z, fa z = true → TV b (Ga' z) (u z) f G) (hf : ∀ z, f (z0 z) = false) (hw : ∀ z, Wk (Ga' z) (G (z0 z))) :
    TV (sAnd a b) Γ (w.bind fun z => if fa z = true then u z else some (z0 z)) f G := fun x hx b' P ρ m r => by
  obtain ⟨z, hz, hx⟩ := Option.bind_eq_some_iff.mp hx
  obtain ⟨m1, h1, _, r1⟩ := h z hz b' P ρ m r
  cases q : fa z with
  | true =>
    rw [q, if_pos rfl] at hx
    obtain ⟨m', h3, h4, h5⟩ := h' z q x hx b' P ρ m1 r1
    exact ⟨m', by simp only [sAnd, h1, bind_ok, q, if_true]; exact h3, h4, h5⟩
  | false =>
    rw [q] at hx
    simp only [Bool.false_eq_true, if_false, Option.some.injEq] at hx
    subst hx
    exact ⟨m1, by simp only [sAnd, h1, bind_ok, q, hf]; rfl, trivial, r1.wk (hw z)⟩
theorem or_gm {w : Option γ} {fa : γ → Bool} {Ga' : γ → Ga} {u : γ → Option α} {f : α → Bool} {G : α → Ga} {z0 : γ → α} (h : TV a Γ w fa Ga') (h' : ∀ z, fa z = false → TV b (Ga' z) (u z) f G) (hf : ∀ z, f (z0 z) = true) (hw : ∀ z, Wk (Ga' z) (G (z0 z))) :
    TV (sOr a b) Γ (w.bind fun z => if fa z = true then some (z0 z) else u z) f G := fun x hx b' P ρ m r => by
  obtain ⟨z, hz, hx⟩ := Option.bind_eq_some_iff.mp hx
  obtain ⟨m1, h1, _, r1⟩ := h z hz b' P ρ m r
  cases q : fa z with
  | false =>
    rw [q] at hx
    simp only [Bool.false_eq_true, if_false] at hx
    obtain ⟨m', h3, h4, h5⟩ := h' z q x hx b' P ρ m1 r1
    exact ⟨m', by simp only [sOr, h1, bind_ok, q]; exact h3, h4, h5⟩
  | true =>
    rw [q, if_pos rfl] at hx
    cases hx
    exact ⟨m1, by simp only [sOr, h1, bind_ok, q, hf]; rfl, trivial, r1.wk (hw z)⟩
theorem Rel.grow {b : M} {P : Ps} {ρ : En} {m : M} (r : Rel b P Γ ρ m) (x : Cell) : Rel b P Γ ρ (m ++ [x]) := by
  have g : ∀ (j : Nat), j < m.length → (m ++ [x])[j]? = m[j]? := fun j hj => List.getElem?_append_left hj
  obtain ⟨As, h1, h2⟩ := r.o
  exact ⟨r.len, r.v, ⟨As, fun i t h => let ⟨d, q1, q2, q3⟩ := h1 i t h; ⟨d, q1, q2.frame fun a ha => g a (q2.lt a ha), q3⟩, h2⟩, fun i k t h => let ⟨A, d, q1, q2, q3⟩ := r.p i k t h; ⟨A, d, q1, q2, q3.frame fun a ha => g a (q3.lt a ha)⟩, r.pi,
    ⟨by simp only [List.length_append]; have := r.fr.len; omega, fun j c hj hc => by rw [g j (Nat.lt_of_lt_of_le hj r.fr.len)] at hc; exact r.fr.old j c hj hc⟩, r.pd⟩
inductive It' where
  | v (d : D) | n (ds : List D) | dt (kvs : List (List Key × D))
end
section
variable {α β γ δ ε : Type} {Γ : Ga} {c : SS} {t : Option α} {F : α → Out} {i j l : Nat}
theorem sim_par3 {ds : SA} {w : Option γ} {fs : γ → List D} {G : γ → Ga} {x : γ → β} {y : γ → δ} {q : γ → ε} (em1 : β → D) (em2 : δ → D) (em3 : ε → D) {K : γ → β → δ → ε → Option α} (h : AV ds Γ w fs G) (hv : ∀ z, fs z = [em1 (x z), em2 (y z), em3 (q z)])
    (k : ∀ z u v s, Sim c (put (put (put (G z) i (some (.v (em1 u)))) j (some (.v (em2 v)))) l (some (.v (em3 s)))) (K z u v s) F) : Sim (sSeq (sPar3 i j l ds) c) Γ (w.bind fun z => vlet (x z) fun u => vlet (y z) fun v => vlet (q z) (K z u v)) F := fun a ha b P ρ m r => by
  obtain ⟨z, hz, ha⟩ := Option.bind_eq_some_iff.mp ha
  obtain ⟨m', h1, h2, h3⟩ := h z hz b P ρ m r
  rw [hv] at h1 h2
  have n1 := noRefs_cons h2
  have n2 := noRefs_cons n1.2
  have n3 := noRefs_cons n2.2
  have := k z (x z) (y z) (q z) a ha b P _ m' (((h3.put_v i n1.1).put_v j n2.1).put_v l n3.1)
  simpa only [sSeq, sPar3, h1, toO_ok, then_nx] using this
end
section
variable {α β : Type} {F : Fn} {args : SA} {Γ : Ga} {u : Option β} {f : β → Out}
theorem fn_exit' {n : Nat} {body : SS} {ss : List S} {Γ0 : Ga} {t : Option α} {f : α → Out} (hΓ : ga0 n ss = Γ0) (hf : ∀ a, (∃ d ts, f a = .rt d ts) ∨ (∃ ts, f a = .fin ts) ∨ ∃ c ts, f a = .ex c ts) (h : Sim body Γ0 t f) : FnT (exitF (runDef n body)) ss t f := by
  subst hΓ; exact fn_exit hf h
theorem fn_new' {n : Nat} {body : SS} {ss : List S} {Γ0 : Ga} {t : Option α} {f : α → Out} (hΓ : ga0 n ss = Γ0) (hf : ∀ a, ∃ t ts, f a = .rl t ts) (h : Sim body Γ0 t f) : FnT (runDef n body) ss t f := by
  subst hΓ; exact fn_new hf h
theorem call_fnP (sl : List Nat) (ts : β → List T) {val : β → D} {ss : List S} {ars : List Ar} {Γ' : Ga} (hA : GA args Γ (some ()) (fun _ => ars) (fun _ => Γ')) (hF : FnT F ss u f) (nd : sl.Nodup) (hsl : ∀ i ∈ sl, ∃ s t, lk Γ' i = some s ∧ treeOf s = some t) (np : (pix ss).Nodup) (hfit : Fit Γ' sl ars ss)
    (hl : ∀ b, (ts b).length = sl.length) (hf : ∀ b, f b = .rt (val b) (ts b) ∨ (f b = .fin (ts b) ∧ val b = .non)) :
    EV (sCall F args) Γ u val (fun c => putTs Γ' sl (ts c)) := fun y hy b P ρ m r => by
  have := call_fn (α := Unit) (t := some ()) (u := fun _ => u) (f := fun _ => f) sl (fun _ => ts) (val := fun _ => val) (ss := fun _ => ss) hA (fun _ => hF) nd (fun _ => hsl) (fun _ => np) (fun _ => hfit) (fun _ => hl) (fun _ => hf)
  exact this ((), y) (by simp [pairB, hy]) b P ρ m r
theorem call_newP (sl : List Nat) (ts : β → List T) {val : β → T} {ss : List S} {ars : List Ar} {Γ' : Ga} (hA : GA args Γ (some ()) (fun _ => ars) (fun _ => Γ')) (hF : FnT F ss u f) (nd : sl.Nodup) (hsl : ∀ i ∈ sl, ∃ s t, lk Γ' i = some s ∧ treeOf s = some t) (np : (pix ss).Nodup) (hfit : Fit Γ' sl ars ss)
    (hl : ∀ b, (ts b).length = sl.length) (hf : ∀ b, f b = .rl (val b) (ts b)) :
    EO (sCall F args) Γ u val (fun c => putTs Γ' sl (ts c)) := fun y hy b P ρ m r => by
  have := call_new (α := Unit) (t := some ()) (u := fun _ => u) (f := fun _ => f) sl (fun _ => ts) (val := fun _ => val) (ss := fun _ => ss) hA (fun _ => hF) nd (fun _ => hsl) (fun _ => np) (fun _ => hfit) (fun _ => hl) (fun _ => hf)
  exact this ((), y) (by simp [pairB, hy]) b P ρ m r
theorem sl_0 {Γ : Ga} : ∀ j ∈ ([] : List Nat), ∃ s t, lk Γ j = some s ∧ treeOf s = some t := fun j hj => by cases hj
theorem sl_c {Γ : Ga} {i : Nat} {is : List Nat} {s : S} {t : T} (h : lk Γ i = some s) (h' : treeOf s = some t) (r : ∀ j ∈ is, ∃ s t, lk Γ j = some s ∧ treeOf s = some t) : ∀ j ∈ i :: is, ∃ s t, lk Γ j = some s ∧ treeOf s = some t := fun j hj => by
  rcases List.mem_cons.mp hj with e | e
  · rw [e]; exact ⟨s, t, h, h'⟩
  · exact r j e
end
section
variable {α β γ : Type} {Γ : Ga} {f : α → D} {xs : List α} {lo hi : Option Int} {o : SE} {dl dh : SO}
def cutI {α : Type} (xs : List α) (lo hi : Option Int) : List α := (xs.drop (HT.sIx xs.length 0 lo)).take (HT.sIx xs.length xs.length hi - HT.sIx xs.length 0 lo)
theorem cutD_map : cutD (xs.map f) lo hi = (cutI xs lo hi).map f := by
  unfold cutD cutI
  rw [List.length_map, List.map_take, List.map_drop]
theorem mem_cutI {x : α} (h : x ∈ cutI xs lo hi) : x ∈ xs := List.mem_of_mem_drop (List.mem_of_mem_take h)
abbrev OP (e : SO) (Γ : Ga) (d : Option Int) : Prop := EpG okT e Γ d
theorem so_no : OP sNo Γ none := fun b P ρ m r => ⟨rfl, trivial⟩
theorem so_some {e : SE} {i : Int} (h : EP e Γ (.int i)) : OP (sSome e) Γ (some i) := fun b P ρ m r => ⟨by simp only [sSome, (h b P ρ m r).1, bind_ok], trivial⟩
theorem cutT_p (h : EP o Γ (eT f xs)) (hl : OP dl Γ lo) (hh : OP dh Γ hi) : EP (sCutT o dl dh) Γ (eT f (cutI xs lo hi)) := fun b P ρ m r => by
  obtain ⟨h1, h2⟩ := h b P ρ m r
  refine ⟨by simp only [sCutT, h1, bind_ok, (hl b P ρ m r).1, (hh b P ρ m r).1, cutD_map], ?_⟩
  refine noRefs_iff.mpr fun x hx => ?_
  obtain ⟨y, hy, rfl⟩ := List.mem_map.mp hx
  exact noRefs_iff.mp h2 _ (List.mem_map_of_mem (mem_cutI hy))
end
section
variable {Γ : Ga} {e : SE} {d : D} {T U : String} {k l : Bool}
def kindO : D → Option String
  | .non => some "NoneType"
  | .bl _ => some "bool"
  | .int _ => some "int"
  | .str _ => some "str"
  | .tup _ => some "tuple"
  | .lst _ => some "list"
  | .frz _ => some "list"
  | .ref _ => none
  | .exc _ => none
  | .emp => some "dict"
  | .obj _ _ _ => none
def isiO (T : String) (d : D) : Option Bool := (kindO d).bind fun n => kitB n T
theorem tyN_kind {d : D} {m : M} (h : noRef d = true) : tyN d m = kindO d := by cases d <;> first | rfl | cases h
theorem isi_p (h : EP e Γ d) (hk : isiO T d = some k) : EP (sIsi T e) Γ (.bl k) := fun b P ρ m r => by
  obtain ⟨h1, h2⟩ := h b P ρ m r
  unfold isiO at hk
  obtain ⟨n, q1, q2⟩ := Option.bind_eq_some_iff.mp hk
  exact ⟨by simp only [sIsi, h1, bind_ok, tyN_kind h2, q1, q2], rfl⟩
theorem isi_c (h : EP e Γ d) : EV (sIsi T e) Γ (isiO T d) (fun k => .bl k) (fun _ => Γ) := fun k hk b P ρ m r => by
  obtain ⟨h1, h2⟩ := isi_p h hk b P ρ m r
  exact ⟨m, h1, h2, r⟩
end
section
variable {α β γ σ : Type} {Γ : Ga} {a c : SS} {F : α → Out}
theorem sim_forRP {ρ' : Type} {it : SA} {g : SG} {em : β → D} {xs : List β} {s0 : σ} (G : σ → Ga) {step : σ → β → Option (Lp ρ' σ)} {wr : ρ' → α} {K : σ → Option α} (hi : AP it Γ (xs.map em)) (hG : Wk Γ (G s0))
    (hw : ∀ v, isRet (F (wr v)) = true) (hb : ∀ s x, Bod g a (em x) (G s) (step s x) (FR G fun v => F (wr v))) (k : ∀ s, Sim c (G s) (K s) F) : Sim (sSeq (sFor it g a) c) Γ (bindR wr (forR step xs s0) K) F :=
  sim_forR (w := some ()) (xs := fun _ => xs) (s0 := fun _ => s0) G hi.ev (fun _ => hG) hw hb k
end
section
variable {α β γ σ : Type} {Γ : Ga} {c : SS} {F : α → Out} {f : β → D}
theorem sim_retNew {es : SA} {u : Option γ} {fs : γ → List D} {G : γ → Ga} {k : γ → α} {ts : γ → List T} {t0 : γ → T} (h : AV es Γ u fs G) (ht : ∀ z, .lst (fs z) = t0 z) (hF : ∀ z, F (k z) = .rl (t0 z) (ts z)) (w : ∀ z, Fins (G z) (ts z)) : Sim (sSeq (sRet (sNew es)) c) Γ (u.bind fun z => some (k z)) F := fun y hy b P ρ m r => by
  obtain ⟨z, hz, hy⟩ := Option.bind_eq_some_iff.mp hy
  cases hy
  rw [hF]
  obtain ⟨m', h1, h2, h3⟩ := h z hz b P ρ m r
  have r2 := h3.grow (.lst (fs z))
  refine ⟨[m'.length], .ref m'.length, m' ++ [.lst (fs z)], by simp only [sSeq, sRet, sNew, h1, bind_ok, toO_ok, then_rt], ?_, ?_, (w z).fin r2⟩
  · rw [← ht]; exact .lst (by simp) h2
  · intro a ha
    rw [List.mem_singleton.mp ha]
    exact h3.fr.len
section
variable [DecidableEq β] {p : β → PyData} {k : Nat} {xs ys : List β} {o e : SE}
end
end
theorem np_of {ss : List S} (ks : List Nat) (h : pix ss = ks) (n : ks.Nodup) : (pix ss).Nodup := h ▸ n
end Vi
namespace Vi
open PySem PySem.Spec PyProof.Rows L2
section
variable {α β γ δ ε : Type} {Γ : Ga} {c : SS} {F : α → Out} {i j l : Nat} {e : SE} {es : SA} {its : List It'}
end
section
variable {α β γ : Type} {Γ : Ga} {e : SE} {f : β → D}
def dI : D → Option Int
  | .int i => some i
  | _ => none
def dSq : D → Option (List D)
  | .tup xs => some xs
  | .lst xs => some xs
  | _ => none
theorem down_gen {d : D} {u : Option β} (hf : ∀ a, u = some a → d = f a) (h : EP e Γ d) : EV e Γ u f (fun _ => Γ) := fun a ha b P ρ m r => by
  have := hf a ha
  subst this
  exact ⟨m, (h b P ρ m r).1, (h b P ρ m r).2, r⟩
theorem down_genM {t : Option γ} {d : γ → D} {u : D → Option β} {G : γ → Ga} (hf : ∀ d a, u d = some a → d = f a) (h : EV e Γ t d G) : EV e Γ (pairB t fun z => u (d z)) (fun c => f c.2) (fun c => G c.1) := fun c hc b P ρ m r => by
  unfold pairB at hc
  obtain ⟨z, hz, hc⟩ := Option.bind_eq_some_iff.mp hc
  obtain ⟨y, hy, hc⟩ := Option.bind_eq_some_iff.mp hc
  cases hc
  obtain ⟨m', h1, h2, h3⟩ := h z hz b P ρ m r
  rw [hf _ _ hy] at h1 h2
  exact ⟨m', h1, h2, h3⟩
theorem dI_eq : ∀ (d : D) (a : Int), dI d = some a → d = .int a := fun d a h => by cases d <;> cases h <;> rfl
def lenA (d : D) : Option Int := (dSq d).map fun xs => (xs.length : Int)
theorem f_lenA {d : D} : okDs [d] → ∀ n, lenA d = some n → ∀ m, gLen [d] m = .ok (.int n) m ∧ okD (.int n) := fun _ n hn m => by
  obtain ⟨xs, h1, rfl⟩ := Option.map_eq_some_iff.mp hn
  cases d <;> cases h1 <;> exact ⟨rfl, rfl⟩
abbrev idD : D → D := fun x => x
end
section
variable {α β γ : Type} {Γ : Ga} {i : Nat} {s : S} {f : β → D} {xs : List β}
end
end Vi
namespace Vi
open PySem PySem.Spec PyProof.Rows L2
section
variable {α β γ : Type} {Γ : Ga} {o e i : SE} {f : β → D}
end
section
variable {κ β α γ : Type} [DecidableEq κ] {kf : κ → Key} {f : β → D} {kvs : List (κ × β)} {k : κ} {Γ : Ga} {o e i : SE} {F : α → Out} {c : SS} {up : T → Ga}
end
end Vi
namespace Vi
open PySem PySem.Spec PyProof.Rows L2
section
variable {α β γ δ ε : Type} {Γ : Ga} {c : SS} {F : α → Out} {i j l : Nat} {e : SE} {es : SA} {its : List It'}
end
end Vi
namespace Vi
open PySem PySem.Spec PyProof.Rows L2
end Vi
namespace Vi
end Vi
namespace Vi
end Vi
namespace Vi
end Vi
namespace Vi
open PySem PySem.Spec PyProof.Rows L2
section
variable {Γ : Ga} {e z : SE} {ns : List Int} {d : Int} {γ : Type}
end
end Vi
namespace Vi
open PySem PySem.Spec PyProof.Rows L2
section
variable {α β γ : Type} {Γ : Ga} {c : SS} {F : α → Out} {o e : SE} {up : T → Ga} {ns : List Int} {k : Int}
end
end Vi
namespace Vi
open PySem PySem.Spec PyProof.Rows L2
end Vi
namespace Vi
open PySem PySem.Spec PyProof.Rows L2
end Vi
namespace Vi
open PySem PySem.Spec PyProof.Rows L2
section
variable {α β γ : Type} {Γ : Ga} {c : SS} {F : α → Out} {o e ix : SE} {up : T → Ga} {f : β → D} {xss : List (List β)} {k : Int}
end
end Vi
namespace Vi
open PySem PySem.Spec PyProof.Rows L2
section
variable {α β γ δ : Type} {Γ : Ga} {c : SS} {F : α → Out} {o e ix el : SE} {es : SA} {up : T → Ga} {f : β → D} {xss : List (List β)} {k : Int}
end
section
variable {β δ : Type} {Γ : Ga} {o ix el : SE} {up : T → Ga} {xss : List (List β)} {k : Int}
end
end Vi
namespace Vi
open PySem PySem.Spec PyProof.Rows L2
section
variable {α β γ : Type} {Γ : Ga} {o : SE} {dl dh : SO} {f : α → D} {xs : List α} {lo : Option Int}
end
section
variable {k : Str} {ns : List Str}
end
section
variable {α β σ : Type} {Γ : Ga} {c a : SS} {F : α → Out}
end
end Vi
namespace Vi
open PySem PySem.Spec PyProof.Rows L2
section
variable {α β γ κ : Type} [DecidableEq κ] {Γ : Ga} {o e i : SE} {f : β → D} {kf : κ → Key}
end
end Vi
namespace Vi
open PySem PySem.Spec PyProof.Rows L2
end Vi
namespace Vi
open PySem PySem.Spec PyProof.Rows L2
section
variable {α β γ κ : Type} [DecidableEq κ] {Γ : Ga} {o e i : SE} {f : β → D} {kf : κ → Key}
end
end Vi
namespace Vi
open PySem PySem.Spec PyProof.Rows L2
section
variable {α β γ δ : Type} {Γ : Ga} {f : α → D} {g : β → D} {h : δ → D}
end
end Vi
namespace Vi
open PySem PySem.Spec PyProof.Rows L2
end Vi
namespace Vi
open PySem PySem.Spec PyProof.Rows L2
section
variable {α β γ : Type} {Γ : Ga} {o : SE} {f : α → D} {xs : List α} {lo hi : Option Int} {dl dh : SO}
def revA (x : D) : Option D := match x with
  | .tup xs => some (.tup xs.reverse)
  | _ => none
theorem f_isQ {a c : Bool} : okDs [D.bl a, D.bl c] → ∀ m, g2 gIsQ [.bl a, .bl c] m = .ok (decide (a = c)) m ∧ okT (decide (a = c)) := fun _ m => ⟨rfl, trivial⟩
theorem f_notQ {a c : Bool} : okDs [D.bl a, D.bl c] → ∀ m, g2 gNotQ [.bl a, .bl c] m = .ok (!decide (a = c)) m ∧ okT (!decide (a = c)) := fun _ m => ⟨rfl, trivial⟩
theorem chain_m {a b c : SE} {g g' : D → D → M → R Bool} {t : Option γ} {x z : Int} {y : γ → Int} {k l : γ → Bool} (ha : EP a Γ (.int x)) (hb : EV b Γ t (fun w => .int (y w)) (fun _ => Γ)) (hc : EP c Γ (.int z))
    (h1 : ∀ w, okDs [D.int x, D.int (y w)] → ∀ m, g2 g [.int x, .int (y w)] m = .ok (k w) m ∧ okT (k w)) (h2 : ∀ w, okDs [D.int (y w), D.int z] → ∀ m, g2 g' [.int (y w), .int z] m = .ok (l w) m ∧ okT (l w)) : TV (sChain g g' a b c) Γ t (fun w => k w && l w) (fun _ => Γ) := fun w hw b0 P ρ m r => by
  obtain ⟨m1, e1, _, r1⟩ := hb w hw b0 P ρ m r
  have q1 : g (.int x) (.int (y w)) m1 = .ok (k w) m1 := (h1 w rfl m1).1
  have q2 : g' (.int (y w)) (.int z) m1 = .ok (l w) m1 := (h2 w rfl m1).1
  refine ⟨m1, ?_, trivial, r1⟩
  simp only [sChain, (ha b0 P ρ m r).1, bind_ok, e1, q1]
  cases k w with
  | true => simp only [if_true, (hc b0 P ρ m1 r1).1, bind_ok, q2, Bool.true_and]
  | false => rfl
def catA (x y : D) : Option D := match x, y with
  | .tup xs, .tup ys => if xs.length + ys.length ≤ big then some (.tup (xs ++ ys)) else none
  | _, _ => none
theorem f_catTA {x y : D} : okDs [x, y] → ∀ z, catA x y = some z → ∀ m, g2 gCatT [x, y] m = .ok z m ∧ okD z := fun o z hz m => by
  unfold catA at hz
  split at hz
  · rename_i xs ys
    split at hz
    · rename_i h
      cases hz
      refine ⟨by simp only [g2, gCatT, h, if_true], ?_⟩
      show noRefs (xs ++ ys) = true
      exact noRefs_app (ok2 o).1 (ok2 o).2
    · cases hz
  · cases hz
end
section
variable {κ β γ : Type} [DecidableEq κ] {Γ : Ga} {o i : SE} {kf : κ → Key} {f : β → D} {kvs : List (κ × β)}
end
end Vi
namespace Vi
open PySem PySem.Spec PyProof.Rows L2
def repE (d : D) : Option Str := match toPy d [] with
  | some p => if SeqAt.shaped p = true then repO p else none
  | none => (toPyE d).bind fun p => if p.depth ≤ 60 then repO p else none
theorem f_repE {d : D} : okDs [d] → ∀ s, repE d = some s → ∀ m, gReprE [d] m = .ok (.str s) m ∧ okD (.str s) := fun o s hs m => by
  unfold repE at hs
  split at hs
  · rename_i p h1
    rw [toPy_mem (m' := m)] at h1
    split at hs
    · rename_i h3
      unfold repO at hs
      split at hs
      · rename_i h4
        cases hs
        have e : toPyR d m = some p := by
          cases d with
          | ref n => simp [toPy] at h1
          | _ => exact h1
        exact ⟨by simp only [gReprE, e, h3, h4.1, h4.2, and_self, if_true], rfl⟩
      · cases hs
    · cases hs
  · rename_i h1
    obtain ⟨p, h2, h3⟩ := Option.bind_eq_some_iff.mp hs
    split at h3
    · rename_i h5
      unfold repO at h3
      split at h3
      · rename_i h4
        cases h3
        rw [toPy_mem (m' := m)] at h1
        have e : toPyR d m = none := by
          cases d with
          | ref n => simp [toPyE] at h2
          | _ => exact h1
        exact ⟨by simp only [gReprE, e, h2, h5, h4.1, h4.2, and_self, if_true], rfl⟩
      · cases h3
    · cases h3
def threeA (x : D) : Option (D × D × D) := match x with
  | .tup [a, b, c] => some (a, b, c)
  | _ => none
section
variable {α γ : Type} {F : α → Out} {Γ : Ga} {c : SS} {i j l : Nat}
theorem sim_tg3A {e : SE} {w : Option γ} {fv : γ → D} {G : γ → Ga} {K : γ → D → D → D → Option α} (h : EV e Γ w fv G)
    (k : ∀ z u v s, Sim c (put (put (put (G z) i (some (.v u))) j (some (.v v))) l (some (.v s))) (K z u v s) F) :
    Sim (sSeq (sAsg e (gTp 3 (gsCons (gNm i) (gsCons (gNm j) (gsCons (gNm l) gsNil))))) c) Γ (w.bind fun z => (threeA (fv z)).bind fun p => vlet p.1 fun u => vlet p.2.1 fun v => vlet p.2.2 (K z u v)) F := fun a ha b P ρ m r => by
  obtain ⟨z, hz, ha⟩ := Option.bind_eq_some_iff.mp ha
  obtain ⟨⟨x, y, q⟩, hp, ha⟩ := Option.bind_eq_some_iff.mp ha
  obtain ⟨m', h1, h2, h3⟩ := h z hz b P ρ m r
  have e : fv z = .tup [x, y, q] := by
    unfold threeA at hp
    split at hp
    · rename_i hh
      cases hp
      exact hh
    · cases hp
  rw [e] at h1 h2
  have h2 : noRefs [x, y, q] = true := h2
  have n1 := noRefs_cons h2
  have n2 := noRefs_cons n1.2
  have n3 := noRefs_cons n2.2
  have := k z x y q a ha b P _ m' (((h3.put_v i n1.1).put_v j n2.1).put_v l n3.1)
  simpa only [sSeq, sAsg, h1, toO_ok, gTp, gsCons, gsNil, gNm, bind_ok, List.length_cons, List.length_nil, if_true, then_nx] using this
end
def sK (x : D) : SE := fun _ m => .ok x m
section
variable {α γ δ : Type} {F : α → Out} {Γ : Ga} {c : SS}
theorem ep_sK {x : D} (h : noRef x = true) : EP (sK x) Γ x := fun b P ρ m r => ⟨rfl, h⟩
theorem sim_swap {e1 e2 : SE} {g1 g2 : SG} {t1 : Option γ} {t2 : Option δ} {u : γ → Int} {v : δ → Int} {K : γ → δ → Option α} (h1 : EV e1 Γ t1 (fun z => D.int (u z)) (fun _ => Γ)) (h2 : EV e2 Γ t2 (fun z => D.int (v z)) (fun _ => Γ))
    (k : ∀ z y, Sim (sSeq (sAsg (sK (D.int (u z))) g1) (sSeq (sAsg (sK (D.int (v y))) g2) c)) Γ (K z y) F) :
    Sim (sSeq (sAsg (sTup (sCons e1 (sCons e2 sNil))) (gTp 2 (gsCons g1 (gsCons g2 gsNil)))) c) Γ (t1.bind fun z => t2.bind fun y => K z y) F := fun a ha b P ρ m r => by
  obtain ⟨z, hz, ha⟩ := Option.bind_eq_some_iff.mp ha
  obtain ⟨y, hy, ha⟩ := Option.bind_eq_some_iff.mp ha
  obtain ⟨m1, a1, a2, a3⟩ := h1 z hz b P ρ m r
  obtain ⟨m2, b1, b2, b3⟩ := h2 y hy b P ρ m1 a3
  have := k z y a ha b P ρ m2 b3
  have e : sSeq (sAsg (sTup (sCons e1 (sCons e2 sNil))) (gTp 2 (gsCons g1 (gsCons g2 gsNil)))) c ρ m = sSeq (sAsg (sK (D.int (u z))) g1) (sSeq (sAsg (sK (D.int (v y))) g2) c) ρ m2 := by
    have q : ([D.int (u z), D.int (v y)] : List D).length ≤ big := by show 2 ≤ 16777216; decide
    have e0 : sTup (sCons e1 (sCons e2 sNil)) ρ m = .ok (.tup [D.int (u z), D.int (v y)]) m2 := by
      simp only [sTup, sCons, sNil, a1, b1, bind_ok]
      exact if_pos q
    simp only [sSeq, sAsg, e0, toO_ok, gTp, gsCons, gsNil, sK, List.length_cons, List.length_nil, if_true]
    cases g1 (D.int (u z)) ρ m2 with
    | ok ρ' m' =>
      simp only [bind_ok, toO_ok, then_nx]
      show _ = ((g2 (D.int (v y)) ρ' m').toO fun ρ m => O.nx ρ m).then c
      cases g2 (D.int (v y)) ρ' m' <;> rfl
    | exn x m' => rfl
    | bad => rfl
  rw [e]
  exact this
end
end Vi
namespace Vi
open PySem PySem.Spec PyProof.Rows L2
def wpO {α : Type} (t : Option α) (Q : α → Prop) : Prop := ∃ a, t = some a ∧ Q a
section
variable {α β γ σ : Type} {Q : α → Prop}
theorem wp_some {a : α} : wpO (some a) Q ↔ Q a := ⟨fun ⟨_, e, h⟩ => by cases e; exact h, fun h => ⟨a, rfl, h⟩⟩
theorem wp_bind {t : Option β} {f : β → Option α} : wpO (t.bind f) Q ↔ wpO t (fun b => wpO (f b) Q) := by
  constructor
  · rintro ⟨a, e, h⟩
    obtain ⟨b, e1, e2⟩ := Option.bind_eq_some_iff.mp e
    exact ⟨b, e1, a, e2, h⟩
  · rintro ⟨b, e1, a, e2, h⟩
    exact ⟨a, by rw [e1]; exact e2, h⟩
theorem wp_map {t : Option β} {f : β → α} : wpO (t.map f) Q ↔ wpO t (fun b => Q (f b)) := by
  cases t <;> simp [wpO]
theorem wp_pair {t : Option β} {f : β → Option γ} {Q : β × γ → Prop} : wpO (pairB t f) Q ↔ wpO t (fun b => wpO (f b) (fun c => Q (b, c))) := by
  unfold pairB
  rw [wp_bind]
  simp only [wp_bind, wp_some]
theorem wp_vlet {b : β} {f : β → Option α} : wpO (vlet b f) Q ↔ wpO (f b) Q := Iff.rfl
theorem wp_ite {c : Prop} [Decidable c] {t u : Option α} : wpO (if c then t else u) Q ↔ (c → wpO t Q) ∧ (¬c → wpO u Q) := by
  split
  · exact ⟨fun h => ⟨fun _ => h, fun n => absurd ‹c› n⟩, fun h => h.1 ‹_›⟩
  · exact ⟨fun h => ⟨fun n => absurd n ‹¬c›, fun _ => h⟩, fun h => h.2 ‹_›⟩
theorem wpO.imp {t : Option α} {Q' : α → Prop} (h : wpO t Q) (i : ∀ a, Q a → Q' a) : wpO t Q' := let ⟨a, e, q⟩ := h; ⟨a, e, i a q⟩
theorem wp_eq {t : Option α} {a : α} (e : t = some a) (h : Q a) : wpO t Q := ⟨a, e, h⟩
theorem wp_get {t : Option α} {a : α} (h : wpO t (fun b => b = a)) : t = some a := let ⟨_, e, q⟩ := h; q ▸ e
theorem log2_lt {n k : Nat} (h : n < 2 ^ k) (hk : 0 < k) : n.log2 < k := by
  by_cases h0 : n = 0
  · subst h0; simpa using hk
  · exact (Nat.log2_lt h0).mpr h
theorem mulO_ok {i j : Int} {a b : Nat} (h : i.natAbs < 2 ^ a) (h' : j.natAbs < 2 ^ b) (hab : a + b < 1000000 := by decide) (ha : 0 < a := by decide) (hb : 0 < b := by decide) : mulO i j = some (i * j) := by
  have h1 := log2_lt h ha
  have h2 := log2_lt h' hb
  exact if_pos (by omega)
theorem mulO_s {i j : Int} (h : -(2 ^ 100) < i ∧ i < 2 ^ 100) (h' : -(2 ^ 100) < j ∧ j < 2 ^ 100) : mulO i j = some (i * j) := mulO_ok (a := 100) (b := 100) (by omega) (by omega)
theorem wp_mulS {i j : Int} {Q : Int → Prop} (h : -(2 ^ 100) < i ∧ i < 2 ^ 100) (h' : -(2 ^ 100) < j ∧ j < 2 ^ 100) (q : Q (i * j)) : wpO (mulO i j) Q := wp_eq (mulO_s h h') q
theorem rgO_ok {lo hi : Int} (h : -(2 ^ 60) ≤ lo ∧ lo < 2 ^ 60) (h' : -(2 ^ 60) ≤ hi ∧ hi < 2 ^ 60) : rgO lo hi = some (irg lo (hi - lo).toNat) := if_pos ⟨⟨by unfold lim62; omega, by unfold lim62; omega⟩, by unfold lim62; omega, by unfold lim62; omega⟩
theorem wp_rgS {lo hi : Int} {Q : List Int → Prop} (h : -(2 ^ 60) ≤ lo ∧ lo < 2 ^ 60) (h' : -(2 ^ 60) ≤ hi ∧ hi < 2 ^ 60) (q : Q (irg lo (hi - lo).toNat)) : wpO (rgO lo hi) Q := wp_eq (rgO_ok h h') q
theorem wp_catO {xs ys : List β} {Q : List β → Prop} : wpO (catO xs ys) Q ↔ xs.length + ys.length ≤ 16777216 ∧ Q (xs ++ ys) := by
  unfold catO wpO
  split <;> simp [*]
theorem atI_nn {xs : List β} {i : Nat} {x : β} (h : xs[i]? = some x) : atI xs (i : Int) = some x := by
  unfold atI ixN
  have := (List.getElem?_eq_some_iff.mp h).1
  rw [if_pos (by omega), if_pos (by omega)]
  simpa using h
theorem wp_at {xs : List β} {i : Int} {Q : β → Prop} (h0 : 0 ≤ i) (h1 : i < xs.length) (q : ∀ x, xs[i.toNat]? = some x → Q x) : wpO (atI xs i) Q := by
  have h2 : i.toNat < xs.length := by omega
  refine ⟨xs[i.toNat], ?_, q _ (List.getElem?_eq_getElem h2)⟩
  have := atI_nn (List.getElem?_eq_getElem h2)
  rwa [show ((i.toNat : Nat) : Int) = i by omega] at this
theorem wp_forR {ρ : Type} {f : σ → β → Option (Lp ρ σ)} (I : Nat → σ → Prop) {w : ρ → α} {K : σ → Option α} : ∀ (xs : List β) (s : σ) (k : Nat), I k s → (∀ (i : Nat) (x : β) (s : σ), xs[i]? = some x → I (k + i) s → wpO (f s x) (fun l => ∃ s', l = .nx s' ∧ I (k + i + 1) s')) → (∀ s, I (k + xs.length) s → wpO (K s) Q) → wpO (bindR w (forR f xs s) K) Q
  | [], s, k, h, _, q => q s h
  | x :: xs, s, k, h, st, q => by
    obtain ⟨l, e, s', rfl, h'⟩ := st 0 x s rfl h
    have ih := wp_forR (w := w) (K := K) I xs s' (k + 1) h' (fun i y s2 e h2 => by
      have := st (i + 1) y s2 (by simpa using e) (by rw [← Nat.add_assoc, Nat.add_right_comm]; exact h2)
      rwa [← Nat.add_assoc, Nat.add_right_comm k i 1] at this) (fun s2 h2 => q s2 (by rw [List.length_cons, ← Nat.add_assoc, Nat.add_right_comm]; exact h2))
    have e2 : forR f (x :: xs) s = forR f xs s' := by
      show (f s x).bind _ = _
      rw [e]; rfl
    rw [e2]
    exact ih
theorem wp_forR0 {ρ : Type} {f : σ → β → Option (Lp ρ σ)} (I : Nat → σ → Prop) {w : ρ → α} {K : σ → Option α} {xs : List β} {s : σ} (h : I 0 s) (st : ∀ (i : Nat) (x : β) (s : σ), xs[i]? = some x → I i s → wpO (f s x) (fun l => ∃ s', l = .nx s' ∧ I (i + 1) s')) (q : ∀ s, I xs.length s → wpO (K s) Q) : wpO (bindR w (forR f xs s) K) Q :=
  wp_forR I xs s 0 h (fun i x s e hi => by rw [Nat.zero_add] at hi ⊢; exact st i x s e hi) (fun s hs => q s (by rwa [Nat.zero_add] at hs))
theorem irg_get {lo : Int} {n i : Nat} {x : Int} (h : (irg lo n)[i]? = some x) : i < n ∧ x = lo + (i : Int) := by
  unfold irg at h
  rw [List.getElem?_map] at h
  obtain ⟨j, hj, rfl⟩ := Option.map_eq_some_iff.mp h
  have := List.getElem?_range (n := n) (i := i)
  have hi : i < n := by
    have := (List.getElem?_eq_some_iff.mp hj).1
    simpa using this
  rw [List.getElem?_range hi] at hj
  cases hj
  exact ⟨hi, rfl⟩
theorem law_of {F : Fn} {d : D} {t : Option Bool} (h : FnT F [.v d] t (fun r => .rt (.bl r) [])) (e : t = some true) (hd : noRef d = true) : ∃ m, F [d] [] = .ok (.bl true) m := by
  obtain ⟨m', h1, _⟩ := h true e [] [d] [] ⟨fun k A d h => by simp at h, fun k l A B d e _ h => by simp at h⟩ List.nodup_nil ⟨⟨rfl, hd⟩, trivial⟩
  exact ⟨m', h1⟩
theorem law_in {F : Fn} {ns : List Int} {t : Option Bool} (h : FnT F [.v (eZ D.int ns)] t (fun r => .rt (.bl r) [])) (e : t = some true) : ∃ m, F [.frz (ns.map D.int)] [] = .ok (.bl true) m := law_of h e (noRefs_int ns)
end
section
variable {α β : Type} {f : α → D} {g : β → D} {p : α → PyData} {q : β → PyData} {L c d : Nat} {B : α → Prop} {B' : β → Prop}
end
end Vi
namespace Lk26
open PySem PySem.Spec PyProof.Rows L2 Vi
def pis_whole (thing1 : D) (low2 : Int) (high3 : Int) : Option (Bool) :=
  ((isiO "int" thing1).bind fun r4 => if r4 = true then ((isiO "bool" thing1).bind fun r5 => if (!r5) = true then ((dI thing1).map fun r6 => (decide (low2 ≤ r6) && decide (r6 ≤ high3))) else some false) else some false).bind fun k9 => some k9
theorem tis_whole (thing1 : D) (low2 : Int) (high3 : Int) : FnT fis_whole [.v thing1, .v (D.int low2), .v (D.int high3)] (pis_whole thing1 low2 high3) (fun (r : Bool) => Out.rt (D.bl r) []) :=
  fn_exit' rfl (fun _ => .inl ⟨_, _, rfl⟩) (Γ0 := [some (.v thing1), some (.v (D.int low2)), some (.v (D.int high3))])
  (sim_last (sim_retM (andV_t (and_gm (f := fun k9 => k9) (G := fun k9 => [some (.v thing1), some (.v (D.int low2)), some (.v (D.int high3))]) (z0 := fun r4 => false) (tb_m (isi_c (ep_var rfl))) (fun r4 _ => (tb_m (andV_t (and_gm (f := fun k7 => k7) (G := fun k7 => [some (.v thing1), some (.v (D.int low2)), some (.v (D.int high3))]) (z0 := fun r5 => false) (tb_m (notV_m (isi_c (ep_var rfl)))) (fun r5 _ => (EvG.map (tb_m (ofT_m (chain_m (ep_var rfl) (down_gen (f := D.int) (fun _ => dI_eq _ _) (ep_var rfl)) (ep_var rfl) (fun _ => f_le) (fun _ => f_le)))) (fun r6 => (decide (low2 ≤ r6) && decide (r6 ≤ high3))) (f' := (fun q8 => (fun k : Bool => k) q8)) (G' := (fun q8 => [some (.v thing1), some (.v (D.int low2)), some (.v (D.int high3))])) (fun _ => rfl) (fun _ => (wk_s rfl (wk_s rfl (wk_s rfl (wk_nil rfl))))))) (fun _ => rfl) (fun _ => (wk_s rfl (wk_s rfl (wk_s rfl (wk_nil rfl))))))))) (fun _ => rfl) (fun _ => (wk_s rfl (wk_s rfl (wk_s rfl (wk_nil rfl))))))) (fun _ => by rfl) (fun _ => fins_nil)))
def pis_claim (thing1 : D) : Option (Bool) :=
  ((isiO "tuple" thing1).bind fun r2 => if (!r2) = true then some true else ((lenA thing1).map fun r3 => (!decide (r3 = (3 : Int))))).bind fun k4 => if k4 = true then some false else (some ()).bind fun u6 => (threeA thing1).bind fun p18 => vlet (p18.1 : D) fun m7 => vlet (p18.2.1 : D) fun a8 => vlet (p18.2.2 : D) fun q9 => ((pis_whole m7 (1 : Int) (600 : Int)).bind fun r10 => if r10 = true then ((pairB (dI m7) fun r11 => (pis_whole a8 (0 : Int) (r11 - (1 : Int)))).bind fun c12 => if c12.2 = true then (pis_whole q9 (2 : Int) (1000000 : Int)) else some false) else some false).bind fun k16 => some k16
theorem tis_claim (thing1 : D) : FnT fis_claim [.v thing1] (pis_claim thing1) (fun (r : Bool) => Out.rt (D.bl r) []) :=
  fn_exit' rfl (fun _ => .inl ⟨_, _, rfl⟩) (Γ0 := [some (.v thing1), none, none, none])
  (sim_ifM (or_gm (f := fun k4 => k4) (G := fun k4 => [some (.v thing1), none, none, none]) (z0 := fun r2 => true) (not_m (tb_m (isi_c (ep_var rfl)))) (fun r2 _ => (EvG.map (cmp_m (av_mp (call_c (ap_cons (ep_var rfl) ap_nil) f_lenA) (fun r3 => (ap_cons (ep_c rfl) ap_nil))) (fun r3 => (f_ne y_I q_I (by decide) (a := r3) (b := (3 : Int))))) (fun r3 => (!decide (r3 = (3 : Int)))) (f' := (fun q5 => (fun k : Bool => k) q5)) (G' := (fun q5 => [some (.v thing1), none, none, none])) (fun _ => rfl) (fun _ => (wk_s rfl (wk_n rfl (wk_n rfl (wk_n rfl (wk_nil rfl)))))))) (fun _ => rfl) (fun _ => (wk_s rfl (wk_n rfl (wk_n rfl (wk_n rfl (wk_nil rfl))))))) (fun k4 => (sim_ret (ep_c rfl) (by rfl) fins_nil)) (fun k4 => (sim_pass (sim_tg3A (EpG.ev (ep_var rfl)) (fun u6 m7 a8 q9 => (Sim.wk (Γ' := [none, some (.v m7), some (.v a8), some (.v q9)]) (sim_last (sim_retM (andV_t (and_gm (f := fun k16 => k16) (G := fun k16 => [none, some (.v m7), some (.v a8), some (.v q9)]) (z0 := fun r10 => false) (tb_m (fn_p (ds := [m7, (D.int (1 : Int)), (D.int (600 : Int))]) (v := (fun (r : Bool) => (D.bl r))) (ap_cons (ep_var rfl) (ap_cons (ep_c rfl) (ap_cons (ep_c rfl) ap_nil))) (tis_whole m7 (1 : Int) (600 : Int)))) (fun r10 _ => (tb_m (andV_t (and_gm (f := fun k14 => k14) (G := fun k14 => [none, some (.v m7), some (.v a8), some (.v q9)]) (z0 := fun c12 => false) (tb_m (fn_m (ds := fun r11 => [a8, (D.int (0 : Int)), (D.int (r11 - (1 : Int)))]) (v := fun _ => (fun (r : Bool) => (D.bl r))) (av_pm (ep_var rfl) (av_pm (ep_c rfl) (av_mp (bin_m (av_mp (down_gen (f := D.int) (fun _ => dI_eq _ _) (ep_var rfl)) (fun r11 => (ap_cons (ep_c rfl) ap_nil))) (fun r11 => f_sub)) (fun r11 => ap_nil)))) (fun r11 => (tis_whole a8 (0 : Int) (r11 - (1 : Int)))))) (fun c12 _ => (tb_m (fn_p (ds := [q9, (D.int (2 : Int)), (D.int (1000000 : Int))]) (v := (fun (r : Bool) => (D.bl r))) (ap_cons (ep_var rfl) (ap_cons (ep_c rfl) (ap_cons (ep_c rfl) ap_nil))) (tis_whole q9 (2 : Int) (1000000 : Int))))) (fun _ => rfl) (fun _ => (wk_n rfl (wk_s rfl (wk_s rfl (wk_s rfl (wk_nil rfl)))))))))) (fun _ => rfl) (fun _ => (wk_n rfl (wk_s rfl (wk_s rfl (wk_s rfl (wk_nil rfl)))))))) (fun _ => by rfl) (fun _ => fins_nil))) (wk_n rfl (wk_s rfl (wk_s rfl (wk_s rfl (wk_nil rfl)))))))))))
def p_law_hand (script1 : (List Int)) (k2 : Int) : Option ((List Int)) :=
  (if (decide (k2 < (script1.length : Int))) = true then ((atI script1 k2).map fun r3 => (if r3 < 0 then -r3 else r3)) else (some (0 : Int))).bind fun cell6 => vlet ((if (decide (((10 : Int) ^ 18) ≤ cell6)) = true then (cell6 % (((((10 : Int) ^ 60) * ((10 : Int) ^ 60)) * ((10 : Int) ^ 60)) * ((10 : Int) ^ 60))) else (0 : Int)) : Int) fun great7 => (pairB (pairB (mulO (7919 : Int) k2) fun r8 => (mulO r8 k2)) fun c9 => (mulO (((cell6 % (2305843009213693951 : Int)) + c9.2) + (3 : Int)) (48271 : Int))).bind fun c10 => some [great7, (c10.2 % (2305843009213693921 : Int)), (0 : Int)]
theorem t_law_hand (script1 : (List Int)) (k2 : Int) : FnT f_law_hand [.v ((eZ D.int) script1), .v (D.int k2)] (p_law_hand script1 k2) (fun (r : (List Int)) => Out.rl ((trL D.int) r) []) :=
  fn_new' rfl (fun _ => ⟨_, _, rfl⟩) (Γ0 := [some (.v ((eZ D.int) script1)), some (.v (D.int k2)), none, none])
  (sim_asgB D.int (if_m (cmp_p (ap_cons (ep_var rfl) (ap_cons (call_p (ap_cons (ep_var rfl) ap_nil) (f_lenZ (f := D.int) (xs := script1))) ap_nil)) f_lt) (fun _ => (EvG.map (call_m (av_mp (bin_c (ds := [((eZ D.int) script1), (D.int k2)]) (ap_cons (ep_var rfl) (ap_cons (ep_var rfl) ap_nil)) (f_ixZ (f := D.int) (xs := script1))) (fun r3 => ap_nil)) (fun r3 => f_abs)) (fun r3 => (if r3 < 0 then -r3 else r3)) (f' := (fun q4 => D.int q4)) (G' := (fun q4 => [some (.v ((eZ D.int) script1)), some (.v (D.int k2)), none, none])) (fun _ => rfl) (fun _ => (wk_s rfl (wk_s rfl (wk_n rfl (wk_n rfl (wk_nil rfl)))))))) (fun _ => (EvG.wk (G' := fun _ => [some (.v ((eZ D.int) script1)), some (.v (D.int k2)), none, none]) (EpG.pur (f := D.int) (v := (0 : Int)) (ep_c rfl)) (fun _ => (wk_s rfl (wk_s rfl (wk_n rfl (wk_n rfl (wk_nil rfl))))))))) (fun cell6 => (sim_asgP D.int (if_pE D.int (cmp_p (ap_cons (ep_var rfl) (ap_cons (bin_p (ap_cons (ep_c rfl) (ap_cons (ep_c rfl) ap_nil)) (f_powL (by decide))) ap_nil)) f_ge) (bin_p (ap_cons (ep_var rfl) (ap_cons (bin_p (ap_cons (bin_p (ap_cons (bin_p (ap_cons (bin_p (ap_cons (ep_c rfl) (ap_cons (ep_c rfl) ap_nil)) (f_powL (by decide))) (ap_cons (bin_p (ap_cons (ep_c rfl) (ap_cons (ep_c rfl) ap_nil)) (f_powL (by decide))) ap_nil)) (f_mulL (by decide))) (ap_cons (bin_p (ap_cons (ep_c rfl) (ap_cons (ep_c rfl) ap_nil)) (f_powL (by decide))) ap_nil)) (f_mulL (by decide))) (ap_cons (bin_p (ap_cons (ep_c rfl) (ap_cons (ep_c rfl) ap_nil)) (f_powL (by decide))) ap_nil)) (f_mulL (by decide))) ap_nil)) (f_modL (by decide))) (ep_c rfl)) (fun great7 => (sim_last (sim_retNew (lst_m (av_pm (ep_var rfl) (av_mp (bin_m (av_mp (bin_mc (av_mp (bin_m (av_mp (bin_m (av_pm (bin_p (ap_cons (ep_var rfl) (ap_cons (ep_c rfl) ap_nil)) (f_modL (by decide))) (av_mp (bin_mc (av_mp (bin_c (ap_cons (ep_c rfl) (ap_cons (ep_var rfl) ap_nil)) f_mul) (fun r8 => (ap_cons (ep_var rfl) ap_nil))) (fun r8 => f_mul)) (fun c9 => ap_nil))) (fun c9 => f_add)) (fun c9 => (ap_cons (ep_c rfl) ap_nil))) (fun c9 => f_add)) (fun c9 => (ap_cons (ep_c rfl) ap_nil))) (fun c9 => f_mul)) (fun c10 => (ap_cons (ep_c rfl) ap_nil))) (fun c10 => (f_modL (by decide)))) (fun c10 => (ap_cons (ep_c rfl) ap_nil))))) (fun _ => by rfl) (fun _ => by rfl) (fun _ => fins_nil)))))))
def p_law_take (hand_here1 : (List Int)) (many2 : Int) : Option (Int × (List Int)) :=
  (atI hand_here1 (0 : Int)).bind fun r3 => if (decide ((0 : Int) < r3)) = true then (pairB (atI hand_here1 (0 : Int)) fun r4 => (modO r4 many2)).bind fun c5 => vlet (c5.2 : Int) fun digit6 => (pairB (atI hand_here1 (0 : Int)) fun r7 => (divO r7 many2)).bind fun c8 => (stO hand_here1 (0 : Int) c8.2).bind fun z9 => some (digit6, z9) else (atI hand_here1 (2 : Int)).bind fun r10 => (stO hand_here1 (2 : Int) (r10 + (1 : Int))).bind fun z11 => (pairB (pairB (atI z11 (1 : Int)) fun r12 => (pairB (pairB (pairB (atI z11 (2 : Int)) fun r13 => (mulO (65537 : Int) r13)) fun c14 => (atI z11 (2 : Int))) fun c16 => (mulO c16.1.2 c16.2))) fun c18 => (mulO ((c18.1 + c18.2.2) + (11 : Int)) (48271 : Int))).bind fun c19 => vlet ((c19.2 % (2305843009213693921 : Int)) : Int) fun blent20 => (pairB (pairB (atI z11 (2 : Int)) fun r21 => (mulO (99991 : Int) r21)) fun c22 => (mulO blent20 ((blent20 % (1000003 : Int)) + c22.2))).bind fun c23 => vlet ((c23.2 % (2305843009213693907 : Int)) : Int) fun blent24 => (modO ((blent24 / (97 : Int)) + (blent24 / (1000033 : Int))) many2).bind fun r25 => some (r25, z11)
theorem t_law_take (hand_here1 : (List Int)) (many2 : Int) : FnT f_law_take [.p 0 ((trL D.int) hand_here1), .v (D.int many2)] (p_law_take hand_here1 many2) (fun (r : Int × (List Int)) => Out.rt (D.int r.1) [((trL D.int) r.2)]) :=
  fn_exit' rfl (fun _ => .inl ⟨_, _, rfl⟩) (Γ0 := [some (.p 0 ((trL D.int) hand_here1)), some (.v (D.int many2)), none, none])
  (sim_ifM (cmp_m (av_mp (rd_ix (pl_var rfl rfl).rd (ep_c rfl)) (fun r3 => (ap_cons (ep_c rfl) ap_nil))) (fun r3 => f_gt)) (fun r3 => (sim_assoc (sim_asgM D.int (bin_mc (av_mp (rd_ix (pl_var rfl rfl).rd (ep_c rfl)) (fun r4 => (ap_cons (ep_var rfl) ap_nil))) (fun r4 => f_mod)) (fun _ => rfl) (fun c5 digit6 => (sim_assoc (sim_setM (f := D.int) (bin_mc (av_mp (rd_ix (pl_var rfl rfl).rd (ep_c rfl)) (fun r7 => (ap_cons (ep_var rfl) ap_nil))) (fun r7 => f_div)) (fun _ => rfl) (fun c8 => (pl_var rfl rfl)) (fun c8 => (ep_c rfl)) (fun c8 z9 => (sim_ret (ep_var rfl) (by rfl) (fins_1 0 rfl))))))))) (fun r3 => (sim_pass (sim_setM (f := D.int) (bin_m (av_mp (rd_ix (pl_var rfl rfl).rd (ep_c rfl)) (fun r10 => (ap_cons (ep_c rfl) ap_nil))) (fun r10 => f_add)) (fun _ => rfl) (fun r10 => (pl_var rfl rfl)) (fun r10 => (ep_c rfl)) (fun r10 z11 => (sim_asgM D.int (bin_m (av_mp (bin_mc (av_mp (bin_m (av_mp (bin_m (av_mm (rd_ix (pl_var rfl rfl).rd (ep_c rfl)) (fun r12 => (av_mp (bin_mc (av_mm (bin_mc (av_pm (ep_c rfl) (av_mp (rd_ix (pl_var rfl rfl).rd (ep_c rfl)) (fun r13 => ap_nil))) (fun r13 => f_mul)) (fun c14 => (av_mp (rd_ix (pl_var rfl rfl).rd (ep_c rfl)) (fun r15 => ap_nil)))) (fun c16 => f_mul)) (fun c17 => ap_nil)))) (fun c18 => f_add)) (fun c18 => (ap_cons (ep_c rfl) ap_nil))) (fun c18 => f_add)) (fun c18 => (ap_cons (ep_c rfl) ap_nil))) (fun c18 => f_mul)) (fun c19 => (ap_cons (ep_c rfl) ap_nil))) (fun c19 => (f_modL (by decide)))) (fun _ => rfl) (fun c19 blent20 => (sim_asgM D.int (bin_m (av_mp (bin_mc (av_pm (ep_var rfl) (av_mp (bin_m (av_pm (bin_p (ap_cons (ep_var rfl) (ap_cons (ep_c rfl) ap_nil)) (f_modL (by decide))) (av_mp (bin_mc (av_pm (ep_c rfl) (av_mp (rd_ix (pl_var rfl rfl).rd (ep_c rfl)) (fun r21 => ap_nil))) (fun r21 => f_mul)) (fun c22 => ap_nil))) (fun c22 => f_add)) (fun c22 => ap_nil))) (fun c22 => f_mul)) (fun c23 => (ap_cons (ep_c rfl) ap_nil))) (fun c23 => (f_modL (by decide)))) (fun _ => rfl) (fun c23 blent24 => (sim_last (sim_retM (bin_c (ap_cons (bin_p (ap_cons (bin_p (ap_cons (ep_var rfl) (ap_cons (ep_c rfl) ap_nil)) (f_divL (by decide))) (ap_cons (bin_p (ap_cons (ep_var rfl) (ap_cons (ep_c rfl) ap_nil)) (f_divL (by decide))) ap_nil)) f_add) (ap_cons (ep_var rfl) ap_nil)) f_mod) (fun _ => by rfl) (fun _ => (fins_1 0 rfl)))))))))))))
def p_law_whole (thing1 : D) (low2 : Int) (high3 : Int) : Option (Bool) :=
  ((isiO "int" thing1).bind fun r4 => if r4 = true then ((isiO "bool" thing1).bind fun r5 => if (!r5) = true then ((dI thing1).map fun r6 => (decide (low2 ≤ r6) && decide (r6 ≤ high3))) else some false) else some false).bind fun k9 => some k9
theorem t_law_whole (thing1 : D) (low2 : Int) (high3 : Int) : FnT f_law_whole [.v thing1, .v (D.int low2), .v (D.int high3)] (p_law_whole thing1 low2 high3) (fun (r : Bool) => Out.rt (D.bl r) []) :=
  fn_exit' rfl (fun _ => .inl ⟨_, _, rfl⟩) (Γ0 := [some (.v thing1), some (.v (D.int low2)), some (.v (D.int high3))])
  (sim_last (sim_retM (andV_t (and_gm (f := fun k9 => k9) (G := fun k9 => [some (.v thing1), some (.v (D.int low2)), some (.v (D.int high3))]) (z0 := fun r4 => false) (tb_m (isi_c (ep_var rfl))) (fun r4 _ => (tb_m (andV_t (and_gm (f := fun k7 => k7) (G := fun k7 => [some (.v thing1), some (.v (D.int low2)), some (.v (D.int high3))]) (z0 := fun r5 => false) (tb_m (notV_m (isi_c (ep_var rfl)))) (fun r5 _ => (EvG.map (tb_m (ofT_m (chain_m (ep_var rfl) (down_gen (f := D.int) (fun _ => dI_eq _ _) (ep_var rfl)) (ep_var rfl) (fun _ => f_le) (fun _ => f_le)))) (fun r6 => (decide (low2 ≤ r6) && decide (r6 ≤ high3))) (f' := (fun q8 => (fun k : Bool => k) q8)) (G' := (fun q8 => [some (.v thing1), some (.v (D.int low2)), some (.v (D.int high3))])) (fun _ => rfl) (fun _ => (wk_s rfl (wk_s rfl (wk_s rfl (wk_nil rfl))))))) (fun _ => rfl) (fun _ => (wk_s rfl (wk_s rfl (wk_s rfl (wk_nil rfl))))))))) (fun _ => rfl) (fun _ => (wk_s rfl (wk_s rfl (wk_s rfl (wk_nil rfl))))))) (fun _ => by rfl) (fun _ => fins_nil)))
def p_law_due (thing1 : D) : Option (Bool) :=
  ((isiO "tuple" thing1).bind fun r2 => if (!r2) = true then some true else ((lenA thing1).map fun r3 => (!decide (r3 = (3 : Int))))).bind fun k4 => if k4 = true then some false else ((pairB (ixA thing1 (0 : Int)) fun r6 => (p_law_whole r6 (1 : Int) (600 : Int))).bind fun c7 => if (!c7.2) = true then some true else ((pairB (ixA thing1 (2 : Int)) fun r8 => (p_law_whole r8 (2 : Int) ((10 : Int) ^ 6))).map fun c9 => (!c9.2))).bind fun k10 => if k10 = true then some false else (pairB (pairB (ixA thing1 (1 : Int)) fun r12 => (pairB (ixA thing1 (0 : Int)) fun r13 => dI r13)) fun c15 => (p_law_whole c15.1 (0 : Int) (c15.2.2 - (1 : Int)))).bind fun c16 => some c16.2
theorem t_law_due (thing1 : D) : FnT f_law_due [.v thing1] (p_law_due thing1) (fun (r : Bool) => Out.rt (D.bl r) []) :=
  fn_exit' rfl (fun _ => .inl ⟨_, _, rfl⟩) (Γ0 := [some (.v thing1)])
  (sim_ifM (or_gm (f := fun k4 => k4) (G := fun k4 => [some (.v thing1)]) (z0 := fun r2 => true) (not_m (tb_m (isi_c (ep_var rfl)))) (fun r2 _ => (EvG.map (cmp_m (av_mp (call_c (ap_cons (ep_var rfl) ap_nil) f_lenA) (fun r3 => (ap_cons (ep_c rfl) ap_nil))) (fun r3 => (f_ne y_I q_I (by decide) (a := r3) (b := (3 : Int))))) (fun r3 => (!decide (r3 = (3 : Int)))) (f' := (fun q5 => (fun k : Bool => k) q5)) (G' := (fun q5 => [some (.v thing1)])) (fun _ => rfl) (fun _ => (wk_s rfl (wk_nil rfl))))) (fun _ => rfl) (fun _ => (wk_s rfl (wk_nil rfl)))) (fun k4 => (sim_ret (ep_c rfl) (by rfl) fins_nil)) (fun k4 => (sim_pass (sim_ifM (or_gm (f := fun k10 => k10) (G := fun k10 => [some (.v thing1)]) (z0 := fun c7 => true) (not_m (tb_m (fn_m (ds := fun r6 => [r6, (D.int (1 : Int)), (D.int (600 : Int))]) (v := fun _ => (fun (r : Bool) => (D.bl r))) (av_mp (bin_c (ap_cons (ep_var rfl) (ap_cons (ep_c rfl) ap_nil)) f_ixA) (fun r6 => (ap_cons (ep_c rfl) (ap_cons (ep_c rfl) ap_nil)))) (fun r6 => (t_law_whole r6 (1 : Int) (600 : Int)))))) (fun c7 _ => (EvG.map (not_m (tb_m (fn_m (ds := fun r8 => [r8, (D.int (2 : Int)), (D.int ((10 : Int) ^ 6))]) (v := fun _ => (fun (r : Bool) => (D.bl r))) (av_mp (bin_c (ap_cons (ep_var rfl) (ap_cons (ep_c rfl) ap_nil)) f_ixA) (fun r8 => (ap_cons (ep_c rfl) (ap_cons (bin_p (ap_cons (ep_c rfl) (ap_cons (ep_c rfl) ap_nil)) (f_powL (by decide))) ap_nil)))) (fun r8 => (t_law_whole r8 (2 : Int) ((10 : Int) ^ 6)))))) (fun c9 => (!c9.2)) (f' := (fun q11 => (fun k : Bool => k) q11)) (G' := (fun q11 => [some (.v thing1)])) (fun _ => rfl) (fun _ => (wk_s rfl (wk_nil rfl))))) (fun _ => rfl) (fun _ => (wk_s rfl (wk_nil rfl)))) (fun k10 => (sim_ret (ep_c rfl) (by rfl) fins_nil)) (fun k10 => (sim_pass (sim_last (sim_retM (fn_m (v := fun _ => (fun (r : Bool) => (D.bl r))) (av_mm (bin_c (ap_cons (ep_var rfl) (ap_cons (ep_c rfl) ap_nil)) f_ixA) (fun r12 => (av_pm (ep_c rfl) (av_mp (bin_m (av_mp (down_genM (f := D.int) (u := dI) dI_eq (bin_c (ap_cons (ep_var rfl) (ap_cons (ep_c rfl) ap_nil)) f_ixA)) (fun c14 => (ap_cons (ep_c rfl) ap_nil))) (fun c14 => f_sub)) (fun c14 => ap_nil))))) (fun c15 => (t_law_whole c15.1 (0 : Int) (c15.2.2 - (1 : Int))))) (fun _ => by rfl) (fun _ => fins_nil)))))))))
def p_law_claim (hand_here1 : (List Int)) : Option ((Int × Int × Int) × (List Int)) :=
  (pairB (p_law_take hand_here1 (5 : Int)) fun r2 => (pairB (p_law_take r2.2 (3 : Int)) fun r3 => (p_law_take r3.2 (4 : Int)))).bind fun c6 => vlet (c6.1.1 : Int) fun way7 => vlet (c6.2.1.1 : Int) fun most8 => vlet (c6.2.2.1 : Int) fun far9 => (if (decide (way7 < (3 : Int))) = true then ((atI [(1 : Int), (2 : Int), (600 : Int)] way7).map fun r10 => (r10, c6.2.2.2)) else ((pairB (atI [(600 : Int), (12 : Int)] (way7 - (3 : Int))) fun r11 => (p_law_take c6.2.2.2 r11)).map fun c12 => (((1 : Int) + c12.2.1), c12.2.2))).bind fun r15 => vlet (r15.1 : Int) fun m16 => (if (decide (most8 < (2 : Int))) = true then ((atI [(0 : Int), (m16 - (1 : Int))] most8).map fun r17 => (r17, r15.2)) else ((p_law_take r15.2 m16).map fun r18 => (r18.1, r18.2))).bind fun r21 => vlet (r21.1 : Int) fun a22 => (if (decide (far9 < (2 : Int))) = true then ((atI [(2 : Int), ((10 : Int) ^ 6)] far9).map fun r23 => (r23, r21.2)) else ((pairB (atI [(999999 : Int), (30 : Int)] (far9 - (2 : Int))) fun r24 => (p_law_take r21.2 r24)).map fun c25 => (((2 : Int) + c25.2.1), c25.2.2))).bind fun r28 => some ((m16, a22, r28.1), r28.2)
theorem t_law_claim (hand_here1 : (List Int)) : FnT f_law_claim [.p 0 ((trL D.int) hand_here1)] (p_law_claim hand_here1) (fun (r : (Int × Int × Int) × (List Int)) => Out.rt ((e3 D.int D.int D.int) r.1) [((trL D.int) r.2)]) :=
  fn_exit' rfl (fun _ => .inl ⟨_, _, rfl⟩) (Γ0 := [some (.p 0 ((trL D.int) hand_here1)), none, none, none, none, none])
  (sim_par3 D.int D.int D.int (av_mm (call_fnP [0] (fun (r : Int × (List Int)) => [((trL D.int) r.2)]) (val := (fun (r : Int × (List Int)) => (D.int r.1))) (ga_s rfl (ga_v (ep_c rfl) ga_nil)) (t_law_take hand_here1 (5 : Int)) (by decide) (sl_c rfl rfl sl_0) (np_of [0] rfl (by decide)) (fit_s rfl rfl rfl (fit_v fit_nil)) (fun _ => rfl) (fun _ => .inl rfl)) (fun r2 => (av_mm (call_fnP [0] (fun (r : Int × (List Int)) => [((trL D.int) r.2)]) (val := (fun (r : Int × (List Int)) => (D.int r.1))) (ga_s rfl (ga_v (ep_c rfl) ga_nil)) (t_law_take r2.2 (3 : Int)) (by decide) (sl_c rfl rfl sl_0) (np_of [0] rfl (by decide)) (fit_s rfl rfl rfl (fit_v fit_nil)) (fun _ => rfl) (fun _ => .inl rfl)) (fun r3 => (av_mp (call_fnP [0] (fun (r : Int × (List Int)) => [((trL D.int) r.2)]) (val := (fun (r : Int × (List Int)) => (D.int r.1))) (ga_s rfl (ga_v (ep_c rfl) ga_nil)) (t_law_take r3.2 (4 : Int)) (by decide) (sl_c rfl rfl sl_0) (np_of [0] rfl (by decide)) (fit_s rfl rfl rfl (fit_v fit_nil)) (fun _ => rfl) (fun _ => .inl rfl)) (fun r4 => ap_nil)))))) (fun _ => rfl) (fun c6 way7 most8 far9 => (Sim.wk (Γ' := [some (.p 0 ((trL D.int) c6.2.2.2)), some (.v (D.int way7)), some (.v (D.int most8)), some (.v (D.int far9)), none, none]) (sim_asgM D.int (if_m (cmp_p (ap_cons (ep_var rfl) (ap_cons (ep_c rfl) ap_nil)) f_lt) (fun _ => (EvG.map (bin_c (ds := [((eL D.int) [(1 : Int), (2 : Int), (600 : Int)]), (D.int way7)]) (ap_cons (frz_p (lst_p (ap_cons (ep_c rfl) (ap_cons (ep_c rfl) (ap_cons (ep_c rfl) ap_nil))))) (ap_cons (ep_var rfl) ap_nil)) (f_ixL (f := D.int) (xs := [(1 : Int), (2 : Int), (600 : Int)]))) (fun r10 => (r10, c6.2.2.2)) (f' := (fun q13 => D.int q13.1)) (G' := (fun q13 => [some (.p 0 ((trL D.int) q13.2)), some (.v (D.int way7)), some (.v (D.int most8)), some (.v (D.int far9)), none, none])) (fun _ => rfl) (fun _ => (wk_s rfl (wk_s rfl (wk_s rfl (wk_s rfl (wk_n rfl (wk_n rfl (wk_nil rfl)))))))))) (fun _ => (EvG.map (bin_m (av_pm (ep_c rfl) (av_mp (call_fn [0] (fun r11 (r : Int × (List Int)) => [((trL D.int) r.2)]) (val := fun _ => (fun (r : Int × (List Int)) => (D.int r.1))) (ga_s rfl (ga_m (bin_c (ds := [((eL D.int) [(600 : Int), (12 : Int)]), (D.int (way7 - (3 : Int)))]) (ap_cons (frz_p (lst_p (ap_cons (ep_c rfl) (ap_cons (ep_c rfl) ap_nil)))) (ap_cons (bin_p (ap_cons (ep_var rfl) (ap_cons (ep_c rfl) ap_nil)) f_sub) ap_nil)) (f_ixL (f := D.int) (xs := [(600 : Int), (12 : Int)]))) (fun r11 => ga_nil))) (fun r11 => (t_law_take c6.2.2.2 r11)) (by decide) (fun _ => (sl_c rfl rfl sl_0)) (fun _ => (np_of [0] rfl (by decide))) (fun _ => (fit_s rfl rfl rfl (fit_v fit_nil))) (fun _ _ => rfl) (fun _ _ => .inl rfl)) (fun c12 => ap_nil))) (fun c12 => f_add)) (fun c12 => (((1 : Int) + c12.2.1), c12.2.2)) (f' := (fun q14 => D.int q14.1)) (G' := (fun q14 => [some (.p 0 ((trL D.int) q14.2)), some (.v (D.int way7)), some (.v (D.int most8)), some (.v (D.int far9)), none, none])) (fun _ => rfl) (fun _ => (wk_s rfl (wk_s rfl (wk_s rfl (wk_s rfl (wk_n rfl (wk_n rfl (wk_nil rfl))))))))))) (fun _ => rfl) (fun r15 m16 => (Sim.wk (Γ' := [some (.p 0 ((trL D.int) r15.2)), none, some (.v (D.int most8)), some (.v (D.int far9)), some (.v (D.int m16)), none]) (sim_asgM D.int (if_m (cmp_p (ap_cons (ep_var rfl) (ap_cons (ep_c rfl) ap_nil)) f_lt) (fun _ => (EvG.map (bin_c (ds := [((eL D.int) [(0 : Int), (m16 - (1 : Int))]), (D.int most8)]) (ap_cons (frz_p (lst_p (ap_cons (ep_c rfl) (ap_cons (bin_p (ap_cons (ep_var rfl) (ap_cons (ep_c rfl) ap_nil)) f_sub) ap_nil)))) (ap_cons (ep_var rfl) ap_nil)) (f_ixL (f := D.int) (xs := [(0 : Int), (m16 - (1 : Int))]))) (fun r17 => (r17, r15.2)) (f' := (fun q19 => D.int q19.1)) (G' := (fun q19 => [some (.p 0 ((trL D.int) q19.2)), none, some (.v (D.int most8)), some (.v (D.int far9)), some (.v (D.int m16)), none])) (fun _ => rfl) (fun _ => (wk_s rfl (wk_n rfl (wk_s rfl (wk_s rfl (wk_s rfl (wk_n rfl (wk_nil rfl)))))))))) (fun _ => (EvG.map (call_fnP [0] (fun (r : Int × (List Int)) => [((trL D.int) r.2)]) (val := (fun (r : Int × (List Int)) => (D.int r.1))) (ga_s rfl (ga_v (ep_var rfl) ga_nil)) (t_law_take r15.2 m16) (by decide) (sl_c rfl rfl sl_0) (np_of [0] rfl (by decide)) (fit_s rfl rfl rfl (fit_v fit_nil)) (fun _ => rfl) (fun _ => .inl rfl)) (fun r18 => (r18.1, r18.2)) (f' := (fun q20 => D.int q20.1)) (G' := (fun q20 => [some (.p 0 ((trL D.int) q20.2)), none, some (.v (D.int most8)), some (.v (D.int far9)), some (.v (D.int m16)), none])) (fun _ => rfl) (fun _ => (wk_s rfl (wk_n rfl (wk_s rfl (wk_s rfl (wk_s rfl (wk_n rfl (wk_nil rfl))))))))))) (fun _ => rfl) (fun r21 a22 => (Sim.wk (Γ' := [some (.p 0 ((trL D.int) r21.2)), none, none, some (.v (D.int far9)), some (.v (D.int m16)), some (.v (D.int a22))]) (sim_last (sim_retM (tup_m (av_pm (ep_var rfl) (av_pm (ep_var rfl) (av_mp (if_m (cmp_p (ap_cons (ep_var rfl) (ap_cons (ep_c rfl) ap_nil)) f_lt) (fun _ => (EvG.map (bin_c (ds := [((eL D.int) [(2 : Int), ((10 : Int) ^ 6)]), (D.int far9)]) (ap_cons (frz_p (lst_p (ap_cons (ep_c rfl) (ap_cons (bin_p (ap_cons (ep_c rfl) (ap_cons (ep_c rfl) ap_nil)) (f_powL (by decide))) ap_nil)))) (ap_cons (ep_var rfl) ap_nil)) (f_ixL (f := D.int) (xs := [(2 : Int), ((10 : Int) ^ 6)]))) (fun r23 => (r23, r21.2)) (f' := (fun q26 => D.int q26.1)) (G' := (fun q26 => [some (.p 0 ((trL D.int) q26.2)), none, none, some (.v (D.int far9)), some (.v (D.int m16)), some (.v (D.int a22))])) (fun _ => rfl) (fun _ => (wk_s rfl (wk_n rfl (wk_n rfl (wk_s rfl (wk_s rfl (wk_s rfl (wk_nil rfl)))))))))) (fun _ => (EvG.map (bin_m (av_pm (ep_c rfl) (av_mp (call_fn [0] (fun r24 (r : Int × (List Int)) => [((trL D.int) r.2)]) (val := fun _ => (fun (r : Int × (List Int)) => (D.int r.1))) (ga_s rfl (ga_m (bin_c (ds := [((eL D.int) [(999999 : Int), (30 : Int)]), (D.int (far9 - (2 : Int)))]) (ap_cons (frz_p (lst_p (ap_cons (ep_c rfl) (ap_cons (ep_c rfl) ap_nil)))) (ap_cons (bin_p (ap_cons (ep_var rfl) (ap_cons (ep_c rfl) ap_nil)) f_sub) ap_nil)) (f_ixL (f := D.int) (xs := [(999999 : Int), (30 : Int)]))) (fun r24 => ga_nil))) (fun r24 => (t_law_take r21.2 r24)) (by decide) (fun _ => (sl_c rfl rfl sl_0)) (fun _ => (np_of [0] rfl (by decide))) (fun _ => (fit_s rfl rfl rfl (fit_v fit_nil))) (fun _ _ => rfl) (fun _ _ => .inl rfl)) (fun c25 => ap_nil))) (fun c25 => f_add)) (fun c25 => (((2 : Int) + c25.2.1), c25.2.2)) (f' := (fun q27 => D.int q27.1)) (G' := (fun q27 => [some (.p 0 ((trL D.int) q27.2)), none, none, some (.v (D.int far9)), some (.v (D.int m16)), some (.v (D.int a22))])) (fun _ => rfl) (fun _ => (wk_s rfl (wk_n rfl (wk_n rfl (wk_s rfl (wk_s rfl (wk_s rfl (wk_nil rfl))))))))))) (fun r28 => ap_nil))))) (fun _ => by rfl) (fun _ => (fins_1 0 rfl)))) (wk_s rfl (wk_n rfl (wk_n rfl (wk_s rfl (wk_s rfl (wk_s rfl (wk_nil rfl)))))))))) (wk_s rfl (wk_n rfl (wk_s rfl (wk_s rfl (wk_s rfl (wk_n rfl (wk_nil rfl)))))))))) (wk_s rfl (wk_s rfl (wk_s rfl (wk_s rfl (wk_n rfl (wk_n rfl (wk_nil rfl))))))))))
def p_law_deep  : Option (D) :=
  vlet ((D.tup [(D.int (1 : Int)), (D.int (0 : Int)), (D.int (2 : Int))]) : D) fun thing1 => (rgO (0 : Int) (26 : Int)).bind fun g2 => (forO (fun (s3 : D) (x4 : Int) => vlet ((D.tup [s3]) : D) fun thing6 => some (thing6)) g2 thing1).bind fun (s5 : D) => some s5
theorem t_law_deep  : FnT f_law_deep [] (p_law_deep ) (fun (r : D) => Out.rt r []) :=
  fn_exit' rfl (fun _ => .inl ⟨_, _, rfl⟩) (Γ0 := [none, none])
  (sim_asgP idD (tup_p (ap_cons (ep_c rfl) (ap_cons (ep_c rfl) (ap_cons (ep_c rfl) ap_nil)))) (fun thing1 => (sim_forM (em := D.int) (fun s3 => [some (.v s3), none]) (rg1_c (ap_cons (ep_c rfl) ap_nil)) (fun _ => (wk_s rfl (wk_n rfl (wk_nil rfl)))) (fun s3 x4 => bod_1 (sim_last (sim_asgP idD (tup_p (ap_cons (ep_var rfl) ap_nil)) (fun thing6 => (sim_lp rfl (wk_s rfl (wk_n rfl (wk_nil rfl)))))))) (fun s5 => (sim_last (sim_ret (ep_var rfl) (by rfl) fins_nil))))))
def p_law_odd (hand_here1 : (List Int)) (claim_here2 : (Int × Int × Int)) : Option (D × (List Int)) :=
  (p_law_take hand_here1 (20 : Int)).bind fun r3 => vlet (r3.1 : Int) fun way4 => vlet ([(eN ()), (D.bl true), (D.bl false), (D.int (-(1 : Int))), (D.int (0 : Int)), (D.int (1 : Int)), (D.int (2 : Int)), (D.int claim_here2.1), (D.int (claim_here2.1 + (1 : Int))), (D.int (601 : Int)), (D.int (((10 : Int) ^ 6) + (1 : Int))), (D.int ((10 : Int) ^ 6))] : (List D)) fun some5 => (pairB (pairB p_law_deep fun r6 => catO some5 [(D.str ("1" : Str)), (D.str ("" : Str)), ((eT D.int) [(1 : Int)]), ((eL D.int) [(1 : Int)]), (D.tup []), ((eL D.int) []), D.emp, r6]) fun c7 => (atI c7.2 way4)).bind fun c8 => some (c8.2, r3.2)
theorem t_law_odd (hand_here1 : (List Int)) (claim_here2 : (Int × Int × Int)) : FnT f_law_odd [.p 0 ((trL D.int) hand_here1), .v ((e3 D.int D.int D.int) claim_here2)] (p_law_odd hand_here1 claim_here2) (fun (r : D × (List Int)) => Out.rt r.1 [((trL D.int) r.2)]) :=
  fn_exit' rfl (fun _ => .inl ⟨_, _, rfl⟩) (Γ0 := [some (.p 0 ((trL D.int) hand_here1)), some (.v ((e3 D.int D.int D.int) claim_here2)), none, none])
  (sim_asgM D.int (call_fnP [0] (fun (r : Int × (List Int)) => [((trL D.int) r.2)]) (val := (fun (r : Int × (List Int)) => (D.int r.1))) (ga_s rfl (ga_v (ep_c rfl) ga_nil)) (t_law_take hand_here1 (20 : Int)) (by decide) (sl_c rfl rfl sl_0) (np_of [0] rfl (by decide)) (fit_s rfl rfl rfl (fit_v fit_nil)) (fun _ => rfl) (fun _ => .inl rfl)) (fun _ => rfl) (fun r3 way4 => (Sim.wk (Γ' := [some (.p 0 ((trL D.int) r3.2)), some (.v ((e3 D.int D.int D.int) claim_here2)), some (.v (D.int way4)), none]) (sim_asgP (eL idD) (frz_p (lst_p (ap_cons (ep_c rfl) (ap_cons (ep_c rfl) (ap_cons (ep_c rfl) (ap_cons (un_p (ep_c rfl) f_neg) (ap_cons (ep_c rfl) (ap_cons (ep_c rfl) (ap_cons (ep_c rfl) (ap_cons (bin_p (ap_cons (ep_var rfl) (ap_cons (ep_c rfl) ap_nil)) (f_ixD rfl)) (ap_cons (bin_p (ap_cons (bin_p (ap_cons (ep_var rfl) (ap_cons (ep_c rfl) ap_nil)) (f_ixD rfl)) (ap_cons (ep_c rfl) ap_nil)) f_add) (ap_cons (ep_c rfl) (ap_cons (bin_p (ap_cons (bin_p (ap_cons (ep_c rfl) (ap_cons (ep_c rfl) ap_nil)) (f_powL (by decide))) (ap_cons (ep_c rfl) ap_nil)) f_add) (ap_cons (bin_p (ap_cons (ep_c rfl) (ap_cons (ep_c rfl) ap_nil)) (f_powL (by decide))) ap_nil)))))))))))))) (fun some5 => (sim_last (sim_retM (bin_mc (av_mp (frz_m (cat_pm (ep_var rfl) (frz_m (lst_m (av_pm (ep_c rfl) (av_pm (ep_c rfl) (av_pm (tup_p (ap_cons (ep_c rfl) ap_nil)) (av_pm (frz_p (lst_p (ap_cons (ep_c rfl) ap_nil))) (av_pm (tup_p ap_nil) (av_pm (frz_p (lst_p ap_nil)) (av_pm (ep_c rfl) (av_mp (fn_p (ds := []) (v := (fun (r : D) => r)) ap_nil t_law_deep) (fun r6 => ap_nil))))))))))))) (fun c7 => (ap_cons (ep_var rfl) ap_nil))) (fun c7 => (f_ixL (f := idD) (xs := c7.2)))) (fun _ => by rfl) (fun _ => (fins_1 0 rfl)))))) (wk_s rfl (wk_s rfl (wk_s rfl (wk_n rfl (wk_nil rfl))))))))
def p_law_otherwise (hand_here1 : (List Int)) (claim_here2 : (Int × Int × Int)) : Option (D × (List Int)) :=
  (pairB (p_law_take hand_here1 (8 : Int)) fun r3 => (pairB (p_law_take r3.2 (3 : Int)) fun r4 => (p_law_take r4.2 (3 : Int)))).bind fun c7 => vlet (c7.1.1 : Int) fun way8 => vlet (c7.2.1.1 : Int) fun spot9 => vlet (c7.2.2.1 : Int) fun to10 => (p_law_odd c7.2.2.2 claim_here2).bind fun r11 => vlet (r11.1 : D) fun odd_here12 => if (decide (way8 < (4 : Int))) = true then (pairB (catA ((eT D.int) (cutI [claim_here2.1, claim_here2.2.1, claim_here2.2.2] none (some spot9))) (D.tup [odd_here12])) fun r13 => (catA r13 ((eT D.int) (cutI [claim_here2.1, claim_here2.2.1, claim_here2.2.2] (some (spot9 + (1 : Int))) none)))).bind fun c14 => some (c14.2, r11.2) else if (decide (way8 = (4 : Int))) = true then vlet ([claim_here2.1, claim_here2.2.1, claim_here2.2.2] : (List Int)) fun found15 => (atI found15 to10).bind fun r16 => (atI found15 spot9).bind fun r17 => (stO found15 spot9 r16).bind fun z18 => (stO z18 to10 r17).bind fun z19 => some (((eT D.int) z19), r11.2) else (pairB (catO (cutI [claim_here2.1, claim_here2.2.1, claim_here2.2.2] none (some spot9)) (cutI [claim_here2.1, claim_here2.2.1, claim_here2.2.2] (some (spot9 + (1 : Int))) none)) fun r20 => (pairB (catA ((eT D.int) (cutI [claim_here2.1, claim_here2.2.1, claim_here2.2.2] none (some spot9))) (D.tup [odd_here12])) fun r21 => (catA r21 ((eT D.int) (cutI [claim_here2.1, claim_here2.2.1, claim_here2.2.2] (some spot9) none))))).bind fun c23 => vlet ([((eT D.int) c23.1), c23.2.2] : (List D)) fun some24 => (pairB (pairB (atI [((eL D.int) [claim_here2.1, claim_here2.2.1, claim_here2.2.2]), odd_here12] (spot9 % (2 : Int))) fun r25 => catO some24 [r25]) fun c26 => (atI c26.2 (way8 - (5 : Int)))).bind fun c27 => some (c27.2, r11.2)
theorem t_law_otherwise (hand_here1 : (List Int)) (claim_here2 : (Int × Int × Int)) : FnT f_law_otherwise [.p 0 ((trL D.int) hand_here1), .v ((e3 D.int D.int D.int) claim_here2)] (p_law_otherwise hand_here1 claim_here2) (fun (r : D × (List Int)) => Out.rt r.1 [((trL D.int) r.2)]) :=
  fn_exit' rfl (fun _ => .inl ⟨_, _, rfl⟩) (Γ0 := [some (.p 0 ((trL D.int) hand_here1)), some (.v ((e3 D.int D.int D.int) claim_here2)), none, none, none, none, none, none])
  (sim_par3 D.int D.int D.int (av_mm (call_fnP [0] (fun (r : Int × (List Int)) => [((trL D.int) r.2)]) (val := (fun (r : Int × (List Int)) => (D.int r.1))) (ga_s rfl (ga_v (ep_c rfl) ga_nil)) (t_law_take hand_here1 (8 : Int)) (by decide) (sl_c rfl rfl sl_0) (np_of [0] rfl (by decide)) (fit_s rfl rfl rfl (fit_v fit_nil)) (fun _ => rfl) (fun _ => .inl rfl)) (fun r3 => (av_mm (call_fnP [0] (fun (r : Int × (List Int)) => [((trL D.int) r.2)]) (val := (fun (r : Int × (List Int)) => (D.int r.1))) (ga_s rfl (ga_v (ep_c rfl) ga_nil)) (t_law_take r3.2 (3 : Int)) (by decide) (sl_c rfl rfl sl_0) (np_of [0] rfl (by decide)) (fit_s rfl rfl rfl (fit_v fit_nil)) (fun _ => rfl) (fun _ => .inl rfl)) (fun r4 => (av_mp (call_fnP [0] (fun (r : Int × (List Int)) => [((trL D.int) r.2)]) (val := (fun (r : Int × (List Int)) => (D.int r.1))) (ga_s rfl (ga_v (ep_c rfl) ga_nil)) (t_law_take r4.2 (3 : Int)) (by decide) (sl_c rfl rfl sl_0) (np_of [0] rfl (by decide)) (fit_s rfl rfl rfl (fit_v fit_nil)) (fun _ => rfl) (fun _ => .inl rfl)) (fun r5 => ap_nil)))))) (fun _ => rfl) (fun c7 way8 spot9 to10 => (Sim.wk (Γ' := [some (.p 0 ((trL D.int) c7.2.2.2)), some (.v ((e3 D.int D.int D.int) claim_here2)), some (.v (D.int way8)), some (.v (D.int spot9)), some (.v (D.int to10)), none, none, none]) (sim_asgM idD (call_fnP [0] (fun (r : D × (List Int)) => [((trL D.int) r.2)]) (val := (fun (r : D × (List Int)) => r.1)) (ga_s rfl (ga_v (ep_var rfl) ga_nil)) (t_law_odd c7.2.2.2 claim_here2) (by decide) (sl_c rfl rfl sl_0) (np_of [0] rfl (by decide)) (fit_s rfl rfl rfl (fit_v fit_nil)) (fun _ => rfl) (fun _ => .inl rfl)) (fun _ => rfl) (fun r11 odd_here12 => (Sim.wk (Γ' := [some (.p 0 ((trL D.int) r11.2)), some (.v ((e3 D.int D.int D.int) claim_here2)), some (.v (D.int way8)), some (.v (D.int spot9)), some (.v (D.int to10)), some (.v odd_here12), none, none]) (sim_if (cmp_p (ap_cons (ep_var rfl) (ap_cons (ep_c rfl) ap_nil)) f_lt) (fun _ => (sim_retM (bin_mc (av_mp (bin_c (ap_cons (cutT_p (ep_var rfl) so_no (so_some (ep_var rfl))) (ap_cons (tup_p (ap_cons (ep_var rfl) ap_nil)) ap_nil)) f_catTA) (fun r13 => (ap_cons (cutT_p (ep_var rfl) (so_some (bin_p (ap_cons (ep_var rfl) (ap_cons (ep_c rfl) ap_nil)) f_add)) so_no) ap_nil))) (fun r13 => f_catTA)) (fun _ => by rfl) (fun _ => (fins_1 0 rfl)))) (fun _ => (sim_pass (sim_if (cmp_p (ap_cons (ep_var rfl) (ap_cons (ep_c rfl) ap_nil)) (f_eq y_I q_I (by decide) (a := way8) (b := (4 : Int)))) (fun _ => (sim_assoc (sim_newP (trL D.int) (callL_p (ap_cons (ep_var rfl) ap_nil) (f_listT (f := D.int) (xs := [claim_here2.1, claim_here2.2.1, claim_here2.2.2]))) rfl (fun found15 => (sim_assoc (sim_swap (u := fun r16 => r16) (v := fun r17 => r17) (rd_ix (pl_var rfl rfl).rd (ep_var rfl)) (rd_ix (pl_var rfl rfl).rd (ep_var rfl)) (fun r16 r17 => (sim_set (f := D.int) (v := r16) (ep_sK rfl) (pl_var rfl rfl) (ep_var rfl) (fun z18 => (sim_set (f := D.int) (v := r17) (ep_sK rfl) (pl_var rfl rfl) (ep_var rfl) (fun z19 => (sim_ret (rd_call (pl_var rfl rfl).rd o_tuple) (by rfl) (fins_1 0 rfl))))))))))))) (fun _ => (sim_pass (sim_asgM (eL idD) (frz_m (lst_m (av_mm (bin_c (ap_cons (cutT_p (ep_var rfl) so_no (so_some (ep_var rfl))) (ap_cons (cutT_p (ep_var rfl) (so_some (bin_p (ap_cons (ep_var rfl) (ap_cons (ep_c rfl) ap_nil)) f_add)) so_no) ap_nil)) (f_catT (f := D.int) (xs := (cutI [claim_here2.1, claim_here2.2.1, claim_here2.2.2] none (some spot9))) (ys := (cutI [claim_here2.1, claim_here2.2.1, claim_here2.2.2] (some (spot9 + (1 : Int))) none)))) (fun r20 => (av_mp (bin_mc (av_mp (bin_c (ap_cons (cutT_p (ep_var rfl) so_no (so_some (ep_var rfl))) (ap_cons (tup_p (ap_cons (ep_var rfl) ap_nil)) ap_nil)) f_catTA) (fun r21 => (ap_cons (cutT_p (ep_var rfl) (so_some (ep_var rfl)) so_no) ap_nil))) (fun r21 => f_catTA)) (fun c22 => ap_nil)))))) (fun _ => rfl) (fun c23 some24 => (sim_last (sim_retM (bin_mc (av_mp (frz_m (cat_pm (ep_var rfl) (frz_m (lst_m (av_mp (bin_c (ds := [((eL idD) [((eL D.int) [claim_here2.1, claim_here2.2.1, claim_here2.2.2]), odd_here12]), (D.int (spot9 % (2 : Int)))]) (ap_cons (frz_p (lst_p (ap_cons (frz_p (callL_p (ap_cons (ep_var rfl) ap_nil) (f_listT (f := D.int) (xs := [claim_here2.1, claim_here2.2.1, claim_here2.2.2])))) (ap_cons (ep_var rfl) ap_nil)))) (ap_cons (bin_p (ap_cons (ep_var rfl) (ap_cons (ep_c rfl) ap_nil)) (f_modL (by decide))) ap_nil)) (f_ixL (f := idD) (xs := [((eL D.int) [claim_here2.1, claim_here2.2.1, claim_here2.2.2]), odd_here12]))) (fun r25 => ap_nil)))))) (fun c26 => (ap_cons (bin_p (ap_cons (ep_var rfl) (ap_cons (ep_c rfl) ap_nil)) f_sub) ap_nil))) (fun c26 => (f_ixL (f := idD) (xs := c26.2)))) (fun _ => by rfl) (fun _ => (fins_1 0 rfl)))))))))))) (wk_s rfl (wk_s rfl (wk_s rfl (wk_s rfl (wk_s rfl (wk_s rfl (wk_n rfl (wk_n rfl (wk_nil rfl)))))))))))) (wk_s rfl (wk_s rfl (wk_s rfl (wk_s rfl (wk_s rfl (wk_n rfl (wk_n rfl (wk_n rfl (wk_nil rfl))))))))))))
def p_law_told (thing1 : D) : Option (Bool) :=
  (repE thing1).bind fun before3 => (pis_claim thing1).bind fun found5 => (if true = true then ((p_law_due thing1).bind fun r6 => if (decide (found5 = r6)) = true then ((repE thing1).map fun r7 => (decide (r7 = before3))) else some false) else some false).bind fun k10 => some k10
theorem t_law_told (thing1 : D) : FnT f_law_told [.v thing1] (p_law_told thing1) (fun (r : Bool) => Out.rt (D.bl r) []) :=
  fn_exit' rfl (fun _ => .inl ⟨_, _, rfl⟩) (Γ0 := [some (.v thing1), none, none])
  (sim_asgB D.str (call_c (ap_cons (ep_var rfl) ap_nil) f_repE) (fun before3 => (sim_asgB D.bl (fn_p (ds := [thing1]) (v := (fun (r : Bool) => (D.bl r))) (ap_cons (ep_var rfl) ap_nil) (tis_claim thing1)) (fun found5 => (sim_last (sim_retM (andV_t (and_g (f := fun k10 => k10) (G := fun k10 => [some (.v thing1), some (.v (D.str before3)), some (.v (D.bl found5))]) (z0 := false) (tb_p (isi_p (ep_var rfl) (by rfl))) (fun _ => (tb_m (andV_t (and_gm (f := fun k8 => k8) (G := fun k8 => [some (.v thing1), some (.v (D.str before3)), some (.v (D.bl found5))]) (z0 := fun r6 => false) (tb_m (ofT_m (cmp_m (av_pm (ep_var rfl) (av_mp (fn_p (ds := [thing1]) (v := (fun (r : Bool) => (D.bl r))) (ap_cons (ep_var rfl) ap_nil) (t_law_due thing1)) (fun r6 => ap_nil))) (fun r6 => (f_eq y_B q_B (by decide) (a := found5) (b := r6)))))) (fun r6 _ => (EvG.map (tb_m (ofT_m (cmp_m (av_mp (call_c (ap_cons (ep_var rfl) ap_nil) f_repE) (fun r7 => (ap_cons (ep_var rfl) ap_nil))) (fun r7 => f_eqS)))) (fun r7 => (decide (r7 = before3))) (f' := (fun q9 => (fun k : Bool => k) q9)) (G' := (fun q9 => [some (.v thing1), some (.v (D.str before3)), some (.v (D.bl found5))])) (fun _ => rfl) (fun _ => (wk_s rfl (wk_s rfl (wk_s rfl (wk_nil rfl))))))) (fun _ => rfl) (fun _ => (wk_s rfl (wk_s rfl (wk_s rfl (wk_nil rfl))))))))) rfl (wk_s rfl (wk_s rfl (wk_s rfl (wk_nil rfl)))))) (fun _ => by rfl) (fun _ => fins_nil)))))))
def plaw (script1 : (List Int)) : Option (Bool) :=
  (rgO (0 : Int) (if (if (4 : Int) < (script1.length : Int) then (4 : Int) else (script1.length : Int)) > (1 : Int) then (if (4 : Int) < (script1.length : Int) then (4 : Int) else (script1.length : Int)) else (1 : Int))).bind fun g2 => bindR id (forR (fun (s3 : Unit) (x4 : Int) => (p_law_hand script1 x4).bind fun r7 => vlet (r7 : (List Int)) fun hand_here6 => (rgO (0 : Int) (20 : Int)).bind fun g8 => bindR Lp.rt (forR (fun (s9 : (List Int)) (x10 : Int) => (p_law_claim s9).bind fun r12 => vlet (r12.1 : (Int × Int × Int)) fun claim_here13 => ((pis_claim ((e3 D.int D.int D.int) claim_here13)).bind fun r14 => if (!decide (r14 = true)) = true then some (true, r12.2) else ((pairB (p_law_otherwise r12.2 claim_here13) fun r15 => (p_law_told r15.1)).map fun c16 => ((!c16.2), c16.1.2))).bind fun k17 => if k17.1 = true then some (Lp.rt false) else (pairB (p_law_odd k17.2 claim_here13) fun r19 => (p_law_told r19.1)).bind fun c20 => if (!c20.2) = true then some (Lp.rt false) else some (Lp.nx c20.1.2)) g8 hand_here6) fun s11 => some (Lp.nx ())) g2 ()) fun s5 => bindR id (forR (fun (s21 : Unit) (x22 : (Int × Int × Int)) => (pis_claim ((e3 D.int D.int D.int) x22)).bind fun r24 => if (!decide (r24 = false)) = true then some (Lp.rt false) else some (Lp.nx ())) [((601 : Int), (0 : Int), (2 : Int)), ((600 : Int), (600 : Int), (2 : Int)), ((1 : Int), (0 : Int), (1 : Int)), ((1 : Int), (0 : Int), (((10 : Int) ^ 6) + (1 : Int))), ((1 : Int), (1 : Int), (2 : Int)), ((0 : Int), (0 : Int), (2 : Int))] ()) fun s23 => ((pis_claim (D.tup [(D.int (1 : Int)), (D.int (0 : Int)), (D.int (2 : Int))])).bind fun r25 => if (decide (r25 = true)) = true then ((pis_claim (D.tup [(D.int (600 : Int)), (D.int (599 : Int)), (D.int ((10 : Int) ^ 6))])).map fun r26 => (decide (r26 = true))) else some false).bind fun k27 => some k27
theorem tlaw (script1 : (List Int)) : FnT flaw [.v ((eZ D.int) script1)] (plaw script1) (fun (r : Bool) => Out.rt (D.bl r) []) :=
  fn_exit' rfl (fun _ => .inl ⟨_, _, rfl⟩) (Γ0 := [some (.v ((eZ D.int) script1)), none, none, none, none, none])
  (sim_forR (em := D.int) (fun s3 => [some (.v ((eZ D.int) script1)), none, none, none, none, none]) (rg1_c (ap_cons (call_p (ap_cons (ep_c rfl) (ap_cons (call_p (ap_cons (call_p (ap_cons (ep_var rfl) ap_nil) (f_lenZ (f := D.int) (xs := script1))) (ap_cons (ep_c rfl) ap_nil)) f_min2) ap_nil)) f_max2) ap_nil)) (fun _ => (wk_s rfl (wk_n rfl (wk_n rfl (wk_n rfl (wk_n rfl (wk_n rfl (wk_nil rfl)))))))) (fun _ => rfl) (fun s3 x4 => bod_1 (sim_new (trL D.int) (call_newP [] (fun (r : (List Int)) => []) (val := (fun (r : (List Int)) => ((trL D.int) r))) (ga_v (ep_var rfl) (ga_v (ep_var rfl) ga_nil)) (t_law_hand script1 x4) (by decide) sl_0 (np_of [] rfl (by decide)) (fit_v (fit_v fit_nil)) (fun _ => rfl) (fun _ => rfl)) (fun _ => rfl) (fun r7 hand_here6 => (Sim.wk (Γ' := [some (.v ((eZ D.int) script1)), none, some (.o ((trL D.int) hand_here6)), none, none, none]) (sim_last (sim_forR (em := D.int) (fun s9 => [some (.v ((eZ D.int) script1)), none, some (.o ((trL D.int) s9)), none, none, none]) (rg1_c (ap_cons (ep_c rfl) ap_nil)) (fun _ => (wk_s rfl (wk_n rfl (wk_s rfl (wk_n rfl (wk_n rfl (wk_n rfl (wk_nil rfl)))))))) (fun _ => rfl) (fun s9 x10 => bod_1 (sim_asgM (e3 D.int D.int D.int) (call_fnP [2] (fun (r : (Int × Int × Int) × (List Int)) => [((trL D.int) r.2)]) (val := (fun (r : (Int × Int × Int) × (List Int)) => ((e3 D.int D.int D.int) r.1))) (ga_s rfl ga_nil) (t_law_claim s9) (by decide) (sl_c rfl rfl sl_0) (np_of [0] rfl (by decide)) (fit_s rfl rfl rfl fit_nil) (fun _ => rfl) (fun _ => .inl rfl)) (fun _ => rfl) (fun r12 claim_here13 => (Sim.wk (Γ' := [some (.v ((eZ D.int) script1)), none, some (.o ((trL D.int) r12.2)), none, some (.v ((e3 D.int D.int D.int) claim_here13)), none]) (sim_ifM (or_gm (f := fun k17 => k17.1) (G := fun k17 => [some (.v ((eZ D.int) script1)), none, some (.o ((trL D.int) k17.2)), none, some (.v ((e3 D.int D.int D.int) claim_here13)), none]) (z0 := fun r14 => (true, r12.2)) (cmp_m (av_mp (fn_p (ds := [((e3 D.int D.int D.int) claim_here13)]) (v := (fun (r : Bool) => (D.bl r))) (ap_cons (ep_var rfl) ap_nil) (tis_claim ((e3 D.int D.int D.int) claim_here13))) (fun r14 => (ap_cons (ep_c rfl) ap_nil))) (fun r14 => f_notQ)) (fun r14 _ => (EvG.map (not_m (tb_m (fn_m (v := fun _ => (fun (r : Bool) => (D.bl r))) (av_mp (call_fnP [2] (fun (r : D × (List Int)) => [((trL D.int) r.2)]) (val := (fun (r : D × (List Int)) => r.1)) (ga_s rfl (ga_v (ep_var rfl) ga_nil)) (t_law_otherwise r12.2 claim_here13) (by decide) (sl_c rfl rfl sl_0) (np_of [0] rfl (by decide)) (fit_s rfl rfl rfl (fit_v fit_nil)) (fun _ => rfl) (fun _ => .inl rfl)) (fun r15 => ap_nil)) (fun r15 => (t_law_told r15.1))))) (fun c16 => ((!c16.2), c16.1.2)) (f' := (fun q18 => (fun k : Bool => k) q18.1)) (G' := (fun q18 => [some (.v ((eZ D.int) script1)), none, some (.o ((trL D.int) q18.2)), none, some (.v ((e3 D.int D.int D.int) claim_here13)), none])) (fun _ => rfl) (fun _ => (wk_s rfl (wk_n rfl (wk_s rfl (wk_n rfl (wk_s rfl (wk_n rfl (wk_nil rfl)))))))))) (fun _ => rfl) (fun _ => (wk_s rfl (wk_n rfl (wk_s rfl (wk_n rfl (wk_s rfl (wk_n rfl (wk_nil rfl))))))))) (fun k17 => (sim_ret (ep_c rfl) (by rfl) fins_nil)) (fun k17 => (sim_pass (sim_last (sim_ifM (not_m (tb_m (fn_m (v := fun _ => (fun (r : Bool) => (D.bl r))) (av_mp (call_fnP [2] (fun (r : D × (List Int)) => [((trL D.int) r.2)]) (val := (fun (r : D × (List Int)) => r.1)) (ga_s rfl (ga_v (ep_var rfl) ga_nil)) (t_law_odd k17.2 claim_here13) (by decide) (sl_c rfl rfl sl_0) (np_of [0] rfl (by decide)) (fit_s rfl rfl rfl (fit_v fit_nil)) (fun _ => rfl) (fun _ => .inl rfl)) (fun r19 => ap_nil)) (fun r19 => (t_law_told r19.1))))) (fun c20 => (sim_ret (ep_c rfl) (by rfl) fins_nil)) (fun c20 => (sim_pass (sim_lp rfl (wk_s rfl (wk_n rfl (wk_s rfl (wk_n rfl (wk_n rfl (wk_n rfl (wk_nil rfl))))))))))))))) (wk_s rfl (wk_n rfl (wk_s rfl (wk_n rfl (wk_s rfl (wk_n rfl (wk_nil rfl))))))))))) (fun s11 => (sim_lp rfl (wk_s rfl (wk_n rfl (wk_n rfl (wk_n rfl (wk_n rfl (wk_n rfl (wk_nil rfl))))))))))) (wk_s rfl (wk_n rfl (wk_s rfl (wk_n rfl (wk_n rfl (wk_n rfl (wk_nil rfl))))))))))) (fun s5 => (sim_forRP (em := (e3 D.int D.int D.int)) (fun s21 => [none, none, none, none, none, none]) (i_p (tup_p (ap_cons (tup_p (ap_cons (ep_c rfl) (ap_cons (ep_c rfl) (ap_cons (ep_c rfl) ap_nil)))) (ap_cons (tup_p (ap_cons (ep_c rfl) (ap_cons (ep_c rfl) (ap_cons (ep_c rfl) ap_nil)))) (ap_cons (tup_p (ap_cons (ep_c rfl) (ap_cons (ep_c rfl) (ap_cons (ep_c rfl) ap_nil)))) (ap_cons (tup_p (ap_cons (ep_c rfl) (ap_cons (ep_c rfl) (ap_cons (bin_p (ap_cons (bin_p (ap_cons (ep_c rfl) (ap_cons (ep_c rfl) ap_nil)) (f_powL (by decide))) (ap_cons (ep_c rfl) ap_nil)) f_add) ap_nil)))) (ap_cons (tup_p (ap_cons (ep_c rfl) (ap_cons (ep_c rfl) (ap_cons (ep_c rfl) ap_nil)))) (ap_cons (tup_p (ap_cons (ep_c rfl) (ap_cons (ep_c rfl) (ap_cons (ep_c rfl) ap_nil)))) ap_nil))))))) rfl) (wk_n rfl (wk_n rfl (wk_n rfl (wk_n rfl (wk_n rfl (wk_n rfl (wk_nil rfl))))))) (fun _ => rfl) (fun s21 x22 => bod_1 (sim_last (sim_ifM (cmp_m (av_mp (fn_p (ds := [((e3 D.int D.int D.int) x22)]) (v := (fun (r : Bool) => (D.bl r))) (ap_cons (ep_var rfl) ap_nil) (tis_claim ((e3 D.int D.int D.int) x22))) (fun r24 => (ap_cons (ep_c rfl) ap_nil))) (fun r24 => f_notQ)) (fun r24 => (sim_ret (ep_c rfl) (by rfl) fins_nil)) (fun r24 => (sim_pass (sim_lp rfl (wk_n rfl (wk_n rfl (wk_n rfl (wk_n rfl (wk_n rfl (wk_n rfl (wk_nil rfl))))))))))))) (fun s23 => (sim_last (sim_retM (andV_t (and_gm (f := fun k27 => k27) (G := fun k27 => [none, none, none, none, none, none]) (z0 := fun r25 => false) (tb_m (ofT_m (cmp_m (av_mp (fn_p (ds := [(D.tup [(D.int (1 : Int)), (D.int (0 : Int)), (D.int (2 : Int))])]) (v := (fun (r : Bool) => (D.bl r))) (ap_cons (tup_p (ap_cons (ep_c rfl) (ap_cons (ep_c rfl) (ap_cons (ep_c rfl) ap_nil)))) ap_nil) (tis_claim (D.tup [(D.int (1 : Int)), (D.int (0 : Int)), (D.int (2 : Int))]))) (fun r25 => (ap_cons (ep_c rfl) ap_nil))) (fun r25 => f_isQ)))) (fun r25 _ => (EvG.map (tb_m (ofT_m (cmp_m (av_mp (fn_p (ds := [(D.tup [(D.int (600 : Int)), (D.int (599 : Int)), (D.int ((10 : Int) ^ 6))])]) (v := (fun (r : Bool) => (D.bl r))) (ap_cons (tup_p (ap_cons (ep_c rfl) (ap_cons (ep_c rfl) (ap_cons (bin_p (ap_cons (ep_c rfl) (ap_cons (ep_c rfl) ap_nil)) (f_powL (by decide))) ap_nil)))) ap_nil) (tis_claim (D.tup [(D.int (600 : Int)), (D.int (599 : Int)), (D.int ((10 : Int) ^ 6))]))) (fun r26 => (ap_cons (ep_c rfl) ap_nil))) (fun r26 => f_isQ)))) (fun r26 => (decide (r26 = true))) (f' := (fun q28 => (fun k : Bool => k) q28)) (G' := (fun q28 => [none, none, none, none, none, none])) (fun _ => rfl) (fun _ => (wk_n rfl (wk_n rfl (wk_n rfl (wk_n rfl (wk_n rfl (wk_n rfl (wk_nil rfl)))))))))) (fun _ => rfl) (fun _ => (wk_n rfl (wk_n rfl (wk_n rfl (wk_n rfl (wk_n rfl (wk_n rfl (wk_nil rfl)))))))))) (fun _ => by rfl) (fun _ => fins_nil)))))))
end Lk26
namespace Lk26
open PySem PySem.Spec PyProof.Rows L2 Vi
def Hd (n : Int) (st : List Int) : Prop := ∃ g a b : Int, st = [g, a, b] ∧ 0 ≤ g ∧ 0 ≤ a ∧ a < 2305843009213693951 ∧ 0 ≤ b ∧ b ≤ n
theorem Hd.up {n k : Int} {st : List Int} (h : Hd n st) (hk : n ≤ k) : Hd k st := let ⟨g, a, b, e, h1, h3, h4, h5, h6⟩ := h; ⟨g, a, b, e, h1, h3, h4, h5, Int.le_trans h6 hk⟩
theorem hand_ok (ns : List Int) (k : Int) (hk : 0 ≤ k ∧ k ≤ 100) : wpO (p_law_hand ns k) (Hd 0) := by
  unfold p_law_hand
  rw [wp_bind]
  have cell : wpO (if (decide (k < (ns.length : Int))) = true then ((atI ns k).map fun r3 => (if r3 < 0 then -r3 else r3)) else (some (0 : Int))) (fun c => 0 ≤ c) := by
    rw [wp_ite]
    refine ⟨fun h => ?_, fun _ => wp_some.mpr (Int.le_refl _)⟩
    rw [wp_map]
    exact wp_at hk.1 (of_decide_eq_true h) fun x _ => by split <;> omega
  refine cell.imp fun c hc => ?_
  rw [wp_vlet]
  have g0 : 0 ≤ (if (decide (((10 : Int) ^ 18) ≤ c)) = true then (c % (((((10 : Int) ^ 60) * ((10 : Int) ^ 60)) * ((10 : Int) ^ 60)) * ((10 : Int) ^ 60))) else (0 : Int)) := by
    split
    · exact Int.emod_nonneg _ (by decide)
    · exact Int.le_refl _
  generalize (if (decide (((10 : Int) ^ 18) ≤ c)) = true then (c % (((((10 : Int) ^ 60) * ((10 : Int) ^ 60)) * ((10 : Int) ^ 60)) * ((10 : Int) ^ 60))) else (0 : Int)) = g at g0
  simp only [wp_bind, wp_pair]
  have e1 : 0 ≤ 7919 * k ∧ 7919 * k < 1000000 := by omega
  refine wp_mulS (by omega) (by omega) ?_
  have e2 : 0 ≤ 7919 * k * k := Int.mul_nonneg e1.1 hk.1
  have e3 : 7919 * k * k ≤ 1000000 * 100 := Int.mul_le_mul (by omega) (by omega) hk.1 (by omega)
  refine wp_mulS (by omega) (by omega) ?_
  skip
  have c0 := Int.emod_nonneg c (show (2305843009213693951 : Int) ≠ 0 by decide)
  have c1 := Int.emod_lt_of_pos c (show 0 < (2305843009213693951 : Int) by decide)
  refine wp_mulS (by omega) (by omega) ?_
  rw [wp_some]
  exact ⟨_, _, _, rfl, g0, Int.emod_nonneg _ (by decide), Int.lt_trans (Int.emod_lt_of_pos _ (by decide)) (by decide), Int.le_refl _, Int.le_refl _⟩
theorem take_wp {st : List Int} {n : Int} {Q : Int × List Int → Prop} {k : Int} (h : Hd n st) (hn : n < 1000000) (hk : 0 < k ∧ k < 2 ^ 60)
    (q : ∀ r st', 0 ≤ r → r < k → Hd (n + 1) st' → Q (r, st')) : wpO (p_law_take st k) Q := by
  obtain ⟨g, a, b, rfl, g0, a0, a1, b0, b1⟩ := h
  have i0 : ∀ x y z : Int, atI [x, y, z] 0 = some x := fun _ _ _ => rfl
  have i1 : ∀ x y z : Int, atI [x, y, z] 1 = some y := fun _ _ _ => rfl
  have i2 : ∀ x y z : Int, atI [x, y, z] 2 = some z := fun _ _ _ => rfl
  have s0 : ∀ x y z v : Int, stO [x, y, z] 0 v = some [v, y, z] := fun _ _ _ _ => rfl
  have s2 : ∀ x y z v : Int, stO [x, y, z] 2 v = some [x, y, v] := fun _ _ _ _ => rfl
  have km : ∀ x : Int, modO x k = some (x % k) := fun x => if_pos hk.1
  by_cases hg : 0 < g
  · have kd : divO g k = some (g / k) := if_pos ⟨hk.1, Nat.lt_of_lt_of_le (log2_lt (k := 60) (by omega) (by decide)) (by decide)⟩
    refine wp_eq (a := (g % k, [g / k, a, b])) ?_ (q _ _ (Int.emod_nonneg _ (by omega)) (Int.emod_lt_of_pos _ hk.1) ⟨_, _, _, rfl, Int.ediv_nonneg g0 (by omega), a0, a1, b0, by omega⟩)
    unfold p_law_take
    simp only [i0, Option.bind_some, hg, decide_true, if_true, pairB, km, vlet, kd, s0]
  · have m1 : mulO 65537 (b + 1) = some (65537 * (b + 1)) := mulO_s (by omega) (by omega)
    have q1 : 0 ≤ 65537 * (b + 1) * (b + 1) := Int.mul_nonneg (by omega) (by omega)
    have q2 : 65537 * (b + 1) * (b + 1) ≤ (65537 * 1000001) * 1000001 := Int.mul_le_mul (by omega) (by omega) (by omega) (by omega)
    have m2 : mulO (65537 * (b + 1)) (b + 1) = some (65537 * (b + 1) * (b + 1)) := mulO_s (by omega) (by omega)
    have m3 : mulO (a + 65537 * (b + 1) * (b + 1) + 11) 48271 = some ((a + 65537 * (b + 1) * (b + 1) + 11) * 48271) := mulO_s (by omega) (by omega)
    obtain ⟨z, ez⟩ : ∃ z : Int, z = (a + 65537 * (b + 1) * (b + 1) + 11) * 48271 % 2305843009213693921 := ⟨_, rfl⟩
    have m4 : mulO 99991 (b + 1) = some (99991 * (b + 1)) := mulO_s (by omega) (by omega)
    have m5 : mulO z (z % 1000003 + 99991 * (b + 1)) = some (z * (z % 1000003 + 99991 * (b + 1))) := mulO_s (by omega) (by omega)
    refine wp_eq (a := ((z * (z % 1000003 + 99991 * (b + 1)) % 2305843009213693907 / 97 + z * (z % 1000003 + 99991 * (b + 1)) % 2305843009213693907 / 1000033) % k, [g, a, b + 1])) ?_ (q _ _ (Int.emod_nonneg _ (by omega)) (Int.emod_lt_of_pos _ hk.1) ⟨_, _, _, rfl, g0, a0, a1, by omega, by omega⟩)
    unfold p_law_take
    simp only [i0, Option.bind_some, hg, decide_false, Bool.false_eq_true, if_false, i2, s2, pairB, i1, m1, m2, m3, vlet, ← ez, m4, m5, km]
end Lk26
namespace Lk26
open PySem PySem.Spec PyProof.Rows L2 Vi
structure Py (p : PyData) : Prop where
  dep : p.depth ≤ 50
  sh : p.showable = true
  len : p.shown.length ≤ 100000
structure PN (x : D) (p : PyData) : Prop where
  e : toPy x [] = some p
  lay : p.canLay0 = true
  py : Py p
structure PE (x : D) (p : PyData) : Prop where
  e : toPyE x = some p
  py : Py p
theorem rep_N {x : D} {p : PyData} (h : PN x p) : repE x = some p.shown := by
  have sh : SeqAt.shaped p = true := by
    have := h.py.dep
    simp [SeqAt.shaped, h.lay]; omega
  unfold repE
  rw [h.e]
  dsimp only
  rw [if_pos sh]
  unfold repO
  rw [if_pos ⟨h.py.sh, Nat.le_trans h.py.len (by decide)⟩]
theorem rep_E {x : D} {p : PyData} (h : PE x p) (hn : toPy x [] = none) : repE x = some p.shown := by
  unfold repE
  rw [hn]
  dsimp only
  rw [h.e, Option.bind_some, if_pos (by have := h.py.dep; omega)]
  unfold repO
  rw [if_pos ⟨h.py.sh, Nat.le_trans h.py.len (by decide)⟩]
structure Sm (p : PyData) : Prop where
  dep : p.depth ≤ 40
  sh : p.showable = true
  len : p.shown.length ≤ 10000
theorem Sm.py {p : PyData} (h : Sm p) : Py p := ⟨by have := h.dep; omega, h.sh, by have := h.len; omega⟩
theorem alls : ∀ {ds : List PyData}, (∀ d ∈ ds, Sm d) → PyData.depthAll ds ≤ 40 ∧ PyData.showableAll ds = true ∧ piled (PyData.shownAll ds) ≤ ds.length * 10002
  | [], _ => ⟨by simp [PyData.depthAll], by simp [PyData.showableAll], by simp [PyData.shownAll, piled]⟩
  | d :: ds, h => by
    obtain ⟨h1, h2, h3⟩ := alls fun x hx => h x (List.mem_cons_of_mem _ hx)
    obtain ⟨a1, a2, a3⟩ := h d (List.mem_cons_self ..)
    refine ⟨by simp only [PyData.depthAll]; omega, by simp [PyData.showableAll, a2, h2], ?_⟩
    simp only [PyData.shownAll, piled, List.map_cons, List.sum_cons, List.length_cons] at h3 ⊢
    omega
theorem lays : ∀ {ds : List PyData}, (∀ d ∈ ds, d.canLay0 = true) → PyData.canLayAll0 ds = true
  | [], _ => by simp [PyData.canLayAll0]
  | d :: ds, h => by
    have h1 := lays fun x hx => h x (List.mem_cons_of_mem _ hx)
    simp [PyData.canLayAll0, h1, h d (List.mem_cons_self ..)]
theorem tup_py {ds : List PyData} (h : ∀ d ∈ ds, Sm d) (hl : ds.length ≤ 8) : Py (.tuple ds) := by
  obtain ⟨h1, h2, h3⟩ := alls h
  refine ⟨by simp only [PyData.depth]; omega, by simp [PyData.showable, h2], ?_⟩
  show (tupleText (PyData.shownAll ds)).length ≤ _
  have := tupleText_len (PyData.shownAll ds)
  have : ds.length * 10002 ≤ 8 * 10002 := Nat.mul_le_mul_right _ hl
  omega
theorem textFrom_le : ∀ (ts : List Str) (k : Nat) (acc : Str), (textFrom k acc ts).length ≤ acc.length + piled ts
  | [], k, acc => by simp [textFrom, piled]
  | t :: ts, k, acc => by
    have := textFrom_le ts (k + 1) (acc ++ (if k > 0 then ", " else "" : String) ++ t)
    have e : (acc ++ ((if k > 0 then ", " else "" : String) : Str) ++ t).length ≤ acc.length + 2 + t.length := by
      rw [Str.length_append, Str.length_append]
      split
      · have : ((", " : String) : Str).length = 2 := by decide +kernel
        omega
      · have : (("" : String) : Str).length = 0 := by decide +kernel
        omega
    simp only [textFrom]
    simp only [piled, List.map_cons, List.sum_cons] at this ⊢
    omega
theorem lst_py {ds : List PyData} (h : ∀ d ∈ ds, Sm d) (hl : ds.length ≤ 8) : Py (.list ds) := by
  obtain ⟨h1, h2, h3⟩ := alls h
  refine ⟨by simp only [PyData.depth]; omega, by simp [PyData.showable, h2], ?_⟩
  show (textFrom 0 "[" (PyData.shownAll ds) ++ ("]" : Str)).length ≤ _
  have := textFrom_le (PyData.shownAll ds) 0 "["
  have e1 : (("[" : String) : Str).length = 1 := by decide +kernel
  have e2 : (("]" : String) : Str).length = 1 := by decide +kernel
  have : ds.length * 10002 ≤ 8 * 10002 := Nat.mul_le_mul_right _ hl
  rw [Str.length_append]
  omega
theorem pys_of : ∀ {xs : List D}, (∀ x ∈ xs, ∃ p, toPy x [] = some p ∧ p.canLay0 = true ∧ Sm p) → ∃ ds, toPys xs [] = some ds ∧ ds.length = xs.length ∧ (∀ d ∈ ds, d.canLay0 = true) ∧ ∀ d ∈ ds, Sm d
  | [], _ => ⟨[], rfl, rfl, fun d h => (by cases h), fun d h => (by cases h)⟩
  | x :: xs, h => by
    obtain ⟨ds, e, l, a, b⟩ := pys_of fun y hy => h y (List.mem_cons_of_mem _ hy)
    obtain ⟨p, e1, e2, e3⟩ := h x (List.mem_cons_self ..)
    refine ⟨p :: ds, by simp only [toPys, e, e1], by simp [l], fun d hd => ?_, fun d hd => ?_⟩
    · rcases List.mem_cons.mp hd with q | q
      · rw [q]; exact e2
      · exact a d q
    · rcases List.mem_cons.mp hd with q | q
      · rw [q]; exact e3
      · exact b d q
theorem pyE_of : ∀ {xs : List D}, (∀ x ∈ xs, ∃ p, toPyE x = some p ∧ Sm p) → ∃ ds, toPysE xs = some ds ∧ ds.length = xs.length ∧ ∀ d ∈ ds, Sm d
  | [], _ => ⟨[], rfl, rfl, fun d h => (by cases h)⟩
  | x :: xs, h => by
    obtain ⟨ds, e, l, b⟩ := pyE_of fun y hy => h y (List.mem_cons_of_mem _ hy)
    obtain ⟨p, e1, e3⟩ := h x (List.mem_cons_self ..)
    refine ⟨p :: ds, by simp only [toPysE, e, e1], by simp [l], fun d hd => ?_⟩
    rcases List.mem_cons.mp hd with q | q
    · rw [q]; exact e3
    · exact b d q
def Tn (x : D) : Prop := ∃ p, toPy x [] = some p ∧ p.canLay0 = true ∧ Sm p
def Te (x : D) : Prop := ∃ p, toPyE x = some p ∧ Sm p
theorem rep_tup {xs : List D} (h : ∀ x ∈ xs, Tn x) (hl : xs.length ≤ 8) : ∃ z, repE (.tup xs) = some z := by
  obtain ⟨ds, e, l, a, b⟩ := pys_of h
  refine ⟨_, rep_N (p := .tuple ds) ⟨by simp [toPy, e], by simp [PyData.canLay0, lays a], tup_py b (by omega)⟩⟩
theorem rep_lst {xs : List D} (h : ∀ x ∈ xs, Tn x) (hl : xs.length ≤ 8) : ∃ z, repE (.lst xs) = some z := by
  obtain ⟨ds, e, l, a, b⟩ := pys_of h
  refine ⟨_, rep_N (p := .list ds) ⟨by simp [toPy, e], by simp [PyData.canLay0, lays a], lst_py b (by omega)⟩⟩
theorem no_py : ∀ {xs : List D}, D.emp ∈ xs → toPys xs [] = none
  | x :: xs, h => by
    rcases List.mem_cons.mp h with e | e
    · subst e
      simp [toPys, toPy]
    · have := no_py e
      simp only [toPys, this]
      split
      · rename_i q; cases q
      · rfl
theorem rep_tupE {xs : List D} (h : ∀ x ∈ xs, Te x) (hl : xs.length ≤ 8) (he : D.emp ∈ xs) : ∃ z, repE (.tup xs) = some z := by
  obtain ⟨ds, e, l, b⟩ := pyE_of h
  exact ⟨_, rep_E (p := .tuple ds) ⟨by simp [toPyE, e], tup_py b (by omega)⟩ (by simp [toPy, no_py he])⟩
theorem rep_1 {x : D} (h : Tn x) : ∃ z, repE x = some z := by
  obtain ⟨p, a, b, c⟩ := h
  exact ⟨_, rep_N ⟨a, b, c.py⟩⟩
theorem sm_emp : Sm (.dict []) := ⟨by decide +kernel, by decide +kernel, by decide +kernel⟩
theorem te_emp : Te .emp := ⟨_, rfl, sm_emp⟩
theorem rep_emp : ∃ z, repE .emp = some z := ⟨_, rep_E (p := .dict []) ⟨rfl, sm_emp.py⟩ rfl⟩
theorem sm_okR {x : D} (h : okR 1900 x = true) (hd : dpD x ≤ 40) (hz : lenR 1900 x ≤ 10000) : Sm (pyD x) := ⟨by rw [dp_okR h]; exact hd, show_okR (by decide) h, Nat.le_trans (len_okR h) hz⟩
theorem tn_okR {x : D} (h : okR 1900 x = true) (hd : dpD x ≤ 40) (hz : lenR 1900 x ≤ 10000) : Tn x := ⟨_, toPy_okR h, lay_okR h, sm_okR h hd hz⟩
theorem tn_int {i : Int} (h : i.natAbs < 2 ^ 100) : Tn (.int i) := tn_okR (x := .int i) (decide_eq_true (Nat.lt_of_lt_of_le (log2_lt (k := 100) h (by decide)) (by decide))) (show 0 ≤ 40 by decide) (show 1905 ≤ 10000 by decide)
theorem te_int {i : Int} (h : i.natAbs < 2 ^ 100) : Te (.int i) := ⟨.int i, rfl, sm_okR (x := .int i) (decide_eq_true (Nat.lt_of_lt_of_le (log2_lt (k := 100) h (by decide)) (by decide))) (show 0 ≤ 40 by decide) (show 1905 ≤ 10000 by decide)⟩
theorem tn_one : Tn (.str ("1" : Str)) := ⟨.str ("1" : Str), rfl, by decide +kernel, ⟨by decide +kernel, by decide +kernel, by decide +kernel⟩⟩
theorem tn_nil : Tn (.str ("" : Str)) := ⟨.str ("" : Str), rfl, by decide +kernel, ⟨by decide +kernel, by decide +kernel, by decide +kernel⟩⟩
theorem tn_l1 : Tn (.lst [.int 1]) := ⟨.list [.int 1], rfl, by decide +kernel, ⟨by decide +kernel, by decide +kernel, by decide +kernel⟩⟩
theorem tn_l0 : Tn (.lst []) := ⟨.list [], rfl, by decide +kernel, ⟨by decide +kernel, by decide +kernel, by decide +kernel⟩⟩
end Lk26
namespace Lk26
open PySem PySem.Spec PyProof.Rows L2 Vi
theorem bO' {α β : Type} (a : α) (f : α → Option β) : (some a).bind f = f a := id rfl
theorem mO' {α β : Type} (a : α) (f : α → β) : (some a).map f = some (f a) := id rfl
theorem pI' {α β : Type} (a : α) (f : α → Option β) : pairB (some a) f = (f a).bind fun y => some (a, y) := id rfl
def Kn : D → Prop
  | .ref _ => False
  | .exc _ => False
  | .obj _ _ _ => False
  | .frz _ => False
  | _ => True
def wh (x : D) (lo hi : Int) : Bool := match x with
  | .int i => decide (lo ≤ i) && decide (i ≤ hi)
  | _ => false
def isC : D → Bool
  | .tup [.int m, a, q] => wh (.int m) 1 600 && (wh a 0 (m - 1) && wh q 2 1000000)
  | _ => false
theorem whole_ok {x : D} (h : Kn x) (lo hi : Int) : pis_whole x lo hi = some (wh x lo hi) := by
  unfold pis_whole
  cases x with
  | int i => rfl
  | bl b => rfl
  | non => rfl
  | str s => rfl
  | tup xs => rfl
  | lst xs => rfl
  | emp => rfl
  | _ => exact h.elim
theorem lwhole_ok {x : D} (h : Kn x) (lo hi : Int) : p_law_whole x lo hi = some (wh x lo hi) := by
  unfold p_law_whole
  cases x with
  | int i => rfl
  | bl b => rfl
  | non => rfl
  | str s => rfl
  | tup xs => rfl
  | lst xs => rfl
  | emp => rfl
  | _ => exact h.elim
def Kx (x : D) : Prop := Kn x ∧ ∀ xs, x = .tup xs → ∀ y ∈ xs, Kn y
theorem isC3 (m a q : D) : isC (.tup [m, a, q]) = (wh m 1 600 && ((match m with | .int i => wh a 0 (i - 1) | _ => false) && wh q 2 1000000)) := by
  cases m <;> rfl
theorem claim_tup {xs : List D} (h : ∀ y ∈ xs, Kn y) : pis_claim (.tup xs) = some (isC (.tup xs)) ∧ p_law_due (.tup xs) = some (isC (.tup xs)) := by
  have t1 : isiO "tuple" (.tup xs) = some true := rfl
  have l1 : lenA (.tup xs) = some (xs.length : Int) := rfl
  by_cases hl : xs.length = 3
  · obtain ⟨m, a, q, rfl⟩ : ∃ m a q, xs = [m, a, q] := by
      match xs, hl with
      | [m, a, q], _ => exact ⟨m, a, q, rfl⟩
    have hm := h m (by simp)
    have ha := h a (by simp)
    have hq := h q (by simp)
    rw [isC3]
    constructor
    · unfold pis_claim
      rw [t1, l1]
      show ((pis_whole m (1 : Int) (600 : Int)).bind fun r10 => if r10 = true then ((pairB (dI m) fun r11 => (pis_whole a (0 : Int) (r11 - (1 : Int)))).bind fun c12 => if c12.2 = true then (pis_whole q (2 : Int) (1000000 : Int)) else some false) else some false).bind (fun k16 => some k16) = _
      rw [whole_ok hm, bO', whole_ok hq]
      cases m with
      | int i =>
        rw [show (pairB (dI (D.int i)) fun r11 => pis_whole a 0 (r11 - 1)) = (pis_whole a 0 (i - 1)).bind fun y => some (i, y) from rfl, whole_ok ha, bO']
        dsimp only
        cases wh (D.int i) 1 600 <;> cases wh a 0 (i - 1) <;> rfl
      | _ => rfl
    · unfold p_law_due
      rw [t1, l1]
      show ((pairB (some m) fun r6 => (p_law_whole r6 (1 : Int) (600 : Int))).bind fun c7 => if (!c7.2) = true then some true else ((pairB (some q) fun r8 => (p_law_whole r8 (2 : Int) ((10 : Int) ^ 6))).map fun c9 => (!c9.2))).bind (fun k10 => if k10 = true then some false else (pairB (pairB (some a) fun r12 => (pairB (some m) fun r13 => dI r13)) fun c15 => (p_law_whole c15.1 (0 : Int) (c15.2.2 - (1 : Int)))).bind fun c16 => some c16.2) = _
      rw [show ((10 : Int) ^ 6) = 1000000 by decide]
      simp only [pI', lwhole_ok hm, lwhole_ok hq, bO', mO']
      cases m with
      | int i =>
        have e : (pairB (some (a, D.int i, i)) fun c15 => p_law_whole c15.1 0 (c15.2.2 - 1)) = some ((a, D.int i, i), wh a 0 (i - 1)) := by
          rw [pI']; dsimp only; rw [lwhole_ok ha]; rfl
        simp only [dI, bO', e]
        cases wh (D.int i) 1 600 <;> cases wh a 0 (i - 1) <;> cases wh q 2 1000000 <;> rfl
      | _ => rfl
  · have e : isC (.tup xs) = false := by
      unfold isC
      split
      · rename_i h'
        cases h'
        exact absurd rfl hl
      · rfl
    have hd : decide ((xs.length : Int) = 3) = false := decide_eq_false (by omega)
    rw [e]
    constructor
    · unfold pis_claim
      rw [t1, l1]
      show (some (!decide ((xs.length : Int) = 3))).bind _ = _
      rw [hd]; rfl
    · unfold p_law_due
      rw [t1, l1]
      show (some (!decide ((xs.length : Int) = 3))).bind _ = _
      rw [hd]; rfl
theorem claim_ok {x : D} (h : Kx x) : pis_claim x = some (isC x) ∧ p_law_due x = some (isC x) := by
  cases x with
  | tup xs => exact claim_tup (h.2 xs rfl)
  | int i => exact ⟨rfl, rfl⟩
  | bl b => exact ⟨rfl, rfl⟩
  | non => exact ⟨rfl, rfl⟩
  | str s => exact ⟨rfl, rfl⟩
  | lst xs => exact ⟨rfl, rfl⟩
  | emp => exact ⟨rfl, rfl⟩
  | _ => exact h.1.elim
theorem told_ok {x : D} (h : Kx x) (hr : ∃ z, repE x = some z) : p_law_told x = some true := by
  obtain ⟨z, hz⟩ := hr
  obtain ⟨c1, c2⟩ := claim_ok h
  unfold p_law_told
  rw [hz, bO', c1, bO', if_pos rfl, c2, bO', decide_eq_true rfl, if_pos rfl, mO', decide_eq_true rfl, bO']
end Lk26
namespace Lk26
open PySem PySem.Spec PyProof.Rows L2 Vi
def nest : Nat → D
  | 0 => .tup [.int 1, .int 0, .int 2]
  | n + 1 => .tup [nest n]
theorem deep_ok : p_law_deep = some (nest 26) := rfl
theorem kn_nest (n : Nat) : Kn (nest n) := by cases n <;> trivial
theorem kx_nest (n : Nat) : Kx (nest n) := by
  refine ⟨kn_nest n, fun xs e y hy => ?_⟩
  cases n with
  | zero =>
    cases e
    simp only [List.mem_cons, List.not_mem_nil, or_false] at hy
    rcases hy with rfl | rfl | rfl <;> trivial
  | succ n =>
    cases e
    rw [List.mem_singleton.mp hy]
    exact kn_nest n
theorem tn_nest : Tn (nest 26) := tn_okR (by decide +kernel) (by decide +kernel) (by decide +kernel)
def Od (x : D) : Prop := Kx x ∧ (Tn x ∨ x = .emp)
theorem kx_int (i : Int) : Kx (.int i) := ⟨trivial, fun xs e => by cases e⟩
theorem od_int {i : Int} (h : i.natAbs < 2 ^ 100) : Od (.int i) := ⟨kx_int i, .inl (tn_int h)⟩
structure Cl (c : Int × Int × Int) : Prop where
  m : 1 ≤ c.1 ∧ c.1 ≤ 600
  a : 0 ≤ c.2.1 ∧ c.2.1 ≤ c.1 - 1
  q : 2 ≤ c.2.2 ∧ c.2.2 ≤ 1000000
theorem odd_wp {s : List Int} {n : Int} {c : Int × Int × Int} {Q : D × List Int → Prop} (h : Hd n s) (hn : n < 900000) (hc : Cl c) (q : ∀ x s', Od x → Hd (n + 1) s' → Q (x, s')) : wpO (p_law_odd s c) Q := by
  have hm := hc.m
  unfold p_law_odd
  rw [wp_bind]
  refine take_wp h (by omega) (by omega) fun w s1 w0 w1 h1 => ?_
  dsimp only
  rw [wp_vlet, wp_vlet, deep_ok, wp_bind, pI']
  have e : catO [(eN ()), (D.bl true), (D.bl false), (D.int (-(1 : Int))), (D.int (0 : Int)), (D.int (1 : Int)), (D.int (2 : Int)), (D.int c.1), (D.int (c.1 + (1 : Int))), (D.int (601 : Int)), (D.int (((10 : Int) ^ 6) + (1 : Int))), (D.int ((10 : Int) ^ 6))] [(D.str ("1" : Str)), (D.str ("" : Str)), ((eT D.int) [(1 : Int)]), ((eL D.int) [(1 : Int)]), (D.tup []), ((eL D.int) []), D.emp, nest 26] = some [(eN ()), (D.bl true), (D.bl false), (D.int (-(1 : Int))), (D.int (0 : Int)), (D.int (1 : Int)), (D.int (2 : Int)), (D.int c.1), (D.int (c.1 + (1 : Int))), (D.int (601 : Int)), (D.int (((10 : Int) ^ 6) + (1 : Int))), (D.int ((10 : Int) ^ 6)), (D.str ("1" : Str)), (D.str ("" : Str)), ((eT D.int) [(1 : Int)]), ((eL D.int) [(1 : Int)]), (D.tup []), ((eL D.int) []), D.emp, nest 26] := if_pos (by show 20 ≤ 16777216; decide)
  rw [e, bO', wp_pair, wp_some]
  dsimp only
  refine wp_at w0 (by simpa using w1) fun x hx => ?_
  refine wp_some.mpr (q _ _ ?_ h1)
  have hx := List.mem_of_getElem? hx
  simp only [List.mem_cons, List.not_mem_nil, or_false] at hx
  have tup0 : ∀ xs e, (D.tup xs : D) = e → True := fun _ _ _ => trivial
  rcases hx with rfl | rfl | rfl | rfl | rfl | rfl | rfl | rfl | rfl | rfl | rfl | rfl | rfl | rfl | rfl | rfl | rfl | rfl | rfl | rfl
  · exact ⟨⟨trivial, fun xs e => by cases e⟩, .inl (tn_okR (x := .non) rfl (by decide) (by decide))⟩
  · exact ⟨⟨trivial, fun xs e => by cases e⟩, .inl (tn_okR (x := .bl true) rfl (by decide) (by decide))⟩
  · exact ⟨⟨trivial, fun xs e => by cases e⟩, .inl (tn_okR (x := .bl false) rfl (by decide) (by decide))⟩
  · exact od_int (by decide)
  · exact od_int (by decide)
  · exact od_int (by decide)
  · exact od_int (by decide)
  · exact od_int (by omega)
  · exact od_int (by omega)
  · exact od_int (by decide)
  · exact od_int (by decide)
  · exact od_int (by decide)
  · exact ⟨⟨trivial, fun xs e => by cases e⟩, .inl tn_one⟩
  · exact ⟨⟨trivial, fun xs e => by cases e⟩, .inl tn_nil⟩
  · refine ⟨⟨trivial, fun xs e y hy => ?_⟩, .inl (tn_okR (x := .tup [.int 1]) (by decide +kernel) (by decide) (by decide))⟩
    cases e
    rw [List.mem_singleton.mp hy]; trivial
  · exact ⟨⟨trivial, fun xs e => by cases e⟩, .inl tn_l1⟩
  · refine ⟨⟨trivial, fun xs e y hy => ?_⟩, .inl (tn_okR (x := .tup []) rfl (by decide) (by decide))⟩
    cases e
    cases hy
  · exact ⟨⟨trivial, fun xs e => by cases e⟩, .inl tn_l0⟩
  · exact ⟨⟨trivial, fun xs e => by cases e⟩, .inr rfl⟩
  · exact ⟨kx_nest 26, .inl tn_nest⟩
theorem Od.rep {x : D} (h : Od x) : ∃ z, repE x = some z := by
  rcases h.2 with t | rfl
  · exact rep_1 t
  · exact rep_emp
theorem mix {xs ys : List Int} {o : D} (ho : Od o) (hx : ∀ x ∈ xs, x.natAbs < 2 ^ 100) (hy : ∀ x ∈ ys, x.natAbs < 2 ^ 100) (hl : xs.length + ys.length ≤ 7) : Kx (.tup (xs.map D.int ++ [o] ++ ys.map D.int)) ∧ ∃ z, repE (.tup (xs.map D.int ++ [o] ++ ys.map D.int)) = some z := by
  have ms : ∀ y ∈ xs.map D.int ++ [o] ++ ys.map D.int, y = o ∨ ∃ i : Int, y = .int i ∧ i.natAbs < 2 ^ 100 := fun y h => by
    rcases List.mem_append.mp h with h | h
    · rcases List.mem_append.mp h with h | h
      · obtain ⟨i, hi, rfl⟩ := List.mem_map.mp h
        exact .inr ⟨i, rfl, hx i hi⟩
      · exact .inl (List.mem_singleton.mp h)
    · obtain ⟨i, hi, rfl⟩ := List.mem_map.mp h
      exact .inr ⟨i, rfl, hy i hi⟩
  have hl2 : (xs.map D.int ++ [o] ++ ys.map D.int).length ≤ 8 := by simp; omega
  refine ⟨⟨trivial, fun zs e y h => ?_⟩, ?_⟩
  · cases e
    rcases ms y h with rfl | ⟨i, rfl, _⟩
    · exact ho.1.1
    · trivial
  · rcases ho.2 with t | rfl
    · refine rep_tup (fun y h => ?_) hl2
      rcases ms y h with rfl | ⟨i, rfl, hi⟩
      · exact t
      · exact tn_int hi
    · refine rep_tupE (fun y h => ?_) hl2 (by simp)
      rcases ms y h with rfl | ⟨i, rfl, hi⟩
      · exact te_emp
      · exact te_int hi
theorem ints_k {xs : List Int} (hx : ∀ x ∈ xs, x.natAbs < 2 ^ 100) (hl : xs.length ≤ 8) : (Kx (.tup (xs.map D.int)) ∧ ∃ z, repE (.tup (xs.map D.int)) = some z) ∧ Kx (.lst (xs.map D.int)) ∧ ∃ z, repE (.lst (xs.map D.int)) = some z := by
  have t : ∀ y ∈ xs.map D.int, Tn y := fun y h => by
    obtain ⟨i, hi, rfl⟩ := List.mem_map.mp h
    exact tn_int (hx i hi)
  refine ⟨⟨⟨trivial, fun zs e y h => ?_⟩, rep_tup t (by simpa using hl)⟩, ⟨trivial, fun zs e => by cases e⟩, rep_lst t (by simpa using hl)⟩
  cases e
  obtain ⟨i, _, rfl⟩ := List.mem_map.mp h
  trivial
end Lk26
namespace Lk26
open PySem PySem.Spec PyProof.Rows L2 Vi
theorem p6 : ((10 : Int) ^ 6) = 1000000 := by decide
theorem claim_wp {s : List Int} {n : Int} {Q : (Int × Int × Int) × List Int → Prop} (h : Hd n s) (hn : n < 900000) (q : ∀ c s', Cl c → Hd (n + 10) s' → Q (c, s')) : wpO (p_law_claim s) Q := by
  unfold p_law_claim
  rw [p6]
  simp only [wp_bind, wp_vlet, wp_pair]
  refine take_wp h (by omega) (by omega) fun way s1 a0 a1 h1 => ?_
  refine take_wp h1 (by omega) (by omega) fun most s2 b0 b1 h2 => ?_
  refine take_wp h2 (by omega) (by omega) fun far s3 c0 c1 h3 => ?_
  dsimp only
  have e1 : wpO (if (decide (way < (3 : Int))) = true then ((atI [(1 : Int), (2 : Int), (600 : Int)] way).map fun r10 => (r10, s3)) else ((pairB (atI [(600 : Int), (12 : Int)] (way - (3 : Int))) fun r11 => (p_law_take s3 r11)).map fun c12 => (((1 : Int) + c12.2.1), c12.2.2))) fun r => (1 ≤ r.1 ∧ r.1 ≤ 600) ∧ Hd (n + 4) r.2 := by
    rw [wp_ite]
    refine ⟨fun hw => ?_, fun hw => ?_⟩
    · have hw := of_decide_eq_true hw
      rw [wp_map]
      refine wp_at a0 (by simpa using hw) fun x hx => ?_
      have hx := List.mem_of_getElem? hx
      simp only [List.mem_cons, List.not_mem_nil, or_false] at hx
      exact ⟨by omega, h3.up (by omega)⟩
    · have hw : ¬ way < 3 := fun z => hw (decide_eq_true z)
      rw [wp_map, wp_pair]
      refine wp_at (by omega) (by simp; omega) fun x hx => ?_
      have hx := List.mem_of_getElem? hx
      simp only [List.mem_cons, List.not_mem_nil, or_false] at hx
      refine take_wp h3 (by omega) (by omega) fun y s4 y0 y1 h4 => ?_
      exact ⟨by dsimp only; omega, h4.up (by omega)⟩
  refine e1.imp fun r ⟨hm, hr⟩ => ?_
  obtain ⟨m, s4⟩ := r
  dsimp only at hm hr ⊢
  have e2 : wpO (if (decide (most < (2 : Int))) = true then ((atI [(0 : Int), (m - (1 : Int))] most).map fun r17 => (r17, s4)) else ((p_law_take s4 m).map fun r18 => (r18.1, r18.2))) fun r => (0 ≤ r.1 ∧ r.1 ≤ m - 1) ∧ Hd (n + 5) r.2 := by
    rw [wp_ite]
    refine ⟨fun hw => ?_, fun hw => ?_⟩
    · have hw := of_decide_eq_true hw
      rw [wp_map]
      refine wp_at b0 (by simpa using hw) fun x hx => ?_
      have hx := List.mem_of_getElem? hx
      simp only [List.mem_cons, List.not_mem_nil, or_false] at hx
      exact ⟨by omega, hr.up (by omega)⟩
    · rw [wp_map]
      refine take_wp hr (by omega) (by omega) fun y s5 y0 y1 h5 => ?_
      exact ⟨by dsimp only; omega, h5.up (by omega)⟩
  refine e2.imp fun r ⟨ha, hr2⟩ => ?_
  obtain ⟨a, s5⟩ := r
  dsimp only at ha hr2 ⊢
  have e3 : wpO (if (decide (far < (2 : Int))) = true then ((atI [(2 : Int), (1000000 : Int)] far).map fun r23 => (r23, s5)) else ((pairB (atI [(999999 : Int), (30 : Int)] (far - (2 : Int))) fun r24 => (p_law_take s5 r24)).map fun c25 => (((2 : Int) + c25.2.1), c25.2.2))) fun r => (2 ≤ r.1 ∧ r.1 ≤ 1000000) ∧ Hd (n + 6) r.2 := by
    rw [wp_ite]
    refine ⟨fun hw => ?_, fun hw => ?_⟩
    · have hw := of_decide_eq_true hw
      rw [wp_map]
      refine wp_at c0 (by simpa using hw) fun x hx => ?_
      have hx := List.mem_of_getElem? hx
      simp only [List.mem_cons, List.not_mem_nil, or_false] at hx
      exact ⟨by omega, hr2.up (by omega)⟩
    · have hw : ¬ far < 2 := fun z => hw (decide_eq_true z)
      rw [wp_map, wp_pair]
      refine wp_at (by omega) (by simp; omega) fun x hx => ?_
      have hx := List.mem_of_getElem? hx
      simp only [List.mem_cons, List.not_mem_nil, or_false] at hx
      refine take_wp hr2 (by omega) (by omega) fun y s6 y0 y1 h6 => ?_
      exact ⟨by dsimp only; omega, h6.up (by omega)⟩
  refine e3.imp fun r ⟨hq, hr3⟩ => ?_
  exact wp_some.mpr (q _ _ ⟨hm, ha, hq⟩ (hr3.up (by omega)))
theorem Cl.sm {c : Int × Int × Int} (h : Cl c) : ∀ x ∈ [c.1, c.2.1, c.2.2], x.natAbs < 2 ^ 100 := fun x hx => by
  have := h.m
  have := h.a
  have := h.q
  simp only [List.mem_cons, List.not_mem_nil, or_false] at hx
  have e : (2 : Nat) ^ 100 > 2000000 := by decide
  omega
theorem catA_ok {xs ys : List D} (h : xs.length + ys.length ≤ 1000) : catA (.tup xs) (.tup ys) = some (.tup (xs ++ ys)) := if_pos (by show _ ≤ 16777216; omega)
theorem cut3 {xs : List Int} (a b : Option Int) : (cutI xs a b).Sublist xs ∧ (cutI xs a b).length ≤ xs.length := by
  have : (cutI xs a b).Sublist xs := by
    unfold cutI
    exact (List.take_sublist _ _).trans (List.drop_sublist _ _)
  exact ⟨this, this.length_le⟩
theorem otherwise_wp {s : List Int} {n : Int} {c : Int × Int × Int} {Q : D × List Int → Prop} (h : Hd n s) (hn : n < 800000) (hc : Cl c) (q : ∀ x s', Kx x → (∃ z, repE x = some z) → Hd (n + 5) s' → Q (x, s')) : wpO (p_law_otherwise s c) Q := by
  unfold p_law_otherwise
  simp only [wp_bind, wp_vlet, wp_pair]
  refine take_wp h (by omega) (by omega) fun way s1 a0 a1 h1 => ?_
  refine take_wp h1 (by omega) (by omega) fun spot s2 b0 b1 h2 => ?_
  refine take_wp h2 (by omega) (by omega) fun to s3 c0 c1 h3 => ?_
  dsimp only
  refine odd_wp h3 (by omega) hc fun o s4 ho h4 => ?_
  dsimp only
  have sm := hc.sm
  have sub : ∀ a b, ∀ x ∈ cutI [c.1, c.2.1, c.2.2] a b, x.natAbs < 2 ^ 100 := fun a b x hx => sm x ((cut3 a b).1.subset hx)
  have len : ∀ a b, (cutI [c.1, c.2.1, c.2.2] a b).length ≤ 3 := fun a b => (cut3 a b).2
  have big4 : n + 1 + 1 + 1 + 1 ≤ n + 5 := by omega
  rw [wp_ite]
  refine ⟨fun _ => ?_, fun hw4 => ?_⟩
  · have l1 := len none (some spot)
    have l2 := len (some (spot + 1)) none
    obtain ⟨m1, m2⟩ := mix ho (sub none (some spot)) (sub (some (spot + 1)) none) (by omega)
    rw [show (eT D.int (cutI [c.1, c.2.1, c.2.2] none (some spot))) = D.tup ((cutI [c.1, c.2.1, c.2.2] none (some spot)).map D.int) from rfl, catA_ok (by simp; omega), pI', show (eT D.int (cutI [c.1, c.2.1, c.2.2] (some (spot + 1)) none)) = D.tup ((cutI [c.1, c.2.1, c.2.2] (some (spot + 1)) none).map D.int) from rfl, catA_ok (by simp; omega), bO', bO']
    exact wp_some.mpr (q _ _ m1 m2 (h4.up big4))
  rw [wp_ite]
  have s3 : spot = 0 ∨ spot = 1 ∨ spot = 2 := by omega
  refine ⟨fun _ => ?_, fun hw => ?_⟩
  · have t3 : to = 0 ∨ to = 1 ∨ to = 2 := by omega
    have k : ∀ x y z, x ∈ [c.1, c.2.1, c.2.2] → y ∈ [c.1, c.2.1, c.2.2] → z ∈ [c.1, c.2.1, c.2.2] → wpO (some (eT D.int [x, y, z], s4)) Q := fun x y z hx hy hz => by
      have := (ints_k (xs := [x, y, z]) (fun w hw => by
        simp only [List.mem_cons, List.not_mem_nil, or_false] at hw
        rcases hw with rfl | rfl | rfl
        · exact sm _ hx
        · exact sm _ hy
        · exact sm _ hz) (by simp)).1
      exact wp_some.mpr (q _ _ this.1 this.2 (h4.up big4))
    rcases s3 with rfl | rfl | rfl <;> rcases t3 with rfl | rfl | rfl <;> exact k _ _ _ (by simp) (by simp) (by simp)
  · have way3 : way = 5 ∨ way = 6 ∨ way = 7 := by
      have x1 : ¬ way < 4 := fun z => hw4 (decide_eq_true z)
      have x2 : ¬ way = 4 := fun z => hw (decide_eq_true z)
      omega
    have l1 := len none (some spot)
    have l2 := len (some (spot + 1)) none
    have l3 := len (some spot) none
    obtain ⟨m1, m2⟩ := mix ho (sub none (some spot)) (sub (some spot) none) (by omega)
    obtain ⟨⟨i1, i2⟩, _⟩ := ints_k (xs := cutI [c.1, c.2.1, c.2.2] none (some spot) ++ cutI [c.1, c.2.1, c.2.2] (some (spot + 1)) none) (fun x hx => by
      rcases List.mem_append.mp hx with e | e
      · exact sub _ _ x e
      · exact sub _ _ x e) (by rw [List.length_append]; omega)
    obtain ⟨_, j1, j2⟩ := ints_k (xs := [c.1, c.2.1, c.2.2]) sm (by simp)
    have c1' : catO (cutI [c.1, c.2.1, c.2.2] none (some spot)) (cutI [c.1, c.2.1, c.2.2] (some (spot + 1)) none) = some (cutI [c.1, c.2.1, c.2.2] none (some spot) ++ cutI [c.1, c.2.1, c.2.2] (some (spot + 1)) none) := if_pos (by show _ ≤ 16777216; omega)
    rw [c1', pI', show (eT D.int (cutI [c.1, c.2.1, c.2.2] none (some spot))) = D.tup ((cutI [c.1, c.2.1, c.2.2] none (some spot)).map D.int) from rfl, catA_ok (by simp; omega), pI', show (eT D.int (cutI [c.1, c.2.1, c.2.2] (some spot) none)) = D.tup ((cutI [c.1, c.2.1, c.2.2] (some spot) none).map D.int) from rfl, catA_ok (by simp; omega), bO', bO', bO']
    dsimp only
    rw [wp_vlet, wp_bind, wp_pair, wp_pair]
    have sp := Int.emod_nonneg spot (show (2 : Int) ≠ 0 by decide)
    have sp2 := Int.emod_lt_of_pos spot (show (0 : Int) < 2 by decide)
    refine wp_at sp (by simpa using sp2) fun x hx => ?_
    have hx := List.mem_of_getElem? hx
    simp only [List.mem_cons, List.not_mem_nil, or_false] at hx
    have hx : Kx x ∧ ∃ z, repE x = some z := by
      rcases hx with rfl | rfl
      · exact ⟨j1, j2⟩
      · exact ⟨ho.1, ho.rep⟩
    rw [wp_catO]
    refine ⟨by simp, ?_⟩
    dsimp only
    refine wp_at (by omega) (by simp; omega) fun y hy => ?_
    have hy := List.mem_of_getElem? hy
    simp only [List.mem_append, List.mem_cons, List.not_mem_nil, or_false] at hy
    rcases hy with (rfl | rfl) | rfl
    · exact wp_some.mpr (q _ _ i1 i2 (h4.up big4))
    · exact wp_some.mpr (q _ _ m1 m2 (h4.up big4))
    · exact wp_some.mpr (q _ _ hx.1 hx.2 (h4.up big4))
theorem cl_is {c : Int × Int × Int} (h : Cl c) : pis_claim ((e3 D.int D.int D.int) c) = some true := by
  have e := (claim_tup (xs := [.int c.1, .int c.2.1, .int c.2.2]) (fun y hy => by
    simp only [List.mem_cons, List.not_mem_nil, or_false] at hy
    rcases hy with rfl | rfl | rfl <;> trivial)).1
  have hm := h.m
  have ha := h.a
  have hq := h.q
  have e2 : isC (.tup [.int c.1, .int c.2.1, .int c.2.2]) = true := by
    show ((decide (1 ≤ c.1) && decide (c.1 ≤ 600)) && ((decide (0 ≤ c.2.1) && decide (c.2.1 ≤ c.1 - 1)) && (decide (2 ≤ c.2.2) && decide (c.2.2 ≤ 1000000)))) = true
    simp only [Bool.and_eq_true, decide_eq_true_eq]
    omega
  rw [e2] at e
  exact e
theorem law_ok (ns : List Int) : plaw ns = some true := by
  refine wp_get ?_
  unfold plaw
  rw [wp_bind]
  have hm : 0 ≤ (if (if (4 : Int) < (ns.length : Int) then (4 : Int) else (ns.length : Int)) > (1 : Int) then (if (4 : Int) < (ns.length : Int) then (4 : Int) else (ns.length : Int)) else (1 : Int)) ∧ (if (if (4 : Int) < (ns.length : Int) then (4 : Int) else (ns.length : Int)) > (1 : Int) then (if (4 : Int) < (ns.length : Int) then (4 : Int) else (ns.length : Int)) else (1 : Int)) ≤ 4 := by
    split
    · split <;> omega
    · omega
  refine wp_rgS (by omega) (by omega) ?_
  refine wp_forR0 (fun _ _ => True) trivial (fun i x s hx _ => ?_) (fun s _ => ?_)
  · obtain ⟨hi, rfl⟩ := irg_get hx
    have hi : i < 5 := by omega
    rw [wp_bind]
    refine (hand_ok ns (0 + (i : Int)) (by omega)).imp fun st h0 => ?_
    simp only [wp_vlet, wp_bind]
    refine wp_rgS (by omega) (by omega) ?_
    refine wp_forR0 (fun (j : Nat) s => Hd (40 * (j : Int)) s) (h0.up (by omega)) (fun j y s hy hs => ?_) (fun s _ => wp_some.mpr ⟨_, rfl, trivial⟩)
    obtain ⟨hj, rfl⟩ := irg_get hy
    have hj : j < 20 := by omega
    simp only [wp_vlet, wp_bind]
    refine claim_wp hs (by omega) fun c s1 hc h1 => ?_
    dsimp only
    refine wp_eq (cl_is hc) ?_
    rw [decide_eq_true rfl, if_neg (show ¬ (!true) = true by decide)]
    rw [wp_map, wp_pair]
    refine otherwise_wp h1 (by omega) hc fun x s2 kx rx h2 => ?_
    dsimp only
    refine wp_eq (told_ok kx rx) ?_
    rw [if_neg (show ¬ (!true) = true by decide), wp_bind, wp_pair]
    refine odd_wp h2 (by omega) hc fun o s3 ho h3 => ?_
    dsimp only
    refine wp_eq (told_ok ho.1 ho.rep) ?_
    rw [if_neg (show ¬ (!true) = true by decide)]
    exact wp_some.mpr ⟨_, rfl, h3.up (by omega)⟩
  · refine wp_forR0 (fun _ _ => True) trivial (fun i x s hx _ => ?_) (fun s _ => ?_)
    · have hx := List.mem_of_getElem? hx
      simp only [List.mem_cons, List.not_mem_nil, or_false] at hx
      have e : pis_claim ((e3 D.int D.int D.int) x) = some false := by
        rcases hx with rfl | rfl | rfl | rfl | rfl | rfl <;> rfl
      rw [wp_bind]
      refine wp_eq e ?_
      rw [decide_eq_true rfl, if_neg (show ¬ (!true) = true by decide)]
      exact wp_some.mpr ⟨_, rfl, trivial⟩
    · have e1 : pis_claim (D.tup [(D.int (1 : Int)), (D.int (0 : Int)), (D.int (2 : Int))]) = some true := rfl
      have e2 : pis_claim (D.tup [(D.int (600 : Int)), (D.int (599 : Int)), (D.int ((10 : Int) ^ 6))]) = some true := rfl
      rw [e1, bO', decide_eq_true rfl, if_pos rfl, e2, mO', decide_eq_true rfl, bO']
      exact wp_some.mpr rfl
theorem law_holds (ns : List Int) (hl : ns.length ≤ 63) : ∃ m, flaw [.frz (ns.map D.int)] [] = .ok (.bl true) m := law_in (tlaw ns) (law_ok ns)
end Lk26
open PySem PySem.W PySem.Calls PyProof.Rows
set_option maxHeartbeats 0 in
theorem PySem.Challenge.cw_partrests_k26_what_are_claims_holds : PySem.Challenge.rw_partrests_k26_what_are_claims.Holds := by
  w_on; o_law
  refine HandSHeadRun.head_any (r := OpenLaw.row PySem.Challenge.rw_partrests_k26_what_are_claims) (q := Lk26.hdQ) (H := Lk26.hdH) (ob := Lk26.hdO) (M := 100000) (loose := Lk26.hdNs) (d := HandSHeadRun.topDef (OpenLaw.row PySem.Challenge.rw_partrests_k26_what_are_claims).prog 15) (kwd := []) Lk26.hdO_eq
    (by kernel_rfl) (fun s => by kernel_rfl) Lk26.hdRun (by kernel_rfl) (by kernel_rfl) (by kernel_rfl) (by rfl) (by first | assumption | decide +kernel) (by decide +kernel) ⟨rfl, rfl, rfl, rfl, rfl, by decide +kernel⟩ ?hw ?hc
  case hw => w_witness2
  case hc =>
    refine Vi.walk_GH (l := PySem.Challenge.rw_partrests_k26_what_are_claims) (n := 63) (k := 4) (x := "_law_script") (F := Lk26.flaw) rfl (by decide) (by kernel_rfl) ⟨rfl, by decide, by decide⟩ ?F (fun ns hl => Lk26.law_holds ns hl)
    intro w mg fa h Y G hmg0
    obtain ⟨K, KX, c⟩ := Y
    have hmg : mg ("law" : PySem.Str) = some (.ref fa) := by
      have e : (HandSHeadRun.topDef (OpenLaw.row PySem.Challenge.rw_partrests_k26_what_are_claims).prog 15).name = ("law" : PySem.Str) := by kernel_rfl
      rw [← e]
      exact hmg0
    exact ⟨K, KX, Lk26.all_hd KX G hmg c⟩
