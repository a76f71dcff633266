import PyProof.Rows.All
import Wide.All
import OpenK.AllK
import Wide.FinOn
import HandS.ForMost
import HandS.Exc
import HandS.WordsExc
import HandS.TupAny
import HandS.Style
import HandS.Wide
import HandS.WideMore
import HandS.Words
import HandS.Defaults
import HandS.Head0
import HandS.Head1
import HandS.Head2
import HandS.HeadHook1
import HandS.HeadHook2
import HandS.HeadHook3
import HandS.TupMul
import HandS.IsInst
import KE.GoesEnum
import KE.GoesZip
import KE.GoesMore
import KE.SortData
import HandS.SortKw
import HandS.SetFor
import HandS.Deep
import HandS.Conv
import HandS.Text
import HandS.Small
import KE.DataMinMax
import OpenK.KEqL
import HandS.DictTup
import HandS.ListItems
import KE.KDictExact
import PyProof.TupleOfSeq
import KE.KIntText
import HandS.SortInts
import HandS.Flow
import HandS.TupSets
import HandS.Strs
import PySem.Challenge.RW_partrests_k06_whole_lists_turned
set_option Elab.async false
set_option linter.all false
set_option maxRecDepth 100000
namespace Vi
open PySem PySem.Spec PyProof.Rows L2
inductive D where
  | non | bl (b : Bool) | int (i : Int) | str (x : Str) | tup (xs : List D) | lst (xs : List D) | frz (xs : List D) | ref (n : Nat) | exc (c : Str) | emp | obj (c : Str) (ns : List Str) (xs : List D)
inductive Cell where
  | lst (xs : List D) | dic (kvs : List (Key × D)) | dct (kvs : List (List Key × D)) | ins (C : Str) (fs : List (Str × D)) | gone
abbrev M := List Cell
inductive R (α : Type) where
  | ok (a : α) (m : M) | exn (c : Str) (m : M) | bad
def R.bind {α β : Type} (r : R α) (f : α → M → R β) : R β := match r with
  | .ok a m => f a m
  | .exn c m => .exn c m
  | .bad => .bad
@[simp] theorem bind_ok {α β : Type} (a : α) (m : M) (f : α → M → R β) : (R.ok a m).bind f = f a m := rfl
@[simp] theorem bind_exn {α β : Type} (c : Str) (m : M) (f : α → M → R β) : (R.exn c m : R α).bind f = .exn c m := rfl
@[simp] theorem bind_bad {α β : Type} (f : α → M → R β) : (R.bad : R α).bind f = .bad := rfl
structure Wd where
  I : Hp
  φ : List Addr
def TN (K : PySem.W.Frag) (I : Hp) (a : Addr) : Prop := (∃ o u, I a = some (.frz o u) ∧ o.dict = none) ∨ ∃ o, K.lookup a = some o ∧ o.dict = none
def ExcAt (C a : Addr) : Heap → Prop := fun h => ∃ o : Obj, h.get? a = some o ∧ Zc (.ref C) none o ∧ ∃ vs, o.data = .fields vs
mutual
inductive RD (K : PySem.W.Frag) (W : Wd) : V → D → Prop
  | non : RD K W .non .non
  | bl (b : Bool) : RD K W (.bl b) (.bl b)
  | int (i : Int) : RD K W (.int i) (.int i)
  | str (x : Str) : RD K W (.str x) (.str x)
  | tup {a : Addr} {xs : List V} {ds : List D} : SqT K W.I a xs → TN K W.I a → RDs K W xs ds → RD K W (.ref a) (.tup ds)
  | lst {a : Addr} {xs : List V} {ds : List D} : W.I a = some (.lst xs) → RDs K W xs ds → RD K W (.ref a) (.lst ds)
  | frz {a : Addr} {xs : List V} {ds : List D} : SqL K W.I a xs → RDs K W xs ds → RD K W (.ref a) (.frz ds)
  | ref {n : Nat} {a : Addr} : W.φ[n]? = some a → RD K W (.ref a) (.ref n)
  | exc {a C : Addr} {c : Str} : PySem.W.nsIn K mainGlobals c = some (some (.ref C)) → W.I a = some (.ext (ExcAt C a)) → RD K W (.ref a) (.exc c)
  | emp {a : Addr} : W.I a = some (.dK []) → RD K W (.ref a) .emp
  | obj {a C : Addr} {dx : Addr} {c : Str} {ns : List Str} {fs : List (Str × V)} {ds : List D} : PySem.W.nsIn K mainGlobals c = some (some (.ref C)) → W.I a = some (.ins C dx fs) → fs.map (·.1) = ns → RDs K W (fs.map (·.2)) ds → RD K W (.ref a) (.obj c ns ds)
inductive RDs (K : PySem.W.Frag) (W : Wd) : List V → List D → Prop
  | nil : RDs K W [] []
  | cons {v : V} {vs : List V} {d : D} {ds : List D} : RD K W v d → RDs K W vs ds → RDs K W (v :: vs) (d :: ds)
end
section
variable {K : PySem.W.Frag} {W W' : Wd}
theorem RDs.length : ∀ {vs : List V} {ds : List D}, RDs K W vs ds → vs.length = ds.length
  | _, _, .nil => rfl
  | _, _, .cons _ t => by simp [RDs.length t]
theorem RDs.get : ∀ {vs : List V} {ds : List D} {i : Nat} {d : D}, RDs K W vs ds → ds[i]? = some d → ∃ v, vs[i]? = some v ∧ RD K W v d
  | _, _, _, _, .nil, e => by simp at e
  | _, _, 0, _, .cons r _, e => by simp at e; subst e; exact ⟨_, rfl, r⟩
  | _, _, i + 1, d, .cons _ t, e => by
    obtain ⟨v, h1, h2⟩ := RDs.get (i := i) (d := d) t (by simpa using e)
    exact ⟨v, by simpa using h1, h2⟩
theorem RDs.append : ∀ {vs ws : List V} {ds es : List D}, RDs K W vs ds → RDs K W ws es → RDs K W (vs ++ ws) (ds ++ es)
  | _, _, _, _, .nil, s => s
  | _, _, _, _, .cons r t, s => .cons r (RDs.append t s)
theorem RDs.take : ∀ {vs : List V} {ds : List D} (n : Nat), RDs K W vs ds → RDs K W (vs.take n) (ds.take n)
  | _, _, 0, _ => by simp; exact .nil
  | _, _, _ + 1, .nil => by simp; exact .nil
  | _, _, n + 1, .cons r t => .cons r (RDs.take n t)
theorem RDs.drop : ∀ {vs : List V} {ds : List D} (n : Nat), RDs K W vs ds → RDs K W (vs.drop n) (ds.drop n)
  | _, _, 0, r => r
  | _, _, _ + 1, .nil => by simp; exact .nil
  | _, _, n + 1, .cons r t => RDs.drop n t
theorem RDs.set {v : V} {d : D} (r : RD K W v d) : ∀ {vs : List V} {ds : List D} (i : Nat), RDs K W vs ds → RDs K W (vs.set i v) (ds.set i d)
  | _, _, _, .nil => .nil
  | _, _, 0, .cons _ t => .cons r t
  | _, _, i + 1, .cons q t => .cons q (RDs.set r i t)
theorem RDs.reverse : ∀ {vs : List V} {ds : List D}, RDs K W vs ds → RDs K W vs.reverse ds.reverse
  | _, _, .nil => .nil
  | _, _, .cons r t => by
    rw [List.reverse_cons, List.reverse_cons]
    exact (RDs.reverse t).append (.cons r .nil)
theorem RDs.rep {vs : List V} {ds : List D} (h : RDs K W vs ds) : ∀ k : Nat, RDs K W (List.replicate k vs).flatten (List.replicate k ds).flatten
  | 0 => .nil
  | k + 1 => by
    rw [List.replicate_succ, List.replicate_succ, List.flatten_cons, List.flatten_cons]
    exact h.append (RDs.rep h k)
structure Le (W W' : Wd) : Prop where
  I : Same W.I W'.I
  φ : ∃ ψ, W'.φ = W.φ ++ ψ
theorem Le.refl : Le W W := ⟨Same.refl _, [], by simp⟩
theorem Le.get (l : Le W W') {n : Nat} {a : Addr} (h : W.φ[n]? = some a) : W'.φ[n]? = some a := by
  obtain ⟨ψ, e⟩ := l.φ
  rw [e]
  have : n < W.φ.length := by
    rcases Nat.lt_or_ge n W.φ.length with q | q
    · exact q
    · rw [List.getElem?_eq_none q] at h; cases h
  rw [List.getElem?_append_left this]
  exact h
theorem same_T {I I' : Hp} (e : Same I I') {a : Addr} {xs : List V} (h : SqT K I a xs) : SqT K I' a xs := by
  rcases h with (h | ⟨o, h⟩) | h
  · exact .inl (.inl (e _ _ h))
  · exact .inl (.inr ⟨o, e _ _ h⟩)
  · exact .inr h
theorem same_N {I I' : Hp} (e : Same I I') {a : Addr} (h : TN K I a) : TN K I' a := by
  rcases h with ⟨o, u, h, n⟩ | h
  · exact .inl ⟨o, u, e _ _ h, n⟩
  · exact .inr h
mutual
theorem RD.mono (l : Le W W') : ∀ {v : V} {d : D}, RD K W v d → RD K W' v d
  | _, _, .non => .non
  | _, _, .bl b => .bl b
  | _, _, .int i => .int i
  | _, _, .str x => .str x
  | _, _, .tup h n r => .tup (same_T l.I h) (same_N l.I n) (RDs.mono l r)
  | _, _, .lst h r => .lst (l.I _ _ h) (RDs.mono l r)
  | _, _, .frz h r => .frz (l.I.seq h) (RDs.mono l r)
  | _, _, .ref h => .ref (l.get h)
  | _, _, .exc h q => .exc h (l.I _ _ q)
  | _, _, .emp q => .emp (l.I _ _ q)
  | _, _, .obj h q e r => .obj h (l.I _ _ q) e (RDs.mono l r)
theorem RDs.mono (l : Le W W') : ∀ {vs : List V} {ds : List D}, RDs K W vs ds → RDs K W' vs ds
  | _, _, .nil => .nil
  | _, _, .cons r t => .cons (RD.mono l r) (RDs.mono l t)
end
abbrev RKV {κ : Type} (K : PySem.W.Frag) (W : Wd) : List (κ × V) → List (κ × D) → Prop := Paired fun (p : κ × V) (q : κ × D) => p.1 = q.1 ∧ RD K W p.2 q.2
theorem RKV.mono {κ : Type} (l : Le W W') {a : List (κ × V)} {b : List (κ × D)} (h : RKV K W a b) : RKV K W' a b := Paired.mapP h fun p q z => ⟨z.1, z.2.mono l⟩
def DTp (a : Addr) (xs : List (List Int × Addr × Value)) (h : Heap) : Prop := ((a == sysModules) = false ∧ xs.length ≤ sizeLine) ∧ ∃ o es ep, h.get? a = some o ∧ o.ExactDict ∧ o.data = .dict es ep ∧
  (∀ (P : Program) (w : World), es.toList = xs.map (PySem.entryOfKey (tupleKind (PySem.intKind P w)))) ∧ (xs.map (·.1)).Nodup
abbrev RKT (K : PySem.W.Frag) (W : Wd) : List (List Int × Addr × Value) → List (List Key × D) → Prop := Paired fun (p : List Int × Addr × Value) (q : List Key × D) => q.1 = p.1.map Sum.inl ∧ SqT K W.I p.2.1 (p.1.map V.int) ∧ ∃ v, RelV v p.2.2 ∧ RD K W v q.2
theorem RKT.mono (l : Le W W') {a : List (List Int × Addr × Value)} {b : List (List Key × D)} (h : RKT K W a b) : RKT K W' a b := Paired.mapP h fun p q ⟨z1, z2, v, z3, z4⟩ => ⟨z1, same_T l.I z2, v, z3, z4.mono l⟩
def RC (K : PySem.W.Frag) (mg : Str → Option Value) (W : Wd) (o : HO) : Cell → Prop
  | .lst ds => ∃ xs, o = .lst xs ∧ RDs K W xs ds
  | .dic kvs => ∃ xs, o = .dK xs ∧ RKV K W xs kvs
  | .dct kvs => ∃ a xs, o = .ext (DTp a xs) ∧ RKT K W xs kvs
  | .ins c fs => ∃ C dx xs, o = .ins C dx xs ∧ mg c = some (.ref C) ∧ RKV K W xs fs
  | .gone => True
theorem RC.mono {mg : Str → Option Value} (l : Le W W') {o : HO} : ∀ {c : Cell}, RC K mg W o c → RC K mg W' o c
  | .lst _, ⟨xs, e, r⟩ => ⟨xs, e, r.mono l⟩
  | .dic _, ⟨xs, e, r⟩ => ⟨xs, e, RKV.mono l r⟩
  | .dct _, ⟨a, xs, e, r⟩ => ⟨a, xs, e, RKT.mono l r⟩
  | .ins _ _, ⟨C, dx, xs, e, g, r⟩ => ⟨C, dx, xs, e, g, RKV.mono l r⟩
  | .gone, _ => trivial
end
structure RM (K : PySem.W.Frag) (mg : Str → Option Value) (W : Wd) (H : Hp) (m : M) : Prop where
  sub : Same W.I H
  len : W.φ.length = m.length
  nd : W.φ.Nodup
  al : ∀ a ∈ W.φ, H a ≠ none
  obj : ∀ (i : Nat) (a : Addr) (c : Cell), W.φ[i]? = some a → m[i]? = some c → c ≠ .gone → ∃ o, H a = some o ∧ RC K mg W o c
  off : ∀ (i : Nat) (a : Addr) (c : Cell), W.φ[i]? = some a → m[i]? = some c → c ≠ .gone → W.I a = none
structure Ex (W : Wd) (H : Hp) (W' : Wd) (H' : Hp) : Prop where
  I : Same W.I W'.I
  φ : ∃ ψ, W'.φ = W.φ ++ ψ ∧ ∀ a ∈ ψ, H a = none
  fr : ∀ a o, H a = some o → a ∉ W.φ → H' a = some o
  al : ∀ a, H a ≠ none → H' a ≠ none
  nw : ∀ a o, W'.I a = some o → W.I a = some o ∨ H a = none ∨ a ∈ W.φ
section
variable {K : PySem.W.Frag} {mg : Str → Option Value} {W W' W1 W2 : Wd} {H H' H1 H2 : Hp} {m : M}
theorem Ex.refl : Ex W H W H := ⟨Same.refl _, ⟨[], by simp, by simp⟩, fun _ _ h _ => h, fun _ h => h, fun _ _ h => .inl h⟩
theorem Ex.le (e : Ex W H W' H') : Le W W' := ⟨e.I, let ⟨ψ, h, _⟩ := e.φ; ⟨ψ, h⟩⟩
theorem Ex.trans (a : Ex W H W1 H1) (b : Ex W1 H1 W2 H2) : Ex W H W2 H2 := by
  obtain ⟨p1, e1, n1⟩ := a.φ
  obtain ⟨p2, e2, n2⟩ := b.φ
  refine ⟨a.I.trans b.I, ⟨p1 ++ p2, by rw [e2, e1, List.append_assoc], fun x hx => ?_⟩, fun x o hx hn => ?_, fun x hx => b.al x (a.al x hx), fun x o hx => ?_⟩
  · rcases List.mem_append.mp hx with q | q
    · exact n1 x q
    · cases hh : H x with
      | none => rfl
      | some o => exact absurd (n2 x q) (a.al x (by rw [hh]; simp))
  · refine b.fr x o (a.fr x o hx hn) ?_
    rw [e1]
    intro q
    rcases List.mem_append.mp q with q | q
    · exact hn q
    · rw [n1 x q] at hx; cases hx
  · have old : ∀ y, H1 y = none → H y = none := fun y hy => by
      cases hh : H y with
      | none => rfl
      | some o => exact absurd hy (a.al y (by rw [hh]; simp))
    rcases b.nw x o hx with q | q | q
    · exact a.nw x o q
    · exact .inr (.inl (old x q))
    · rw [e1] at q
      rcases List.mem_append.mp q with q | q
      · exact .inr (.inr q)
      · exact .inr (.inl (n1 x q))
theorem RM.nin (r : RM K mg W H m) {p : Addr} (h : H p = none) : p ∉ W.φ := fun q => r.al p q h
theorem RM.nI (r : RM K mg W H m) {p : Addr} (h : H p = none) : W.I p = none := by
  cases q : W.I p with
  | none => rfl
  | some o => rw [r.sub p o q] at h; cases h
theorem upd_ne' {H : Hp} {p : Addr} {o : HO} (h : H p = none) {b : Addr} {u : HO} (e : H b = some u) : upd H p o b = some u := by
  rw [upd_ne (ne_of_none e h)]; exact e
theorem new_imm (r : RM K mg W H m) {p : Addr} {o : HO} (hp : H p = none) :
    Ex W H ⟨upd W.I p o, W.φ⟩ (upd H p o) ∧ RM K mg ⟨upd W.I p o, W.φ⟩ (upd H p o) m := by
  have hI := r.nI hp
  have hφ := r.nin hp
  have le : Le W ⟨upd W.I p o, W.φ⟩ := ⟨fun b u e => upd_ne' hI e, [], by simp⟩
  refine ⟨⟨fun b u e => upd_ne' hI e, ⟨[], by simp, by simp⟩, fun b u e _ => upd_ne' hp e, fun b e => ?_, fun b u e => ?_⟩, ⟨fun b u e => ?_, r.len, r.nd, fun b hb => ?_, fun i a c h1 h2 h3 => ?_, fun i a c h1 h2 h3 => ?_⟩⟩
  · unfold upd; split
    · simp
    · exact e
  · by_cases hb : b = p
    · subst hb; exact .inr (.inl hp)
    · have e' : upd W.I p o b = some u := e
      rw [upd_ne hb] at e'; exact .inl e'
  · by_cases hb : b = p
    · subst hb
      have e' : upd W.I b o b = some u := e
      rw [upd_same] at e' ⊢; exact e'
    · have e' : upd W.I p o b = some u := e
      rw [upd_ne hb] at e' ⊢; exact r.sub b u e'
  · unfold upd; split
    · simp
    · exact r.al b hb
  · obtain ⟨u, e, q⟩ := r.obj i a c h1 h2 h3
    exact ⟨u, upd_ne' hp e, q.mono le⟩
  · have : a ≠ p := fun z => hφ (z ▸ List.mem_of_getElem? h1)
    show upd W.I p o a = none
    rw [upd_ne this]; exact r.off i a c h1 h2 h3
theorem new_tup (r : RM K mg W H m) {p : Addr} {o : Obj} {xs : List V} {ds : List D} (hp : H p = none) (ho : o.dict = none) (h : RDs K W xs ds) :
    Ex W H ⟨upd W.I p (.frz o (.tup xs)), W.φ⟩ (upd H p (.frz o (.tup xs))) ∧ RM K mg ⟨upd W.I p (.frz o (.tup xs)), W.φ⟩ (upd H p (.frz o (.tup xs))) m ∧ RD K ⟨upd W.I p (.frz o (.tup xs)), W.φ⟩ (.ref p) (.tup ds) := by
  obtain ⟨a, b⟩ := new_imm (o := .frz o (.tup xs)) r hp
  exact ⟨a, b, .tup (.inl (.inr ⟨o, upd_same⟩)) (.inl ⟨o, _, upd_same, ho⟩) (h.mono a.le)⟩
theorem RM.get (r : RM K mg W H m) {n : Nat} {a : Addr} {c : Cell} (h : W.φ[n]? = some a) (hc : m[n]? = some c) (hg : c ≠ .gone) : ∃ o, H a = some o ∧ RC K mg W o c ∧ W.I a = none :=
  let ⟨o, e, q⟩ := r.obj n a c h hc hg
  ⟨o, e, q, r.off n a c h hc hg⟩
theorem φ_inj (nd : W.φ.Nodup) {i j : Nat} {a : Addr} (h1 : W.φ[i]? = some a) (h2 : W.φ[j]? = some a) : i = j := nodup_ix' nd h1 h2
  where nodup_ix' {l : List Addr} (nd : l.Nodup) {i j : Nat} {a : Addr} (h1 : l[i]? = some a) (h2 : l[j]? = some a) : i = j := nd_ix nd h1 h2
theorem set_cell (r : RM K mg W H m) {n : Nat} {a : Addr} {c c' : Cell} {o : HO} (h : W.φ[n]? = some a) (hc : m[n]? = some c) (hg : c ≠ .gone) (q : RC K mg W o c') :
    Ex W H W (upd H a o) ∧ RM K mg W (upd H a o) (m.set n c') := by
  obtain ⟨u, e, _, off⟩ := r.get h hc hg
  have mem : a ∈ W.φ := List.mem_of_getElem? h
  refine ⟨⟨Same.refl _, ⟨[], by simp, by simp⟩, fun b u' e' hb => ?_, fun b e' => ?_, fun _ _ z => .inl z⟩, ⟨fun b u' e' => ?_, by rw [r.len, List.length_set], r.nd, fun b hb => ?_, fun i b d h1 h2 h3 => ?_, fun i b d h1 h2 h3 => ?_⟩⟩
  · rw [upd_ne (show b ≠ a from fun z => hb (z ▸ mem))]; exact e'
  · unfold upd; split
    · simp
    · exact e'
  · have : b ≠ a := fun z => by subst z; rw [off] at e'; cases e'
    rw [upd_ne this]; exact r.sub b u' e'
  · unfold upd; split
    · simp
    · exact r.al b hb
  · by_cases hi : i = n
    · subst hi
      have : b = a := by rw [h] at h1; exact (Option.some.inj h1).symm
      subst this
      rw [List.getElem?_set] at h2
      have hl : i < m.length := by rw [← r.len]; exact (List.getElem?_eq_some_iff.mp h).1
      simp [hl] at h2
      subst h2
      exact ⟨o, upd_same, q⟩
    · rw [List.getElem?_set_ne (by omega)] at h2
      have : b ≠ a := fun z => hi (φ_inj r.nd (z ▸ h1) h)
      obtain ⟨u', e', q'⟩ := r.obj i b d h1 h2 h3
      exact ⟨u', by rw [upd_ne this]; exact e', q'⟩
  · by_cases hi : i = n
    · subst hi
      have : b = a := by rw [h] at h1; exact (Option.some.inj h1).symm
      subst this; exact off
    · rw [List.getElem?_set_ne (by omega)] at h2
      exact r.off i b d h1 h2 h3
theorem adopt (r : RM K mg W H m) {p : Addr} {o : HO} {c : Cell} (hp : H p = some o) (hI : W.I p = none) (hφ : p ∉ W.φ) (q : RC K mg W o c) : Le W ⟨W.I, W.φ ++ [p]⟩ ∧ RM K mg ⟨W.I, W.φ ++ [p]⟩ H (m ++ [c]) := by
  have le : Le W ⟨W.I, W.φ ++ [p]⟩ := ⟨Same.refl _, [p], rfl⟩
  refine ⟨le, ⟨r.sub, by simp [r.len], ?_, fun b hb => ?_, fun i b d h1 h2 h3 => ?_, fun i b d h1 h2 h3 => ?_⟩⟩
  · rw [List.nodup_append]
    exact ⟨r.nd, by simp, fun x hx y hy => by simp at hy; subst hy; exact fun z => hφ (z ▸ hx)⟩
  · rcases List.mem_append.mp hb with z | z
    · exact r.al b z
    · simp at z; subst z; rw [hp]; simp
  · rcases Nat.lt_or_ge i W.φ.length with z | z
    · rw [List.getElem?_append_left z] at h1
      rw [List.getElem?_append_left (by rw [← r.len]; exact z)] at h2
      obtain ⟨u, e, w⟩ := r.obj i b d h1 h2 h3
      exact ⟨u, e, w.mono le⟩
    · rw [List.getElem?_append_right z] at h1
      rw [List.getElem?_append_right (by rw [← r.len]; exact z)] at h2
      have z' : i - W.φ.length = 0 := by
        rcases Nat.lt_or_ge (i - W.φ.length) 1 with y | y
        · omega
        · rw [List.getElem?_eq_none (by simpa using y)] at h1; cases h1
      rw [← r.len, z'] at h2
      rw [z'] at h1
      simp at h1 h2
      subst h1; subst h2
      exact ⟨o, hp, q.mono le⟩
  · rcases Nat.lt_or_ge i W.φ.length with z | z
    · rw [List.getElem?_append_left z] at h1
      rw [List.getElem?_append_left (by rw [← r.len]; exact z)] at h2
      exact r.off i b d h1 h2 h3
    · rw [List.getElem?_append_right z] at h1
      have z' : i - W.φ.length = 0 := by
        rcases Nat.lt_or_ge (i - W.φ.length) 1 with y | y
        · omega
        · rw [List.getElem?_eq_none (by simpa using y)] at h1; cases h1
      rw [z'] at h1; simp at h1; subst h1; exact hI
end
def post {α : Type} (K : PySem.W.Frag) (mg : Str → Option Value) (W : Wd) (H : Hp) (r : R α) (Q : α → Wd → Hp → M → Prop) (EX : Str → Hp → Prop) : Prop :=
  match r with
  | .ok x m => ∀ W' H', Ex W H W' H' → RM K mg W' H' m → Q x W' H' m
  | .exn c m => ∀ W' H', Ex W H W' H' → RM K mg W' H' m → EX c H'
  | .bad => False
section
variable {K : PySem.W.Frag} {mg : Str → Option Value} {W W' : Wd} {H H' : Hp} {m : M} {α β : Type} {EX : Str → Hp → Prop}
theorem post_bind {r : R α} {f : α → M → R β} {Q : β → Wd → Hp → M → Prop} (h : post K mg W H (r.bind f) Q EX) : post K mg W H r (fun x W1 H1 m1 => post K mg W1 H1 (f x m1) Q EX) EX := by
  cases r with
  | ok x m =>
    intro W1 H1 e rm
    have h' : post K mg W H (f x m) Q EX := h
    cases q : f x m with
    | ok y m2 =>
      rw [q] at h'
      exact fun W2 H2 e2 rm2 => h' W2 H2 (e.trans e2) rm2
    | exn c m2 =>
      rw [q] at h'
      exact fun W2 H2 e2 rm2 => h' W2 H2 (e.trans e2) rm2
    | bad => rw [q] at h'; exact h'
  | exn c m => exact h
  | bad => exact h
theorem post_mono {r : R α} {Q Q' : α → Wd → Hp → M → Prop} (h : post K mg W H r Q EX) (hq : ∀ x W' H' m', Ex W H W' H' → RM K mg W' H' m' → Q x W' H' m' → Q' x W' H' m') : post K mg W H r Q' EX := by
  cases r with
  | ok x m => exact fun W1 H1 e rm => hq x W1 H1 m e rm (h W1 H1 e rm)
  | exn c m => exact h
  | bad => exact h
theorem post_shift {r : R α} {Q : α → Wd → Hp → M → Prop} (h : post K mg W H r Q EX) (e : Ex W H W' H') : post K mg W' H' r Q EX := by
  cases r with
  | ok x m => exact fun W2 H2 e2 => h W2 H2 (e.trans e2)
  | exn c m => exact fun W2 H2 e2 => h W2 H2 (e.trans e2)
  | bad => exact h
theorem post_ok {x : α} {Q : α → Wd → Hp → M → Prop} (h : post K mg W H (.ok x m) Q EX) (rm : RM K mg W H m) : Q x W H m := h W H Ex.refl rm
end
abbrev En := List (Option D)
structure RS (K : PySem.W.Frag) (W : Wd) (σ : L2.St) (ρ : En) : Prop where
  len : σ.length = ρ.length
  get : ∀ (i : Nat) (x : D), ρ[i]? = some (some x) → ∃ v, σ[i]? = some (some v) ∧ RD K W v x
section
variable {K : PySem.W.Frag} {W W' : Wd} {σ : L2.St} {ρ : En}
theorem RS.mono (l : Le W W') (r : RS K W σ ρ) : RS K W' σ ρ := ⟨r.len, fun i x e => let ⟨v, a, b⟩ := r.get i x e; ⟨v, a, b.mono l⟩⟩
theorem RS.set (r : RS K W σ ρ) (i : Nat) {v : V} {x : D} (h : RD K W v x) : RS K W (σ.set i (some v)) (ρ.set i (some x)) := by
  refine ⟨by simp [r.len], fun j y e => ?_⟩
  by_cases hj : i = j
  · subst hj
    rw [List.getElem?_set] at e ⊢
    rw [r.len]
    by_cases hl : i < ρ.length
    · simp [hl] at e ⊢
      subst e
      exact h
    · simp [hl] at e
  · rw [List.getElem?_set_ne hj] at e ⊢
    exact r.get j y e
theorem RS.unset (r : RS K W σ ρ) (i : Nat) : RS K W (σ.set i none) (ρ.set i none) := by
  refine ⟨by simp [r.len], fun j y e => ?_⟩
  by_cases hj : i = j
  · subst hj
    rw [List.getElem?_set] at e
    by_cases hl : i < ρ.length
    · simp [hl] at e
    · simp [hl] at e
  · rw [List.getElem?_set_ne hj] at e ⊢
    exact r.get j y e
end
def wipeE (ρ : En) : List Nat → En
  | [] => ρ
  | v :: vs => (wipeE ρ vs).set v none
theorem RS.wipe {K : PySem.W.Frag} {W : Wd} {σ : L2.St} {ρ : En} (r : RS K W σ ρ) : ∀ vs : List Nat, RS K W (wipe σ vs) (wipeE ρ vs)
  | [] => r
  | v :: vs => (RS.wipe r vs).unset v
abbrev SE := En → M → R D
abbrev EXT := L2.St → Str → Hp → Prop
abbrev SB := En → M → R Bool
abbrev SA := En → M → R (List D)
def tE (K : PySem.W.Frag) (mg : Str → Option Value) (EX : EXT) (d : SE) : TE := fun σ H Q => ∃ W ρ m, RS K W σ ρ ∧ RM K mg W H m ∧ post K mg W H (d ρ m) (fun x W' H' _ => ∀ v, RD K W' v x → Q v H') (EX σ)
def tT (K : PySem.W.Frag) (mg : Str → Option Value) (EX : EXT) (d : SB) : TT := fun σ H Q => ∃ W ρ m, RS K W σ ρ ∧ RM K mg W H m ∧ post K mg W H (d ρ m) (fun b _ H' _ => Q b H') (EX σ)
def tAs (K : PySem.W.Frag) (mg : Str → Option Value) (EX : EXT) (d : SA) : TA := fun σ H Q => ∃ W ρ m, RS K W σ ρ ∧ RM K mg W H m ∧ post K mg W H (d ρ m) (fun xs W' H' _ => ∀ vs, RDs K W' vs xs → Q vs H') (EX σ)
def tL (K : PySem.W.Frag) (mg : Str → Option Value) (EX : EXT) (d : SA) : TE := fun σ H Q => ∃ W ρ m, RS K W σ ρ ∧ RM K mg W H m ∧
  post K mg W H (d ρ m) (fun xs W' H' _ => ∀ p vs, H p = none → p ∉ W'.φ → W'.I p = none → H' p = some (.lst vs) → RDs K W' vs xs → Q (.ref p) H') (EX σ)
theorem PE.imp {X : Cx} {e : Expr} {t t' : TE} (h : PE X e t) (hi : ∀ σ H Q, t' σ H Q → t σ H Q) : PE X e t' := ⟨fun pins s σ H Q I q => h.run pins s σ H Q I (hi σ H Q q)⟩
theorem PT.imp {X : Cx} {e : Expr} {t t' : TT} (h : PT X e t) (hi : ∀ σ H Q, t' σ H Q → t σ H Q) : PT X e t' := ⟨fun pins s σ H Q I q => h.run pins s σ H Q I (hi σ H Q q)⟩
theorem PW.imp {X : Cx} {e : Expr} {t t' : TT} (h : PW X e t) (hi : ∀ σ H Q, t' σ H Q → t σ H Q) : PW X e t' := ⟨fun w pins s σ H Q I q => h.run w pins s σ H Q I (hi σ H Q q)⟩
theorem PA.imp {X : Cx} {e : List Expr} {t t' : TA} (h : PA X e t) (hi : ∀ σ H Q, t' σ H Q → t σ H Q) : PA X e t' := ⟨fun p pins s σ H Q I q => h.run p pins s σ H Q I (hi σ H Q q)⟩
theorem PS.imp {X : Cx} {e : Stmt} {t t' : TS} (h : PS X e t) (hi : ∀ D σ H, t' D σ H → t D σ H) : PS X e t' := ⟨fun pins s σ H D I q => h.run pins s σ H D I (hi D σ H q)⟩
theorem PSs.imp {X : Cx} {e : List Stmt} {t t' : TS} (h : PSs X e t) (hi : ∀ D σ H, t' D σ H → t D σ H) : PSs X e t' := ⟨fun pins s σ H D I q => h.run pins s σ H D I (hi D σ H q)⟩
abbrev DE (X : Cx) (EX : EXT) (e : Expr) (d : SE) : Prop := PE X e (tE X.K X.mg EX d)
abbrev DT (X : Cx) (EX : EXT) (e : Expr) (d : SB) : Prop := PT X e (tT X.K X.mg EX d)
abbrev DW (X : Cx) (EX : EXT) (e : Expr) (d : SB) : Prop := PW X e (tT X.K X.mg EX d)
abbrev DA (X : Cx) (EX : EXT) (es : List Expr) (d : SA) : Prop := PA X es (tAs X.K X.mg EX d)
abbrev DL (X : Cx) (EX : EXT) (e : Expr) (d : SA) : Prop := PE X e (tL X.K X.mg EX d)
end Vi
set_option maxHeartbeats 4000000
namespace Vi
open PySem PySem.Spec PyProof.Rows L2
def reachA (g : Addr → Option Obj) (as : List Addr) : List Addr := as.flatMap fun a => match g a with
  | some o => He.refsD o
  | none => []
def glosA (g : Addr → Option Obj) (xs : List Str) : List Addr := xs.flatMap fun x => match PySem.W.nsIn (He.frG g [mainGlobals]) mainGlobals x with
  | some (some (.ref a)) => [a]
  | _ => []
def twoA (g : Addr → Option Obj) (as : List Addr) : List Addr := as ++ reachA g as
def fourA (g : Addr → Option Obj) (as : List Addr) : List Addr := twoA g (twoA g (twoA g as))
def addrsH (g : Addr → Option Obj) (xs ys : List Str) : List Addr := mainGlobals :: cStatics :: (twoA g (glosA g xs) ++ fourA g (glosA g ys))
abbrev AlH : Type := He.AlT × Bool
def obsH (fa : List He.Fa) (fn : List He.DefD) (ts : List He.Tab) (bs : List (PySem.W.Frag → Bool)) (K : PySem.W.Frag) : AlH := (He.obsT fa fn ts K, bs.all fun b => b K)
def valH (fn : List He.DefD) (ts : List He.Tab) (w : World) : AlH := (He.valT fn ts w, true)
def SaysH (fa : List He.Fa) (fn : List He.DefD) (ts : List He.Tab) (bs : List (PySem.W.Frag → Bool)) (w : World) (K : PySem.W.Frag) : Prop := obsH fa fn ts bs K = valH fn ts w
def obsHG (xs ys : List Str) (fa : List He.Fa) (fn : List He.DefD) (ts : List He.Tab) (bs : List (PySem.W.Frag → Bool)) (g : Addr → Option Obj) : AlH := obsH fa fn ts bs (He.frG g (addrsH g xs ys))
def hookH (xs ys : List Str) (fa : List He.Fa) (fn : List He.DefD) (ts : List He.Tab) (bs : List (PySem.W.Frag → Bool)) : PySem.W.Hook where
  α := AlH
  obs := fun s => obsHG xs ys fa fn ts bs s.heap.get?
  val := fun w => valH fn ts w
  says := fun w h => ∃ K : PySem.W.Frag, K.In h ∧ SaysH fa fn ts bs w K
  of := fun _ _ e => ⟨_, He.frG_in, e⟩
  keeps := fun _ _ _ ⟨K, hK, c⟩ k => ⟨K, PySem.W.Frag.In.keeps hK k, c⟩
theorem obsHG_eq {xs ys : List Str} {fa : List He.Fa} {fn : List He.DefD} {ts : List He.Tab} {bs : List (PySem.W.Frag → Bool)} {g : Addr → Option Obj} {s : Shared} (h : ∀ a, g a = s.heap.get? a) : obsHG xs ys fa fn ts bs g = (hookH xs ys fa fn ts bs).obs s := by
  have e : g = s.heap.get? := funext h
  subst e
  rfl
def dOf (p : Str × Option Str) (x q : Str) (st : Stmt) : He.DefD := ⟨p, x, q, defArgs st, defBody st, defScope st, [], []⟩
def dG (x : Str) (st : Stmt) : He.DefD := dOf (x, none) x x st
def bG (x : Str) (K : PySem.W.Frag) : Bool := decide (PySem.W.nsIn K mainGlobals x = some (some (.ref (He.fAd K (x, none)))))
def bZ (x : Str) (K : PySem.W.Frag) : Bool := decide (PySem.W.nsIn K mainGlobals x = some none)
def bS (x y : Str) (v : Bool) (K : PySem.W.Frag) : Bool := decide (PySem.W.subIn K (.ref (He.ga K x)) (.ref (He.ga K y)) = some v)
def askVals (K : PySem.W.Frag) (a : Addr) (fs : List Str) : Bool := match K.lookup a with
  | some ⟨_, _, .dict es _, _⟩ => decide (es.toList.map DictEntry.val = fs.map fun x => Value.ref (He.ga K x))
  | _ => false
def datB (K : PySem.W.Frag) : Nat → D → Value → Bool
  | 0, _, _ => false
  | _ + 1, .int n, .int m _ => decide (n = m)
  | f + 1, .tup ds, .ref a => (match K.lookup a with
    | some ⟨.type c, none, .seq its _, _⟩ => decide (c = "tuple") && (decide (its.toList.length ≤ 1000) && (decide (ds.length = its.toList.length) && (ds.zip its.toList).all fun p => datB K f p.1 p.2))
    | _ => false)
  | _ + 1, _, _ => false
def rowsB (K : PySem.W.Frag) : List DictEntry → List (Int × D) → Bool
  | [], [] => true
  | e :: es, p :: tb => decide (e.hash = hashInt p.1) && ((match e.key with
    | .int j _ => decide (j = p.1)
    | _ => false) && (datB K 6 p.2 e.val && rowsB K es tb))
  | _, _ => false
def tabB (K : PySem.W.Frag) (a : Addr) (tb : List (Int × D)) : Bool := match K.lookup a with
  | some ⟨.type c, none, .dict es _, sl⟩ => decide (c = "dict") && (sl.isEmpty && rowsB K es.toList tb)
  | _ => false
end Vi
namespace Lk06
open PySem PySem.Spec PyProof.Rows L2 Vi
noncomputable def topS (i : Nat) : Stmt := PySem.Challenge.pw_partrests_k06_whole_lists_turned.main.body.getD i (.Pass ⟨0, 0, 0, 0⟩)
noncomputable abbrev sis_whole : Stmt := topS 1
noncomputable abbrev sis_parting : Stmt := topS 2
noncomputable abbrev sweight : Stmt := topS 3
noncomputable abbrev sturned : Stmt := topS 4
noncomputable abbrev ssizes : Stmt := topS 5
noncomputable abbrev sboth : Stmt := topS 6
noncomputable abbrev sless : Stmt := topS 7
noncomputable abbrev spartings : Stmt := topS 9
noncomputable abbrev s_law_hand : Stmt := topS 11
noncomputable abbrev s_law_take : Stmt := topS 12
noncomputable abbrev s_law_one_right : Stmt := topS 13
noncomputable abbrev slaw : Stmt := topS 14
noncomputable def hdXs0 : List Str := ["is_whole",
    "is_parting",
    "weight",
    "turned",
    "sizes",
    "both",
    "less",
    "partings",
    "_law_hand",
    "_law_take",
    "_law_one_right",
    "law"]
noncomputable def hdXs : List Str := hdXs0
noncomputable def hdYs : List Str := []
noncomputable def hdFa : List He.Fa := []
noncomputable def hdFn0 : List He.DefD := [dG "is_whole" sis_whole,
    dG "is_parting" sis_parting,
    dG "weight" sweight,
    dG "turned" sturned,
    dG "sizes" ssizes,
    dG "both" sboth,
    dG "less" sless,
    dG "partings" spartings,
    dG "_law_hand" s_law_hand,
    dG "_law_take" s_law_take,
    dG "_law_one_right" s_law_one_right,
    dG "law" slaw]
noncomputable def hdFn : List He.DefD := hdFn0
noncomputable def hdTs : List He.Tab := []
noncomputable def hdBs0 : List (PySem.W.Frag → Bool) := [bG "is_whole",
    bG "is_parting",
    bG "weight",
    bG "turned",
    bG "sizes",
    bG "both",
    bG "less",
    bG "partings",
    bG "_law_hand",
    bG "_law_take",
    bG "_law_one_right",
    bG "law",
    bZ "isinstance",
    bZ "int",
    bZ "bool",
    bZ "all",
    bZ "tuple",
    bZ "zip",
    bZ "sum",
    bZ "len",
    bZ "range",
    bZ "sorted",
    bZ "list",
    bZ "max",
    bZ "min",
    bZ "set"]
noncomputable def hdBs : List (PySem.W.Frag → Bool) := hdBs0
noncomputable def hdNs0 : List PySem.Str := ["is_whole",
    "is_parting",
    "weight",
    "turned",
    "sizes",
    "both",
    "less",
    "partings",
    "_law_hand",
    "_law_take",
    "_law_one_right"]
noncomputable def hdNs : List PySem.Str := hdNs0
noncomputable abbrev hdR : PySem.W.OpenRow := PySem.W.OpenLaw.row PySem.Challenge.rw_partrests_k06_whole_lists_turned
noncomputable abbrev hdQ : Program := PySem.W.view hdR.prog [14]
noncomputable abbrev hdH : PySem.W.Hook := hookH hdXs hdYs hdFa hdFn hdTs hdBs
noncomputable def hdO (s : PySem.W.SharedT) : AlH := obsHG hdXs hdYs hdFa hdFn hdTs hdBs (HandSHeadRun.getT s)
theorem hdO_eq (s : PySem.W.SharedT) : hdO s = hdH.obs s.abs := obsHG_eq (HandSHeadRun.getT_eq s)
set_option maxHeartbeats 0 in
theorem hdRunF (w : World) : HandSHeadRun.RunEq hdR hdQ hdH hdO 100000 hdNs (w.withFollow "special-get-raises" false) := by
  intro os
  kernel_rfl
set_option maxHeartbeats 0 in
theorem hdRunT (w : World) : HandSHeadRun.RunEq hdR hdQ hdH hdO 100000 hdNs (w.withFollow "special-get-raises" true) := by
  intro os
  kernel_rfl
theorem hdRun (w : World) : HandSHeadRun.RunEq hdR hdQ hdH hdO 100000 hdNs w := PySem.W.byRow2 "special-get-raises" (P := fun w => HandSHeadRun.RunEq hdR hdQ hdH hdO 100000 hdNs w) hdRunF hdRunT w
end Lk06
namespace Vi
open PySem PySem.Spec PyProof.Rows L2
def sVar (i : Nat) : SE := fun ρ m => match ρ[i]? with
  | some (some x) => .ok x m
  | _ => .bad
def sC (x : D) : SE := fun _ m => .ok x m
abbrev G2 := D → D → M → R D
def sBin (g : G2) (da db : SE) : SE := fun ρ m => (da ρ m).bind fun x m => (db ρ m).bind fun y m => g x y m
def Op2 (X : Cx) (f : Value → Value → Sem Value) (g : G2) : Prop :=
  ∃ r, OpR X f r ∧ ∀ (EX : Str → Hp → Prop) (W : Wd) (H : Hp) (m : M) (vx vy : V) (x y : D) (Q : VK), RM X.K X.mg W H m → RD X.K W vx x → RD X.K W vy y →
    post X.K X.mg W H (g x y m) (fun z W' H' _ => ∀ v, RD X.K W' v z → Q v H') EX → r vx vy H Q
def Op2B (X : Cx) (f : Value → Value → Sem Value) (g : D → D → M → R Bool) : Prop :=
  ∃ r, OpR X f r ∧ ∀ (EX : Str → Hp → Prop) (W : Wd) (H : Hp) (m : M) (vx vy : V) (x y : D) (Q : VK), RM X.K X.mg W H m → RD X.K W vx x → RD X.K W vy y →
    post X.K X.mg W H (g x y m) (fun b W' H' _ => Q (.bl b) H') EX → r vx vy H Q
def sBinT (g : D → D → M → R Bool) (da db : SE) : SB := fun ρ m => (da ρ m).bind fun x m => (db ρ m).bind fun y m => g x y m
def sOfT (t : SB) : SE := fun ρ m => (t ρ m).bind fun b m => .ok (.bl b) m
section
variable {X : Cx} {EX : EXT} {a b c e : Expr} {da db dc : SE} {pos : Pos}
theorem de_var (i : Nat) {x : Str} (hN : X.N[i]? = some x := by rfl) (hv : Vis X.env.scope x := by first | exact Or.inl rfl | exact Or.inr (Or.inl rfl) | exact Or.inr (Or.inr rfl)) (hd : (x == ("__debug__" : Str)) = false := by decide)
    (hcd : (x == ("__classdict__" : Str)) = false := by decide) : DE X EX (.Name x pos) (sVar i) :=
  PE.imp (pe_var hN hv hd hcd) fun σ H Q ⟨W, ρ, m, rs, rm, h⟩ => by
    unfold sVar at h
    split at h
    · rename_i x e
      obtain ⟨v, e1, r⟩ := rs.get i x e
      exact ⟨v, e1, post_ok h rm v r⟩
    · exact h.elim
theorem de_const {e : Expr} {v : V} {x : D} (h : PE X e (tC v)) (r : ∀ W, RD X.K W v x) : DE X EX e (sC x) :=
  PE.imp h fun σ H Q ⟨W, ρ, m, rs, rm, h⟩ => post_ok h rm v (r W)
theorem de_int {i j pos} : DE X EX (.Constant (.int i) j pos) (sC (.int i)) := de_const pe_int fun _ => .int _
theorem de_bl {b j pos} : DE X EX (.Constant (.bool b) j pos) (sC (.bl b)) := de_const pe_bl fun _ => .bl _
theorem de_non {j pos} : DE X EX (.Constant .none j pos) (sC .non) := de_const pe_non fun _ => .non
theorem two {r : R2} {g : G2} {ta : TE} {σ : L2.St} {H : Hp} {Q : VK}
    (lift : ∀ (EX : Str → Hp → Prop) (W : Wd) (H : Hp) (m : M) (vx vy : V) (x y : D) (Q : VK), RM X.K X.mg W H m → RD X.K W vx x → RD X.K W vy y → post X.K X.mg W H (g x y m) (fun z W' H' _ => ∀ v, RD X.K W' v z → Q v H') EX → r vx vy H Q)
    (h : tE X.K X.mg EX (sBin g da db) σ H Q) : tOp r (tE X.K X.mg EX da) (tE X.K X.mg EX db) σ H Q := by
  obtain ⟨W, ρ, m, rs, rm, h⟩ := h
  refine ⟨W, ρ, m, rs, rm, post_mono (post_bind h) fun x W1 H1 m1 e1 rm1 h1 v rv => ?_⟩
  refine ⟨W1, ρ, m1, rs.mono e1.le, rm1, post_mono (post_bind h1) fun y W2 H2 m2 e2 rm2 h2 u ru => ?_⟩
  exact lift _ W2 H2 m2 v u x y Q rm2 (rv.mono e2.le) ru h2
theorem de_op {op : Operator} {g : G2} (ho : Op2 X (binaryOp op) g) (ha : DE X EX a da) (hb : DE X EX b db) : DE X EX (.BinOp a op b pos) (sBin g da db) := by
  obtain ⟨r, hr, lift⟩ := ho
  exact PE.imp (pe_op hr ha hb) fun σ H Q h => two (ta := tE X.K X.mg EX da) lift h
theorem twoT {r : R2} {g : D → D → M → R Bool} {σ : L2.St} {H : Hp} {Q : Bool → Hp → Prop}
    (lift : ∀ (EX : Str → Hp → Prop) (W : Wd) (H : Hp) (m : M) (vx vy : V) (x y : D) (Q : VK), RM X.K X.mg W H m → RD X.K W vx x → RD X.K W vy y → post X.K X.mg W H (g x y m) (fun b W' H' _ => Q (.bl b) H') EX → r vx vy H Q)
    (h : tT X.K X.mg EX (sBinT g da db) σ H Q) : tTest (tOp r (tE X.K X.mg EX da) (tE X.K X.mg EX db)) σ H Q := by
  obtain ⟨W, ρ, m, rs, rm, h⟩ := h
  refine ⟨W, ρ, m, rs, rm, post_mono (post_bind h) fun x W1 H1 m1 e1 rm1 h1 v rv => ?_⟩
  refine ⟨W1, ρ, m1, rs.mono e1.le, rm1, post_mono (post_bind h1) fun y W2 H2 m2 e2 rm2 h2 u ru => ?_⟩
  exact lift _ W2 H2 m2 v u x y _ rm2 (rv.mono e2.le) ru (post_mono h2 fun b W3 H3 m3 e3 rm3 h3 => ⟨b, rfl, h3⟩)
theorem dt_cmp {op : CmpOp} {g : D → D → M → R Bool} (ho : Op2B X (compareOp op) g) (ha : DE X EX a da) (hb : DE X EX b db) (hm : behindInMarks op b = false := by first | exact nomark _ | rfl) : DT X EX (.Compare a [op] [b] pos) (sBinT g da db) := by
  obtain ⟨r, hr, lift⟩ := ho
  exact PT.imp (pt_cmpR hr ha hb hm) fun σ H Q h => twoT lift h
theorem de_cmp {op : CmpOp} {g : D → D → M → R Bool} (ho : Op2B X (compareOp op) g) (ha : DE X EX a da) (hb : DE X EX b db) (hm : behindInMarks op b = false := by first | exact nomark _ | rfl) : DE X EX (.Compare a [op] [b] pos) (sOfT (sBinT g da db)) := by
  obtain ⟨r, hr, lift⟩ := ho
  refine PE.imp (pe_cmpR hr ha hb hm) fun σ H Q ⟨W, ρ, m, rs, rm, h⟩ => ?_
  have h : post X.K X.mg W H (sBinT g da db ρ m) (fun b W' H' _ => Q (.bl b) H') (EX σ) := post_mono (post_bind h) fun b W1 H1 m1 e1 rm1 h1 => post_ok h1 rm1 (.bl b) (.bl b)
  refine ⟨W, ρ, m, rs, rm, post_mono (post_bind h) fun x W1 H1 m1 e1 rm1 h1 v rv => ?_⟩
  refine ⟨W1, ρ, m1, rs.mono e1.le, rm1, post_mono (post_bind h1) fun y W2 H2 m2 e2 rm2 h2 u ru => ?_⟩
  exact lift _ W2 H2 m2 v u x y _ rm2 (rv.mono e2.le) ru h2
def sAnd (t u : SB) : SB := fun ρ m => (t ρ m).bind fun k m => if k = true then u ρ m else .ok false m
def sOr (t u : SB) : SB := fun ρ m => (t ρ m).bind fun k m => if k = true then .ok true m else u ρ m
def sNot (t : SB) : SB := fun ρ m => (t ρ m).bind fun k m => .ok (!k) m
variable {t u : SB} {rest : List Expr}
theorem dw_or1 (ha : DT X EX a t) : DW X EX (.BoolOp .Or [a] pos) t := pw_or1 ha
theorem dw_or (ha : DT X EX a t) (hb : DW X EX (.BoolOp .Or (b :: rest) pos) u) : DW X EX (.BoolOp .Or (a :: b :: rest) pos) (sOr t u) :=
  PW.imp (pw_or ha hb) fun σ H Q ⟨W, ρ, m, rs, rm, h⟩ => ⟨W, ρ, m, rs, rm, post_mono (post_bind h) fun k W1 H1 m1 e1 rm1 h1 => by
    cases k with
    | true => exact post_ok h1 rm1
    | false => exact ⟨W1, ρ, m1, rs.mono e1.le, rm1, h1⟩⟩
theorem dt_w (h : DW X EX e t) : DT X EX e t := h.pt
theorem dt_not (ha : DT X EX a t) : DT X EX (.UnaryOp .Not a pos) (sNot t) :=
  PT.imp (pt_not ha) fun σ H Q ⟨W, ρ, m, rs, rm, h⟩ => ⟨W, ρ, m, rs, rm, post_mono (post_bind h) fun k W1 H1 m1 e1 rm1 h1 => post_ok h1 rm1⟩
def sTB (d : SE) : SB := fun ρ m => (d ρ m).bind fun x m => match x with
  | .bl b => .ok b m
  | _ => .bad
theorem dt_bl (h : DE X EX e da) (he : ∀ whole, isTrue e X.env whole = (do let v ← whole; standAt e.pos; holding [v] (truthy v)) := by intro _; rfl) : DT X EX e (sTB da) :=
  PT.imp (pt_val h he) fun σ H Q ⟨W, ρ, m, rs, rm, h⟩ => ⟨W, ρ, m, rs, rm, post_mono (post_bind h) fun x W1 H1 m1 e1 rm1 h1 v rv => by
    cases x with
    | bl b => cases rv; exact ⟨b, rfl, post_ok h1 rm1⟩
    | _ => exact h1.elim⟩
def sAndV (da db : SE) : SE := fun ρ m => (sTB da ρ m).bind fun k m => if k = true then db ρ m else .ok (.bl false) m
def sIf (t : SB) (da db : SE) : SE := fun ρ m => (t ρ m).bind fun k m => if k = true then da ρ m else db ρ m
theorem de_one {op} (h : DE X EX a da) : DE X EX (.BoolOp op [a] pos) da := pe_one h
theorem tb_of {EX : Str → Hp → Prop} {σ : L2.St} {H : Hp} {W : Wd} {ρ : En} {m : M} {f : Bool → M → R D} {Q : D → Wd → Hp → M → Prop} (h : post X.K X.mg W H ((sTB da ρ m).bind f) Q EX) :
    post X.K X.mg W H (da ρ m) (fun x W1 H1 m1 => ∃ k, x = .bl k ∧ post X.K X.mg W1 H1 (f k m1) Q EX) EX := by
  refine post_mono (post_bind (post_bind h)) fun x W1 H1 m1 e1 rm1 h1 => ?_
  cases x with
  | bl b => exact ⟨b, rfl, post_ok h1 rm1⟩
  | _ => exact h1.elim
theorem de_and (ha : DE X EX a da) (hb : DE X EX (.BoolOp .And (b :: rest) pos) db) : DE X EX (.BoolOp .And (a :: b :: rest) pos) (sAndV da db) :=
  PE.imp (pe_and ha hb) fun σ H Q ⟨W, ρ, m, rs, rm, h⟩ => ⟨W, ρ, m, rs, rm, post_mono (tb_of (σ := σ) h) fun x W1 H1 m1 e1 rm1 ⟨k, hk, h1⟩ v rv => by
    subst hk
    cases rv
    refine ⟨k, rfl, ?_⟩
    cases k with
    | true => exact ⟨W1, ρ, m1, rs.mono e1.le, rm1, h1⟩
    | false => exact post_ok h1 rm1 _ (.bl _)⟩
def sNotV (da : SE) : SE := sOfT (sNot (sTB da))
theorem de_not (ha : DE X EX a da) : DE X EX (.UnaryOp .Not a pos) (sNotV da) :=
  PE.imp (pe_not ha) fun σ H Q ⟨W, ρ, m, rs, rm, h⟩ => ⟨W, ρ, m, rs, rm, post_mono (post_bind (post_bind (post_bind h))) fun x W1 H1 m1 e1 rm1 h1 v rv => by
    cases x with
    | bl b =>
      cases rv
      exact ⟨b, rfl, post_ok (post_ok (post_ok h1 rm1) rm1) rm1 _ (.bl _)⟩
    | _ => exact h1.elim⟩
theorem de_if (hc : DT X EX c t) (ha : DE X EX a da) (hb : DE X EX b db) : DE X EX (.IfExp c a b pos) (sIf t da db) :=
  PE.imp (pe_ifExp hc ha hb) fun σ H Q ⟨W, ρ, m, rs, rm, h⟩ => ⟨W, ρ, m, rs, rm, post_mono (post_bind h) fun k W1 H1 m1 e1 rm1 h1 => by
    cases k with
    | true => exact ⟨W1, ρ, m1, rs.mono e1.le, rm1, h1⟩
    | false => exact ⟨W1, ρ, m1, rs.mono e1.le, rm1, h1⟩⟩
def truth : D → M → R Bool
  | .non, m => .ok false m
  | .bl b, m => .ok b m
  | .int i, m => .ok (i != 0) m
  | .str x, m => if x.length ≤ sizeLine then .ok ((x.length : Int) != 0) m else .bad
  | .tup xs, m => .ok (!xs.isEmpty) m
  | .lst xs, m => .ok (!xs.isEmpty) m
  | .frz xs, m => .ok (!xs.isEmpty) m
  | .ref n, m => match m[n]? with
    | some (.lst xs) => .ok (!xs.isEmpty) m
    | _ => .bad
  | .exc _, _ => .bad
  | .emp, _ => .bad
  | .obj _ _ _, _ => .bad
theorem RDs.isEmpty {K : PySem.W.Frag} {W : Wd} {vs : List V} {ds : List D} (h : RDs K W vs ds) : vs.isEmpty = ds.isEmpty := by cases h <;> rfl
end
def gI (C : Int → Int → Bool) (f : Int → Int → Int) : G2 := fun x y m => match x, y with
  | .int i, .int j => if C i j = true then .ok (.int (f i j)) m else .bad
  | _, _ => .bad
theorem op2_I {X : Cx} {g : Value → Value → Sem Value} {P : Int → Int → Prop} {C : Int → Int → Bool} {f : Int → Int → Int} (h : OpR X g (rI P fun i j => .int (f i j))) (hc : ∀ i j, C i j = true → P i j) : Op2 X g (gI C f) :=
  ⟨_, h, fun EX W H m vx vy x y Q rm rx ry hp => by
    unfold gI at hp
    split at hp
    · split at hp
      · rename_i i j hC
        cases rx; cases ry
        exact ⟨i, j, rfl, rfl, hc i j hC, post_ok hp rm _ (.int _)⟩
      · exact hp.elim
    · exact hp.elim⟩
theorem op2_I0 {X : Cx} {g : Value → Value → Sem Value} {f : Int → Int → Int} (h : OpR X g (rI0 fun i j => .int (f i j))) : Op2 X g (gI (fun _ _ => true) f) :=
  ⟨_, h, fun EX W H m vx vy x y Q rm rx ry hp => by
    unfold gI at hp
    split at hp
    · split at hp
      · rename_i i j hC
        cases rx; cases ry
        exact ⟨i, j, rfl, rfl, post_ok hp rm _ (.int _)⟩
      · exact hp.elim
    · exact hp.elim⟩
def gAdd : G2 := gI (fun _ _ => true) fun i j => i + j
def gSub : G2 := gI (fun _ _ => true) fun i j => i - j
def gMul : G2 := gI (fun i j => decide (i.natAbs.log2 + j.natAbs.log2 < 1000000)) fun i j => i * j
def gDiv : G2 := gI (fun _ j => decide (0 < j) && decide (j.natAbs.log2 < 9000)) fun i j => i / j
def gMod : G2 := gI (fun _ j => decide (0 < j)) fun i j => i % j
def gPow : G2 := gI (fun i j => decide (0 ≤ j) && decide (j ≤ 1000000) && decide (i.natAbs < 2 ^ 64)) fun i j => i ^ j.toNat
section
variable {X : Cx}
theorem o_add : Op2 X (binaryOp .Add) gAdd := op2_I0 op_add
theorem o_sub : Op2 X (binaryOp .Sub) gSub := op2_I0 op_sub
theorem o_mul : Op2 X (binaryOp .Mult) gMul := op2_I op_mulW fun i j h => show i.natAbs.log2 + j.natAbs.log2 < 1000000 from of_decide_eq_true h
theorem o_div : Op2 X (binaryOp .FloorDiv) gDiv := op2_I op_fdivW fun i j h => by
  rw [Bool.and_eq_true] at h
  exact ⟨of_decide_eq_true h.1, of_decide_eq_true h.2⟩
theorem o_mod : Op2 X (binaryOp .Mod) gMod := op2_I op_mod fun _ _ h => of_decide_eq_true h
theorem o_pow : Op2 X (binaryOp .Pow) gPow := op2_I op_pow fun i j h => by
  rw [Bool.and_eq_true, Bool.and_eq_true] at h
  exact ⟨of_decide_eq_true h.1.1, of_decide_eq_true h.1.2, of_decide_eq_true h.2⟩
end
def dB (k : Bool) : Int := if k then 1 else 0
def gC (f : Int → Int → Bool) : D → D → M → R Bool := fun x y m => match x, y with
  | .int i, .int j => .ok (f i j) m
  | _, _ => .bad
theorem op2_C {X : Cx} {g : Value → Value → Sem Value} {f : Int → Int → Bool} (h : OpR X g (rI0 fun i j => .bl (f i j))) : Op2B X g (gC f) :=
  ⟨_, h, fun EX W H m vx vy x y Q rm rx ry hp => by
    unfold gC at hp
    split at hp
    · rename_i i j
      cases rx; cases ry
      exact ⟨i, j, rfl, rfl, post_ok hp rm⟩
    · exact hp.elim⟩
def gLt := gC fun i j => decide (i < j)
def gGt := gC fun i j => decide (j < i)
def gGe := gC fun i j => decide (j ≤ i)
section
variable {X : Cx}
theorem o_lt : Op2B X (compareOp .Lt) gLt := op2_C op_lt
theorem o_gt : Op2B X (compareOp .Gt) gGt := op2_C op_gt
theorem o_ge : Op2B X (compareOp .GtE) gGe := op2_C op_ge
def isNon : D → Bool
  | .non => true
  | _ => false
def gNotN : D → D → M → R Bool := fun x y m => match y with
  | .non => .ok (!isNon x) m
  | _ => .bad
theorem isNon_eq {K : PySem.W.Frag} {W : Wd} {v : V} {x : D} (r : RD K W v x) : decide (v = .non) = isNon x := by cases r <;> rfl
theorem o_notN : Op2B X (compareOp .IsNot) gNotN := ⟨_, op_notN, fun EX W H m vx vy x y Q rm rx ry hp => by
  cases ry with
  | non => exact ⟨rfl, by rw [isNon_eq rx]; exact post_ok hp rm⟩
  | _ => exact hp.elim⟩
end
mutual
def toPy : D → M → Option PyData
  | .non, _ => some .none
  | .bl b, _ => some (.bool b)
  | .int i, _ => some (.int i)
  | .str x, _ => some (.str x)
  | .tup xs, m => (toPys xs m).map .tuple
  | .lst xs, m => (toPys xs m).map .list
  | .frz xs, m => (toPys xs m).map .list
  | .ref _, _ => none
  | .exc _, _ => none
  | .emp, _ => none
  | .obj _ _ _, _ => none
def toPys : List D → M → Option (List PyData)
  | [], _ => some []
  | x :: xs, m => match toPy x m, toPys xs m with
    | some d, some ds => some (d :: ds)
    | _, _ => none
end
def toPyR (x : D) (m : M) : Option PyData := match x with
  | .ref n => match m[n]? with
    | some (.lst xs) => (toPys xs m).map .list
    | _ => none
  | x => toPy x m
section
variable {K : PySem.W.Frag} {mg : Str → Option Value} {W : Wd} {H : Hp} {m : M}
mutual
theorem dp_of (sub : Same W.I H) : ∀ {v : V} {x : D} {d : PyData}, RD K W v x → toPy x m = some d → Dp K H v d
  | _, _, _, .non, e => by simp only [toPy, Option.some.injEq] at e; subst e; exact .non
  | _, _, _, .bl b, e => by simp only [toPy, Option.some.injEq] at e; subst e; exact .bl b
  | _, _, _, .int i, e => by simp only [toPy, Option.some.injEq] at e; subst e; exact .int i
  | _, _, _, .str x, e => by simp only [toPy, Option.some.injEq] at e; subst e; exact .str x
  | _, _, _, .tup h n r, e => by
    simp only [toPy, Option.map_eq_some_iff] at e
    obtain ⟨ds, e, rfl⟩ := e
    exact .tup (same_T sub h) (dps_of sub r e)
  | _, _, _, .lst h r, e => by
    simp only [toPy, Option.map_eq_some_iff] at e
    obtain ⟨ds, e, rfl⟩ := e
    exact .lst (.inl (.inl (sub _ _ h))) (dps_of sub r e)
  | _, _, _, .frz h r, e => by
    simp only [toPy, Option.map_eq_some_iff] at e
    obtain ⟨ds, e, rfl⟩ := e
    exact .lst (sub.seq h) (dps_of sub r e)
  | _, _, _, .ref h, e => by simp [toPy] at e
  | _, _, _, .exc _ _, e => by simp [toPy] at e
  | _, _, _, .emp _, e => by simp [toPy] at e
  | _, _, _, .obj _ _ _ _, e => by simp [toPy] at e
theorem dps_of (sub : Same W.I H) : ∀ {vs : List V} {xs : List D} {ds : List PyData}, RDs K W vs xs → toPys xs m = some ds → DpAll K H vs ds
  | _, _, _, .nil, e => by simp only [toPys, Option.some.injEq] at e; subst e; exact .nil
  | _, _, _, .cons r t, e => by
    simp only [toPys] at e
    split at e
    · rename_i d ds e1 e2
      cases e
      exact .cons (dp_of sub r e1) (dps_of sub t e2)
    · cases e
end
theorem dpR_of (rm : RM K mg W H m) {v : V} {x : D} {d : PyData} (r : RD K W v x) (e : toPyR x m = some d) : Dp K H v d := by
  cases r with
  | @ref n a hn =>
    simp only [toPyR] at e
    split at e
    · rename_i xs hx
      rw [Option.map_eq_some_iff] at e
      obtain ⟨ds, e, rfl⟩ := e
      obtain ⟨o, ho, ⟨vs, rfl, r⟩, _⟩ := rm.get hn hx (by simp)
      exact .lst (.inl (.inl ho)) (dps_of rm.sub r e)
    · cases e
  | non => exact dp_of (m := m) rm.sub .non e
  | bl b => exact dp_of (m := m) rm.sub (.bl b) e
  | int i => exact dp_of (m := m) rm.sub (.int i) e
  | str x => exact dp_of (m := m) rm.sub (.str x) e
  | tup h n r => exact dp_of (m := m) rm.sub (.tup h n r) e
  | lst h r => exact dp_of (m := m) rm.sub (.lst h r) e
  | frz h r => exact dp_of (m := m) rm.sub (.frz h r) e
  | exc _ _ => exact absurd e (by simp [toPyR, toPy])
  | emp _ => exact absurd e (by simp [toPyR, toPy])
  | obj _ _ _ _ => exact absurd e (by simp [toPyR, toPy])
end
def gEqD : D → D → M → R Bool := fun x y m => match toPyR x m, toPyR y m with
  | some d, some e => if SeqAt.shaped d = true then if SeqAt.shaped e = true then .ok (PyData.eqv d e) m else .bad else .bad
  | _, _ => .bad
def gNeD : D → D → M → R Bool := fun x y m => match toPyR x m, toPyR y m with
  | some d, some e => if SeqAt.shaped d = true then if SeqAt.shaped e = true then .ok (!PyData.eqv d e) m else .bad else .bad
  | _, _ => .bad
theorem o_eqD {X : Cx} (hu : X.A.units + 64 < cLine) : Op2B X (compareOp .Eq) gEqD := ⟨_, op_eqD hu, fun EX W H m vx vy x y Q rm rx ry hp => by
  unfold gEqD at hp
  split at hp
  · rename_i d e h1 h2
    split at hp
    · split at hp
      · exact ⟨d, e, dpR_of rm rx h1, dpR_of rm ry h2, by assumption, by assumption, post_ok hp rm⟩
      · exact hp.elim
    · exact hp.elim
  · exact hp.elim⟩
theorem o_neD {X : Cx} (hu : X.A.units + 64 < cLine) : Op2B X (compareOp .NotEq) gNeD := ⟨_, op_neD hu, fun EX W H m vx vy x y Q rm rx ry hp => by
  unfold gNeD at hp
  split at hp
  · rename_i d e h1 h2
    split at hp
    · split at hp
      · exact ⟨d, e, dpR_of rm rx h1, dpR_of rm ry h2, by assumption, by assumption, post_ok hp rm⟩
      · exact hp.elim
    · exact hp.elim
  · exact hp.elim⟩
def gEq : D → D → M → R Bool := fun x y m => match x, y with
  | .str a, .str b => .ok (a == b) m
  | x, y => gEqD x y m
def gNe : D → D → M → R Bool := fun x y m => match x, y with
  | .str a, .str b => .ok (!(a == b)) m
  | x, y => gNeD x y m
theorem o_eq {X : Cx} (hu : X.A.units + 64 < cLine) : Op2B X (compareOp .Eq) gEq := by
  obtain ⟨r, hr, lr⟩ := o_eqD hu
  refine ⟨_, op_eq.or hr, fun EX W H m vx vy x y Q rm rx ry hp => ?_⟩
  unfold gEq at hp
  split at hp
  · cases rx; cases ry
    refine .inl ⟨rfl, ?_⟩
    rw [dec_str]
    exact post_ok hp rm
  · exact .inr (lr EX W H m vx vy _ _ Q rm rx ry hp)
theorem o_ne {X : Cx} (hu : X.A.units + 64 < cLine) : Op2B X (compareOp .NotEq) gNe := by
  obtain ⟨r, hr, lr⟩ := o_neD hu
  refine ⟨_, op_ne.or hr, fun EX W H m vx vy x y Q rm rx ry hp => ?_⟩
  unfold gNe at hp
  split at hp
  · cases rx; cases ry
    refine .inl ⟨rfl, ?_⟩
    rw [dec_str]
    exact post_ok hp rm
  · exact .inr (lr EX W H m vx vy _ _ Q rm rx ry hp)
end Vi
namespace Vi
open PySem PySem.Spec PyProof.Rows L2
abbrev big : Nat := 16777216
theorem big_eq : sizeLine = big := sizeLine_eq
def sNil : SA := fun _ m => .ok [] m
def sCons (d : SE) (ds : SA) : SA := fun ρ m => (d ρ m).bind fun x m => (ds ρ m).bind fun xs m => .ok (x :: xs) m
def sTup (ds : SA) : SE := fun ρ m => (ds ρ m).bind fun xs m => if xs.length ≤ big then .ok (.tup xs) m else .bad
def sLst (ds : SA) : SA := fun ρ m => (ds ρ m).bind fun xs m => if xs.length ≤ big then .ok xs m else .bad
def sFrz (ds : SA) : SE := fun ρ m => (ds ρ m).bind fun xs m => .ok (.lst xs) m
def sNew (ds : SA) : SE := fun ρ m => (ds ρ m).bind fun xs m => .ok (.ref m.length) (m ++ [.lst xs])
section
variable {X : Cx} {EX : EXT} {a b c e : Expr} {es : List Expr} {d da db dc : SE} {ds : SA} {pos : Pos}
theorem da_nil : DA X EX [] sNil := PA.imp pa_nil fun σ H Q ⟨W, ρ, m, rs, rm, h⟩ => post_ok h rm _ .nil
theorem da_cons (ha : DE X EX e d) (hr : DA X EX es ds) (hs : starEach (e :: es) X.env = (false, eval e X.env) :: starEach es X.env := by rfl) : DA X EX (e :: es) (sCons d ds) :=
  PA.imp (pa_cons ha hr hs) fun σ H Q ⟨W, ρ, m, rs, rm, h⟩ => ⟨W, ρ, m, rs, rm, post_mono (post_bind h) fun x W1 H1 m1 e1 rm1 h1 v rv =>
    ⟨W1, ρ, m1, rs.mono e1.le, rm1, post_mono (post_bind h1) fun xs W2 H2 m2 e2 rm2 h2 vs rvs => post_ok h2 rm2 _ (.cons (rv.mono e2.le) rvs)⟩⟩
def tTupS (t : TA) : TE := fun σ H Q => t σ H fun xs H1 => xs.length ≤ sizeLine ∧ ∀ p o, H1 p = none → o.dict = none → Q (.ref p) (upd H1 p (.frz o (.tup xs)))
theorem pe_tupS {t : TA} {x1} (h : PA X es t) : PE X (.Tuple es x1 pos) (tTupS t) := by
  refine ⟨fun pins s σ H Q I hq => wpAny_Tuple_spliced (thn (h.run pos pins s σ H _ I hq) ?_)⟩
  rintro us s1 ⟨xs, H1, I1, r, z, q⟩
  have J := I1.laid (o := .frz _ (.tup xs)) (t' := s1.toks) (fun _ _ e => Heap.get?_push_of_some _ e) (Nat.le_refl _) ⟨Heap.get?_push_size _ rfl, z, us, r, IsTup.new _ _⟩
  exact ⟨by rw [← r.length]; exact z, .ref _, _, J, rfl, q _ _ I1.fresh rfl⟩
theorem de_tup {x1} (h : DA X EX es ds) : DE X EX (.Tuple es x1 pos) (sTup ds) :=
  PE.imp (pe_tupS h) fun σ H Q ⟨W, ρ, m, rs, rm, h⟩ => ⟨W, ρ, m, rs, rm, post_mono (post_bind h) fun xs W1 H1 m1 e1 rm1 h1 vs rvs => by
    split at h1
    · rename_i hz
      refine ⟨by rw [rvs.length, big_eq]; exact hz, fun p o hp ho => ?_⟩
      obtain ⟨e2, rm2, r2⟩ := new_tup rm1 hp ho rvs
      exact h1 _ _ e2 rm2 _ r2
    · exact h1.elim⟩
theorem fresh_ok {W : Wd} {H : Hp} {m : M} {p : Addr} {vs : List V} {xs : List D} (rm : RM X.K X.mg W H m) (hp : H p = none) (r : RDs X.K W vs xs) :
    Ex W H W (upd H p (.lst vs)) ∧ RM X.K X.mg W (upd H p (.lst vs)) m ∧ p ∉ W.φ ∧ W.I p = none := by
  refine ⟨⟨Same.refl _, ⟨[], by simp, by simp⟩, fun b u e _ => upd_ne' hp e, fun b e => ?_, fun _ _ z => .inl z⟩, ⟨fun b u e => upd_ne' hp (rm.sub b u e), rm.len, rm.nd, fun b hb => ?_, fun i a c h1 h2 h3 => ?_, rm.off⟩, rm.nin hp, rm.nI hp⟩
  · unfold upd; split
    · simp
    · exact e
  · unfold upd; split
    · simp
    · exact rm.al b hb
  · obtain ⟨u, e, q⟩ := rm.obj i a c h1 h2 h3
    exact ⟨u, upd_ne' hp e, q⟩
theorem fresh_post {EX : Str → Hp → Prop} {W W0 : Wd} {H H0 : Hp} {m : M} {p : Addr} {vs : List V} {xs : List D} {Q : VK} (e0 : Ex W0 H0 W H) (rm : RM X.K X.mg W H m) (hp : H p = none) (r : RDs X.K W vs xs)
    (h : post X.K X.mg W H (.ok xs m) (fun xs W' H' _ => ∀ p vs, H0 p = none → p ∉ W'.φ → W'.I p = none → H' p = some (.lst vs) → RDs X.K W' vs xs → Q (.ref p) H') EX) : Q (.ref p) (upd H p (.lst vs)) := by
  obtain ⟨e1, rm1, n1, n2⟩ := fresh_ok rm hp r
  have h0 : H0 p = none := by
    cases q : H0 p with
    | none => rfl
    | some o => exact absurd hp (e0.al p (by rw [q]; simp))
  exact h _ _ e1 rm1 p vs h0 n1 n2 upd_same r
theorem dl_lst (h : DA X EX es ds) : DL X EX (.List es pos) (sLst ds) :=
  PE.imp (pe_lst h) fun σ H Q ⟨W, ρ, m, rs, rm, h⟩ => ⟨W, ρ, m, rs, rm, post_mono (post_bind h) fun xs W1 H1 m1 e1 rm1 h1 vs rvs => by
    split at h1
    · rename_i hz
      exact ⟨by rw [rvs.length, big_eq]; exact hz, fun p hp => fresh_post e1 rm1 hp rvs h1⟩
    · exact h1.elim⟩
theorem frz_imp {σ : L2.St} {H : Hp} {Q : VK} (h : tE X.K X.mg EX (sFrz ds) σ H Q) : tL X.K X.mg EX ds σ H Q :=
  let ⟨W, ρ, m, rs, rm, h⟩ := h; ⟨W, ρ, m, rs, rm, by
    unfold sFrz at h
    generalize ds ρ m = r at h ⊢
    cases r with
    | ok xs m1 =>
      intro W1 H1 e1 rm1 p vs h0 hφ hI hp r
      have le : Le W1 ⟨upd W1.I p (.lst vs), W1.φ⟩ := ⟨fun b u e => upd_ne' hI e, [], by simp⟩
      refine h ⟨upd W1.I p (.lst vs), W1.φ⟩ H1 ⟨e1.I.trans le.I, e1.φ, e1.fr, e1.al, fun b u e => ?_⟩ ⟨fun b u e => ?_, rm1.len, rm1.nd, rm1.al, fun i a c q1 q2 q3 => ?_, fun i a c q1 q2 q3 => ?_⟩ _ (.lst upd_same (r.mono le))
      · by_cases hb : b = p
        · subst hb; exact .inr (.inl h0)
        · have e' : upd W1.I p (.lst vs) b = some u := e
          rw [upd_ne hb] at e'; exact e1.nw b u e'
      · by_cases hb : b = p
        · subst hb
          have e' : upd W1.I b (.lst vs) b = some u := e
          rw [upd_same] at e'; rw [hp]; exact e'
        · have e' : upd W1.I p (.lst vs) b = some u := e
          rw [upd_ne hb] at e'; exact rm1.sub b u e'
      · obtain ⟨u, e, q⟩ := rm1.obj i a c q1 q2 q3
        exact ⟨u, e, q.mono le⟩
      · have : a ≠ p := fun z => hφ (z ▸ List.mem_of_getElem? q1)
        show upd W1.I p _ a = none
        rw [upd_ne this]; exact rm1.off i a c q1 q2 q3
    | exn c m1 => exact h
    | bad => exact h⟩
theorem new_imp {σ : L2.St} {H : Hp} {Q : VK} (h : tE X.K X.mg EX (sNew ds) σ H Q) : tL X.K X.mg EX ds σ H Q :=
  let ⟨W, ρ, m, rs, rm, h⟩ := h; ⟨W, ρ, m, rs, rm, by
    unfold sNew at h
    generalize ds ρ m = r at h ⊢
    cases r with
    | ok xs m1 =>
      intro W1 H1 e1 rm1 p vs h0 hφ hI hp r
      obtain ⟨le, rm2⟩ := adopt (c := .lst xs) rm1 hp hI hφ ⟨vs, rfl, r⟩
      obtain ⟨ψ, eψ, nψ⟩ := e1.φ
      have e2 : Ex W H ⟨W1.I, W1.φ ++ [p]⟩ H1 := ⟨e1.I, ⟨ψ ++ [p], by rw [eψ, List.append_assoc], fun a ha => by
        rcases List.mem_append.mp ha with z | z
        · exact nψ a z
        · simp at z; subst z; exact h0⟩, e1.fr, e1.al, e1.nw⟩
      exact h _ _ e2 rm2 _ (.ref (by rw [← rm1.len]; simp))
    | exn c m1 => exact h
    | bad => exact h⟩
theorem de_frz (h : DL X EX e ds) : DE X EX e (sFrz ds) := PE.imp h fun _ _ _ => frz_imp
theorem de_new (h : DL X EX e ds) : DE X EX e (sNew ds) := PE.imp h fun _ _ _ => new_imp
def asSeq : D → M → Option (List D)
  | .tup xs, _ => some xs
  | .lst xs, _ => some xs
  | .frz xs, _ => some xs
  | .ref n, m => match m[n]? with
    | some (.lst xs) => some xs
    | _ => none
  | _, _ => none
def asList : D → M → Option (List D)
  | .lst xs, _ => some xs
  | .frz xs, _ => some xs
  | .ref n, m => match m[n]? with
    | some (.lst xs) => some xs
    | _ => none
  | _, _ => none
def asLst : D → M → Option (List D)
  | .lst xs, _ => some xs
  | .ref n, m => match m[n]? with
    | some (.lst xs) => some xs
    | _ => none
  | _, _ => none
theorem list_of {W : Wd} {H : Hp} {m : M} {v : V} {x : D} {xs : List D} (rm : RM X.K X.mg W H m) (r : RD X.K W v x) (h : asList x m = some xs) : ∃ a vs, v = .ref a ∧ SqL X.K H a vs ∧ RDs X.K W vs xs := by
  cases r with
  | lst q r => cases h; exact ⟨_, _, rfl, .inl (.inl (rm.sub _ _ q)), r⟩
  | frz q r => cases h; exact ⟨_, _, rfl, rm.sub.seq q, r⟩
  | ref q =>
    dsimp only [asList] at h
    split at h
    · rename_i ys hy
      cases h
      obtain ⟨o, ho, ⟨vs, rfl, r⟩, _⟩ := rm.get q hy (by simp)
      exact ⟨_, _, rfl, .inl (.inl ho), r⟩
    · cases h
  | _ => cases h
theorem lst_of {W : Wd} {H : Hp} {m : M} {v : V} {x : D} {xs : List D} (rm : RM X.K X.mg W H m) (r : RD X.K W v x) (h : asLst x m = some xs) : ∃ a vs, v = .ref a ∧ H a = some (.lst vs) ∧ RDs X.K W vs xs := by
  cases r with
  | lst q r => cases h; exact ⟨_, _, rfl, rm.sub _ _ q, r⟩
  | ref q =>
    dsimp only [asLst] at h
    split at h
    · rename_i ys hy
      cases h
      obtain ⟨o, ho, ⟨vs, rfl, r⟩, _⟩ := rm.get q hy (by simp)
      exact ⟨_, _, rfl, ho, r⟩
    · cases h
  | _ => cases h
theorem seq_of {W : Wd} {H : Hp} {m : M} {v : V} {x : D} {xs : List D} (rm : RM X.K X.mg W H m) (r : RD X.K W v x) (h : asSeq x m = some xs) : ∃ a vs, v = .ref a ∧ (SqL X.K H a vs ∨ SqT X.K H a vs) ∧ RDs X.K W vs xs := by
  cases r with
  | tup q n r => cases h; exact ⟨_, _, rfl, .inr (same_T rm.sub q), r⟩
  | lst q r => cases h; exact ⟨_, _, rfl, .inl (.inl (.inl (rm.sub _ _ q))), r⟩
  | frz q r => cases h; exact ⟨_, _, rfl, .inl (rm.sub.seq q), r⟩
  | ref q =>
    dsimp only [asSeq] at h
    split at h
    · rename_i ys hy
      cases h
      obtain ⟨o, ho, ⟨vs, rfl, r⟩, _⟩ := rm.get q hy (by simp)
      exact ⟨_, _, rfl, .inl (.inl (.inl ho)), r⟩
    · cases h
  | _ => cases h
theorem atI_rel {K : PySem.W.Frag} {W : Wd} {vs : List V} {ds : List D} (r : RDs K W vs ds) {i : Int} {d : D} (h : atI ds i = some d) : ∃ v, atI vs i = some v ∧ RD K W v d := by
  unfold atI at h ⊢
  rw [r.length]
  cases q : ixN ds.length i with
  | none => rw [q] at h; cases h
  | some j =>
    rw [q] at h
    exact r.get h
def gIx : G2 := fun x y m => match x, y with
  | .str z, .int i => if z.length ≤ big then match atI z.cps.toList i with
    | some c => .ok (.str ⟨#[c]⟩) m
    | none => .bad
    else .bad
  | x, .int i => match asSeq x m with
    | some xs => match atI xs i with
      | some d => .ok d m
      | none => .bad
    | none => .bad
  | _, _ => .bad
theorem gIx_ok {EX : Str → Hp → Prop} {W : Wd} {H : Hp} {m : M} {vx vy : V} {x y : D} {Q : VK} (rm : RM X.K X.mg W H m) (rx : RD X.K W vx x) (ry : RD X.K W vy y) (hp : post X.K X.mg W H (gIx x y m) (fun z W' H' _ => ∀ v, RD X.K W' v z → Q v H') EX) : rIx X.K vx vy H Q := by
  unfold gIx at hp
  split at hp
  · rename_i z i
    cases rx; cases ry
    split at hp
    · split at hp
      · rename_i hz _ c hc
        exact .inr (.inr ⟨z, i, c, rfl, rfl, by rw [big_eq]; exact hz, hc, post_ok hp rm _ (.str _)⟩)
      · exact hp.elim
    · exact hp.elim
  · rename_i x' i _
    cases ry
    split at hp
    · rename_i xs hx
      split at hp
      · rename_i d hd
        obtain ⟨a, vs, rfl, hs, r⟩ := seq_of rm rx hx
        obtain ⟨v, hv, rv⟩ := atI_rel r hd
        rcases hs with hs | hs
        · exact .inl ⟨a, vs, i, v, rfl, rfl, hs, hv, post_ok hp rm _ rv⟩
        · exact .inr (.inl ⟨a, vs, i, v, rfl, rfl, hs, hv, post_ok hp rm _ rv⟩)
      · exact hp.elim
    · exact hp.elim
  · exact hp.elim
theorem de_ix (ha : DE X EX a da) (hb : DE X EX b db) (hs : PlainIx b := by exact fun _ _ => rfl) : DE X EX (.Subscript a b pos) (sBin gIx da db) :=
  PE.imp (pe_ix ix_seq ha hb hs) fun σ H Q h => two (ta := tE X.K X.mg EX da) (fun _ _ _ _ _ _ _ _ _ rm rx ry hp => gIx_ok rm rx ry hp) h
abbrev SO := En → M → R (Option Int)
def tO (K : PySem.W.Frag) (mg : Str → Option Value) (EX : EXT) (d : SO) : TO := fun σ H Q => ∃ W ρ m, RS K W σ ρ ∧ RM K mg W H m ∧ post K mg W H (d ρ m) (fun o _ H' _ => Q o H') (EX σ)
def DO (X : Cx) (EX : EXT) (e : Option Expr) (d : SO) : Prop := PO X e (tO X.K X.mg EX d)
def sNo : SO := fun _ m => .ok none m
def sSome (d : SE) : SO := fun ρ m => (d ρ m).bind fun x m => match x with
  | .int i => .ok (some i) m
  | _ => .bad
theorem PO.imp {e : Option Expr} {t t' : TO} (h : PO X e t) (hi : ∀ σ H Q, t' σ H Q → t σ H Q) : PO X e t' := ⟨fun pins s σ H Q I q => h.run pins s σ H Q I (hi σ H Q q)⟩
theorem do_none : DO X EX none sNo := PO.imp po_none fun σ H Q ⟨W, ρ, m, rs, rm, h⟩ => post_ok h rm
theorem do_some (h : DE X EX e d) : DO X EX (some e) (sSome d) :=
  PO.imp (po_some h) fun σ H Q ⟨W, ρ, m, rs, rm, h⟩ => ⟨W, ρ, m, rs, rm, post_mono (post_bind h) fun x W1 H1 m1 e1 rm1 h1 v rv => by
    cases x with
    | int i => cases rv; exact ⟨i, rfl, post_ok h1 rm1⟩
    | _ => exact h1.elim⟩
def cutD (xs : List D) (lo hi : Option Int) : List D := (xs.drop (HT.sIx xs.length 0 lo)).take (HT.sIx xs.length xs.length hi - HT.sIx xs.length 0 lo)
theorem cut_rel {K : PySem.W.Frag} {W : Wd} {vs : List V} {ds : List D} (r : RDs K W vs ds) (lo hi : Option Int) : RDs K W (cutV vs lo hi) (cutD ds lo hi) := by
  unfold cutV cutD
  rw [r.length]
  exact (r.drop _).take _
def rSlS (K : PySem.W.Frag) : V → Option Int → Option Int → Hp → VK → Prop := fun x lo hi H Q => ∃ a xs, x = .ref a ∧ SqT K H a xs ∧
  (HT.sIx xs.length 0 lo = 0 ∧ HT.sIx xs.length xs.length hi = xs.length → Q (.ref a) H) ∧
  (¬ (HT.sIx xs.length 0 lo = 0 ∧ HT.sIx xs.length xs.length hi = xs.length) → ∀ p o, H p = none → o.dict = none → Q (.ref p) (upd H p (.frz o (.tup (cutV xs lo hi)))))
theorem sl_tupS : SlR X (rSlS X.K) := by
  intro pins s σ H x v vl vu lo hi sl Q I rx hsl pl pu ⟨a, xs, hxa, hx, q1, q2⟩
  subst hxa
  cases rx
  obtain ⟨its, r, ht, hz⟩ := I.tuple hx
  have hlen : its.toArray.size = xs.length := by rw [List.size_toArray, ← r.length]
  refine ⟨"tuple", _, PyProof.Rows.slot_tuple_getitem.lookup, ht.typeIs, ?_⟩
  by_cases hw : HT.sIx xs.length 0 lo = 0 ∧ HT.sIx xs.length xs.length hi = xs.length
  · exact getItem_tuple_whole ht hsl pl pu (by rw [hlen]; exact hw) ⟨.ref _, H, I, rfl, q1 hw⟩
  · refine HT.getItem_tuple_cut ht hsl pl pu (by rw [hlen]; exact hw) ?_ (by rw [hlen]; exact hz)
    have r' : Vals (cutV xs lo hi) ((its.drop (HT.sIx its.toArray.size 0 lo)).take (HT.sIx its.toArray.size its.toArray.size hi - HT.sIx its.toArray.size 0 lo)) := by
      unfold cutV
      rw [hlen]
      exact Vals.take _ (Vals.drop _ r)
    have J := I.laid (o := .frz _ (.tup (cutV xs lo hi))) (t' := s.toks) (fun _ _ e => Heap.get?_push_of_some _ e) (Nat.le_refl _) ⟨Heap.get?_push_size _ rfl, Nat.le_trans (cutV_length xs lo hi) hz, _, r', IsTup.new _ _⟩
    exact ⟨.ref _, _, J, rfl, q2 hw _ _ I.fresh rfl⟩
def sCutT (da : SE) (dl dh : SO) : SE := fun ρ m => (da ρ m).bind fun x m => (dl ρ m).bind fun lo m => (dh ρ m).bind fun hi m => match x with
  | .tup xs => .ok (.tup (cutD xs lo hi)) m
  | _ => .bad
theorem cutD_whole {xs : List D} {lo hi : Option Int} (h : HT.sIx xs.length 0 lo = 0 ∧ HT.sIx xs.length xs.length hi = xs.length) : cutD xs lo hi = xs := by
  unfold cutD
  rw [h.1, h.2]
  simp
theorem de_cut {lo hi : Option Expr} {dl dh : SO} {p2 : Pos} (ha : DE X EX a da) (hl : DO X EX lo dl) (hh : DO X EX hi dh) : DE X EX (.Subscript a (.Slice lo hi none p2) pos) (sCutT da dl dh) :=
  PE.imp (pe_slice sl_tupS ha hl hh) fun σ H Q ⟨W, ρ, m, rs, rm, h⟩ => ⟨W, ρ, m, rs, rm, post_mono (post_bind h) fun x W1 H1 m1 e1 rm1 h1 v rv =>
    ⟨W1, ρ, m1, rs.mono e1.le, rm1, post_mono (post_bind h1) fun l W2 H2 m2 e2 rm2 h2 =>
      ⟨W2, ρ, m2, rs.mono (e1.trans e2).le, rm2, post_mono (post_bind h2) fun u W3 H3 m3 e3 rm3 h3 => by
        cases x with
        | tup xs =>
          have rv3 := rv.mono (e2.trans e3).le
          cases rv3 with
          | tup hT hN r =>
            refine ⟨_, _, rfl, same_T rm3.sub hT, fun hw => ?_, fun hw p o hp ho => ?_⟩
            · refine post_ok h3 rm3 _ ?_
              rw [cutD_whole (by rw [← r.length]; exact hw)]
              exact .tup hT hN r
            · obtain ⟨e4, rm4, r4⟩ := new_tup rm3 hp ho (cut_rel r l u)
              exact h3 _ _ e4 rm4 _ r4
        | _ => exact h3.elim⟩⟩⟩
def sRev (da : SE) : SA := fun ρ m => (da ρ m).bind fun x m => match asList x m with
  | some xs => .ok xs.reverse m
  | none => .bad
theorem dl_rev {k : Nat} {p1 p2 p3 : Pos} (ha : DE X EX a da) : DL X EX (.Subscript a (.Slice none none (some (.UnaryOp .USub (.Constant (.int 1) k p1) p2)) p3) pos) (sRev da) :=
  PE.imp (pe_revL ha) fun σ H Q ⟨W, ρ, m, rs, rm, h⟩ => ⟨W, ρ, m, rs, rm, post_mono (post_bind h) fun x W1 H1 m1 e1 rm1 h1 v rv => by
    split at h1
    · rename_i xs hx
      obtain ⟨a, vs, rfl, hs, r⟩ := list_of rm1 rv hx
      exact ⟨a, vs, rfl, hs, fun p hp => fresh_post e1 rm1 hp r.reverse h1⟩
    · exact h1.elim⟩
def sCatL (da db : SE) : SA := fun ρ m => (da ρ m).bind fun x m => (db ρ m).bind fun y m => match asLst x m, asLst y m with
  | some xs, some ys => if xs.length + ys.length ≤ big then .ok (xs ++ ys) m else .bad
  | _, _ => .bad
theorem dl_cat (ha : DE X EX a da) (hb : DE X EX b db) : DL X EX (.BinOp a .Add b pos) (sCatL da db) :=
  PE.imp (pe_op op_cat ha hb) fun σ H Q ⟨W, ρ, m, rs, rm, h⟩ => ⟨W, ρ, m, rs, rm, post_mono (post_bind h) fun x W1 H1 m1 e1 rm1 h1 v rv =>
    ⟨W1, ρ, m1, rs.mono e1.le, rm1, post_mono (post_bind h1) fun y W2 H2 m2 e2 rm2 h2 u ru => by
      split at h2
      · rename_i xs ys hx hy
        split at h2
        · rename_i hz
          obtain ⟨p, vs, rfl, h5, r5⟩ := lst_of rm2 (rv.mono e2.le) hx
          obtain ⟨q, us, rfl, h6, r6⟩ := lst_of rm2 ru hy
          exact ⟨p, q, vs, us, rfl, rfl, h5, h6, by rw [r5.length, r6.length, big_eq]; exact hz, fun l hl => fresh_post (e1.trans e2) rm2 hl (r5.append r6) h2⟩
        · exact h2.elim
      · exact h2.elim⟩⟩
def repD (xs : List D) (k : Int) : List D := (List.replicate k.toNat xs).flatten
end
section
variable {X : Cx}
def rCatS (K : PySem.W.Frag) : R2 := fun x y H Q => ∃ a b xs ys, x = .ref a ∧ y = .ref b ∧ SqT K H a xs ∧ SqT K H b ys ∧ xs.length + ys.length ≤ sizeLine ∧
  (xs = [] → Q (.ref b) H) ∧ (xs ≠ [] → ys = [] → Q (.ref a) H) ∧ (xs ≠ [] → ys ≠ [] → ∀ p o, H p = none → o.dict = none → Q (.ref p) (upd H p (.frz o (.tup (xs ++ ys)))))
theorem op_catS : OpR X (binaryOp .Add) (rCatS X.K) := by
  intro pins s σ H x y v u Q I rx ry ⟨a, b, xs, ys, hxa, hyb, ha, hb, hz, q0, q1, q2⟩
  subst hxa; subst hyb
  cases rx; cases ry
  obtain ⟨its, r1, p1, z1⟩ := I.tuple ha
  obtain ⟨jts, r2, p2, z2⟩ := I.tuple hb
  by_cases hx : xs = []
  · subst hx
    cases r1
    exact cat_tup0 p1 p2 ⟨.ref _, H, I, rfl, q0 rfl⟩
  · have hi : its ≠ [] := fun e => hx (r1.nil_iff.mp e)
    refine HT.cat_tup p1 p2 hi (fun e => ⟨.ref _, H, I, rfl, q1 hx (r2.nil_iff.mp e)⟩) (fun e => ?_) (by rw [← r1.length, ← r2.length]; exact hz)
    have J := I.laid (o := .frz _ (.tup (xs ++ ys))) (t' := s.toks) (fun _ _ e => Heap.get?_push_of_some _ e) (Nat.le_refl _) ⟨Heap.get?_push_size _ rfl, by rw [List.length_append]; exact hz, _, r1.append r2, IsTup.new _ _⟩
    exact ⟨.ref _, _, J, rfl, q2 hx (fun z => e (r2.nil_iff.mpr z)) _ _ I.fresh rfl⟩
def gCatT : G2 := fun x y m => match x, y with
  | .tup xs, .tup ys => if xs.length + ys.length ≤ big then .ok (.tup (xs ++ ys)) m else .bad
  | _, _ => .bad
theorem o_catT : Op2 X (binaryOp .Add) gCatT := ⟨_, op_catS, fun EX W H m vx vy x y Q rm rx ry hp => by
  unfold gCatT at hp
  split at hp
  · rename_i xs ys
    split at hp
    · rename_i hz
      cases rx with
      | tup h1 n1 r1 =>
        cases ry with
        | tup h2 n2 r2 =>
          refine ⟨_, _, _, _, rfl, rfl, same_T rm.sub h1, same_T rm.sub h2, by rw [r1.length, r2.length, big_eq]; exact hz, fun e => ?_, fun e1 e => ?_, fun e1 e2 p o hp' ho => ?_⟩
          · subst e; cases r1
            exact post_ok hp rm _ (.tup h2 n2 r2)
          · subst e; cases r2
            exact post_ok hp rm _ (by rw [List.append_nil]; exact .tup h1 n1 r1)
          · obtain ⟨e4, rm4, r4⟩ := new_tup rm hp' ho (r1.append r2)
            exact hp _ _ e4 rm4 _ r4
    · exact hp.elim
  · exact hp.elim⟩
theorem tuple_mul_same (l : Addr) (items : Array Value) (n : Nat) (sl : Array (Option Value)) (dd : Option Addr) (x : Int) (u : Tok) (c0 : (decide (x < -(2 ^ 63)) || decide (x ≥ 2 ^ 63)) = false) (c1 : (items.isEmpty || x == 1) = true) :
    Meets (Builtin.«tuple.__mul__» ⟨[.ref l, .int x u], []⟩) (fun _ R s => s.heap.get? l = some { cls := .type "tuple", dict := dd, data := .seq items n, slots := sl } ∧ R (.ok (.ret (.ref l))) s) :=
  .of_wp fun prog w A R s h => by
    obtain ⟨hp, g, d, tk, os⟩ := s
    obtain ⟨hl, h⟩ := h
    have f1 := AutoSeq1.idx_int
    have hT : Shared.TypeIs ⟨hp, g, d, tk, os⟩ (.ref l) "tuple" := ⟨_, hl, rfl⟩
    wp_walk using wpAny_loadPart' hl, wpAny_typeOf hT
    repeat (first
      | (refine wpAny_ite_false (decide_eq_false (by rw [c0]; exact Bool.false_ne_true)) ?_; wp_walk using wpAny_loadPart' hl, wpAny_typeOf hT)
      | (refine wpAny_ite_true (by rw [c1]; rfl) ?_; wp_walk using wpAny_loadPart' hl, wpAny_typeOf hT))
    exact ⟨_, rfl, h⟩
theorem tuple_mul_none (l : Addr) (items : Array Value) (n : Nat) (sl : Array (Option Value)) (dd : Option Addr) (x : Int) (u : Tok) (c0 : (decide (x < -(2 ^ 63)) || decide (x ≥ 2 ^ 63)) = false) (c1 : (items.isEmpty || x == 1) = false)
    (c2 : (decide (x ≤ 0) || items.isEmpty) = true) :
    Meets (Builtin.«tuple.__mul__» ⟨[.ref l, .int x u], []⟩) (fun _ R s => s.heap.get? l = some { cls := .type "tuple", dict := dd, data := .seq items n, slots := sl } ∧
      R (.ok (.ret (.ref s.heap.objs.size))) { s with heap := s.heap.push { cls := .type "tuple", data := .seq #[] }, toks := s.toks }) :=
  .of_wp fun prog w A R s h => by
    obtain ⟨hp, g, d, tk, os⟩ := s
    obtain ⟨hl, h⟩ := h
    have f1 := AutoSeq1.idx_int
    have hT : Shared.TypeIs ⟨hp, g, d, tk, os⟩ (.ref l) "tuple" := ⟨_, hl, rfl⟩
    wp_walk using wpAny_loadPart' hl, wpAny_typeOf hT
    repeat (first
      | (refine wpAny_ite_false (decide_eq_false (by rw [c0]; exact Bool.false_ne_true)) ?_; wp_walk using wpAny_loadPart' hl, wpAny_typeOf hT)
      | (refine wpAny_ite_false (decide_eq_false (by rw [c1]; exact Bool.false_ne_true)) ?_; wp_walk using wpAny_loadPart' hl, wpAny_typeOf hT)
      | (refine wpAny_ite_true (by rw [c2]; rfl) ?_; wp_walk using wpAny_loadPart' hl, wpAny_typeOf hT))
    exact ⟨_, rfl, h⟩
def rRepS (K : PySem.W.Frag) : R2 := fun x y H Q => ∃ l k xs, x = .ref l ∧ y = .int k ∧ SqT K H l xs ∧ (-(2 ^ 63) ≤ k ∧ k < 2 ^ 63) ∧ xs.length * k.toNat ≤ sizeLine ∧
  ((xs = [] ∨ k = 1) → Q (.ref l) H) ∧ (¬ (xs = [] ∨ k = 1) → ∀ p o, H p = none → o.dict = none → Q (.ref p) (upd H p (.frz o (.tup (List.replicate k.toNat xs).flatten))))
theorem op_repS : OpR X (binaryOp .Mult) (rRepS X.K) := by
  intro pins s σ H x y v u Q I rx ry ⟨l, k, xs, hxa, hyk, hT, ⟨b1, b2⟩, hz, q1, q2⟩
  subst hxa; subst hyk
  cases rx
  obtain ⟨t, rfl⟩ := ry
  obtain ⟨its, r, ⟨⟨cls, dd, data, sl⟩, ho, hc, n, hd⟩, hs⟩ := I.tuple hT
  simp only at hc hd
  subst hc hd
  have hle : its.toArray.size = xs.length := by rw [List.size_toArray, ← r.length]
  have c0 : (decide (k < -(2 ^ 63)) || decide (k ≥ 2 ^ 63)) = false := by
    rw [decide_eq_false (by omega), decide_eq_false (by omega)]; rfl
  have ty := fun s' => typeIs_int s' k t
  have road := fun {Q' : Value → Shared → Prop} (hc : wpAny (model X.prog X.w) X.A (call (.builtin "tuple.__mul__") [.ref l, .int k t]) Q' X.xe s) =>
    wpAny_binaryOp_repeat_ref (s := s) (A := X.A) (E := X.xe) (M := model X.prog X.w) (a := .ref l) (n := .int k t) (T := "tuple") (U := "int") (Q := Q') (by decide) ⟨_, ho, rfl⟩ ty noFill_tuple_mul F.fills_int_mul F.slot_int_rmul repeat_tuple F.slot_int_index.lookup
      (call_meets F.slot_int_rmul (ty s) F.entry_int_rmul (F.args_int_rmul_2 _ _) (int_rmul_tuple k t l its.toArray n dd sl) ⟨ho, rfl, ⟨_, ho, rfl⟩, hc⟩)
  have emp : its.toArray.isEmpty = xs.isEmpty := by
    cases r <;> rfl
  by_cases h1 : xs = [] ∨ k = 1
  · refine road (call_meets F.slot_tuple_mul ⟨_, ho, rfl⟩ F.entry_tuple_mul (F.args_tuple_mul_2 _ _) (tuple_mul_same l its.toArray n sl dd k t c0 ?_) ⟨ho, .ref _, H, I, rfl, q1 h1⟩)
    rw [emp]
    rcases h1 with h1 | h1
    · subst h1; rfl
    · subst h1; simp
  · have c1 : (its.toArray.isEmpty || k == 1) = false := by
      rw [emp]
      cases xs with
      | nil => exact absurd (.inl rfl) h1
      | cons a b => simpa using fun e => h1 (.inr e)
    have q2 := q2 h1
    by_cases h2 : k ≤ 0
    · have e0 : k.toNat = 0 := by omega
      refine road (call_meets F.slot_tuple_mul ⟨_, ho, rfl⟩ F.entry_tuple_mul (F.args_tuple_mul_2 _ _) (tuple_mul_none l its.toArray n sl dd k t c0 c1 (by rw [decide_eq_true h2]; rfl)) ⟨ho, ?_⟩)
      rw [e0] at q2
      have J := I.laid (o := .frz _ (.tup [])) (t' := s.toks) (fun _ _ e => Heap.get?_push_of_some _ e) (Nat.le_refl _) ⟨Heap.get?_push_size _ rfl, Nat.zero_le _, [], .nil, IsTup.new _ _⟩
      exact ⟨.ref _, _, J, rfl, q2 _ _ I.fresh rfl⟩
    · have c2 : (decide (k ≤ 0) || its.toArray.isEmpty) = false := by
        rw [decide_eq_false h2, Bool.false_or]
        exact (Bool.or_eq_false_iff.mp c1).1
      have hsz : ((its.toArray.size : Nat) : Int) * k = ((xs.length * k.toNat : Nat) : Int) := by
        rw [hle, Int.natCast_mul, Int.toNat_of_nonneg (by omega)]
      have hz' : xs.length * k.toNat ≤ 16777216 := by rw [← sizeLine_eq]; exact hz
      have flen : (List.replicate k.toNat its).flatten.length ≤ sizeLine := by
        rw [PyProof.Rows.lm_len_rep_flat, ← r.length, Nat.mul_comm]; exact hz
      refine road (call_meets F.slot_tuple_mul ⟨_, ho, rfl⟩ F.entry_tuple_mul (F.args_tuple_mul_2 _ _) (tuple_mulW l its.toArray n dd sl k t c0 c1 c2 ?_ ?_ (by rw [size_rep, List.size_toArray]; exact flen)) ⟨ho, ?_⟩)
      · rw [hsz]; omega
      · unfold Builtin.Tuple.tupleTooMany
        rw [sizeLine_eq, hsz]
        exact decide_eq_false (by omega)
      · rw [size_rep]
        have J := I.laid (o := .frz _ (.tup (List.replicate k.toNat xs).flatten)) (t' := s.toks) (fun _ _ e => Heap.get?_push_of_some _ e) (Nat.le_refl _)
          ⟨Heap.get?_push_size _ rfl, by rw [PyProof.Rows.lm_len_rep_flat, Nat.mul_comm]; exact hz, _, r.rep k.toNat, IsTup.new _ _⟩
        exact ⟨.ref _, _, J, rfl, q2 _ _ I.fresh rfl⟩
def gRepT : G2 := fun x y m => match x, y with
  | .tup xs, .int k => if (-(2 ^ 63) ≤ k ∧ k < 2 ^ 63) ∧ xs.length * k.toNat ≤ big then .ok (.tup (repD xs k)) m else .bad
  | _, _ => .bad
theorem o_repT : Op2 X (binaryOp .Mult) gRepT := ⟨_, op_repS, fun EX W H m vx vy x y Q rm rx ry hp => by
  unfold gRepT at hp
  split at hp
  · rename_i xs k
    split at hp
    · rename_i hz
      cases ry
      cases rx with
      | tup h1 n1 r1 =>
        refine ⟨_, k, _, rfl, rfl, same_T rm.sub h1, hz.1, by rw [r1.length, big_eq]; exact hz.2, fun e => ?_, fun _ p o hp' ho => ?_⟩
        · refine post_ok hp rm _ ?_
          have : repD xs k = xs := by
            unfold repD
            rcases e with e | e
            · subst e; cases r1; simp
            · subst e; simp
          rw [this]
          exact .tup h1 n1 r1
        · obtain ⟨e4, rm4, r4⟩ := new_tup rm hp' ho (r1.rep k.toNat)
          exact hp _ _ e4 rm4 _ r4
    · exact hp.elim
  · exact hp.elim⟩
end
end Vi
namespace Vi
open PySem PySem.Spec PyProof.Rows L2
inductive O where
  | nx (ρ : En) (m : M) | bk (ρ : En) (m : M) | ct (ρ : En) (m : M) | rt (x : D) (m : M) | exn (c : Str) (m : M) | bad
abbrev SS := En → M → O
def postS (K : PySem.W.Frag) (mg : Str → Option Value) (W : Wd) (H : Hp) (o : O) (Dn : Ends) (EX : EXT) : Prop :=
  match o with
  | .nx ρ m => ∀ W' H' σ, Ex W H W' H' → RM K mg W' H' m → RS K W' σ ρ → Dn.nx σ H'
  | .bk ρ m => ∀ W' H' σ, Ex W H W' H' → RM K mg W' H' m → RS K W' σ ρ → Dn.bk σ H'
  | .ct ρ m => ∀ W' H' σ, Ex W H W' H' → RM K mg W' H' m → RS K W' σ ρ → Dn.ct σ H'
  | .rt x m => ∀ W' H' v, Ex W H W' H' → RM K mg W' H' m → RD K W' v x → Dn.rt v H'
  | .exn c m => ∀ W' H' σ, Ex W H W' H' → RM K mg W' H' m → EX σ c H'
  | .bad => False
def tS (K : PySem.W.Frag) (mg : Str → Option Value) (EX : EXT) (d : SS) : TS := fun Dn σ H => ∃ W ρ m, RS K W σ ρ ∧ RM K mg W H m ∧ postS K mg W H (d ρ m) Dn EX
abbrev DS (X : Cx) (EX : EXT) (s : Stmt) (d : SS) : Prop := PS X s (tS X.K X.mg EX d)
abbrev DSs (X : Cx) (EX : EXT) (s : List Stmt) (d : SS) : Prop := PSs X s (tS X.K X.mg EX d)
def O.then (o : O) (f : En → M → O) : O := match o with
  | .nx ρ m => f ρ m
  | o => o
def R.toO {α : Type} (r : R α) (f : α → M → O) : O := match r with
  | .ok x m => f x m
  | .exn c m => .exn c m
  | .bad => .bad
@[simp] theorem toO_ok {α : Type} (x : α) (m : M) (f : α → M → O) : (R.ok x m).toO f = f x m := rfl
@[simp] theorem toO_exn {α : Type} (c : Str) (m : M) (f : α → M → O) : (R.exn c m : R α).toO f = .exn c m := rfl
@[simp] theorem toO_bad {α : Type} (f : α → M → O) : (R.bad : R α).toO f = .bad := rfl
@[simp] theorem then_nx (ρ : En) (m : M) (f : En → M → O) : (O.nx ρ m).then f = f ρ m := rfl
@[simp] theorem then_rt (x : D) (m : M) (f : En → M → O) : (O.rt x m).then f = .rt x m := rfl
@[simp] theorem then_bk (ρ : En) (m : M) (f : En → M → O) : (O.bk ρ m).then f = .bk ρ m := rfl
@[simp] theorem then_ct (ρ : En) (m : M) (f : En → M → O) : (O.ct ρ m).then f = .ct ρ m := rfl
@[simp] theorem then_exn (c : Str) (m : M) (f : En → M → O) : (O.exn c m).then f = .exn c m := rfl
section
variable {K : PySem.W.Frag} {mg : Str → Option Value} {W W1 : Wd} {H H1 : Hp} {EX : EXT} {Dn : Ends} {α : Type}
theorem postS_shift {o : O} (h : postS K mg W H o Dn EX) (e : Ex W H W1 H1) : postS K mg W1 H1 o Dn EX := by
  cases o with
  | nx ρ m => exact fun W2 H2 σ e2 => h W2 H2 σ (e.trans e2)
  | bk ρ m => exact fun W2 H2 σ e2 => h W2 H2 σ (e.trans e2)
  | ct ρ m => exact fun W2 H2 σ e2 => h W2 H2 σ (e.trans e2)
  | rt x m => exact fun W2 H2 v e2 => h W2 H2 v (e.trans e2)
  | exn c m => exact fun W2 H2 σ e2 => h W2 H2 σ (e.trans e2)
  | bad => exact h
theorem post_toO {σ : L2.St} {r : R α} {f : α → M → O} (h : postS K mg W H (r.toO f) Dn EX) : post K mg W H r (fun x W1 H1 m1 => postS K mg W1 H1 (f x m1) Dn EX) (EX σ) := by
  cases r with
  | ok x m => exact fun W1 H1 e rm => postS_shift h e
  | exn c m => exact fun W1 H1 e rm => h W1 H1 σ e rm
  | bad => exact h
theorem post_toA {r : R α} {f : α → M → O} (h : postS K mg W H (r.toO f) Dn EX) : post K mg W H r (fun x W1 H1 m1 => postS K mg W1 H1 (f x m1) Dn EX) (fun c H' => ∀ σ, EX σ c H') := by
  cases r with
  | ok x m => exact fun W1 H1 e rm => postS_shift h e
  | exn c m => exact fun W1 H1 e rm σ => h W1 H1 σ e rm
  | bad => exact h
theorem post_ex {σ : L2.St} {r : R α} {Q : α → Wd → Hp → M → Prop} (h : post K mg W H r Q (fun c H' => ∀ σ, EX σ c H')) : post K mg W H r Q (EX σ) := by
  cases r with
  | ok x m => exact h
  | exn c m => exact fun W1 H1 e rm => h W1 H1 e rm σ
  | bad => exact h
theorem postS_then {o : O} {f : En → M → O} (h : postS K mg W H (o.then f) Dn EX) :
    postS K mg W H o { Dn with nx := fun σ H' => ∃ W1 ρ m, RS K W1 σ ρ ∧ RM K mg W1 H' m ∧ postS K mg W1 H' (f ρ m) Dn EX } EX := by
  cases o with
  | nx ρ m => exact fun W1 H1 σ e rm rs => ⟨W1, ρ, m, rs, rm, postS_shift h e⟩
  | bk ρ m => exact h
  | ct ρ m => exact h
  | rt x m => exact h
  | exn c m => exact h
  | bad => exact h
end
def sPass : SS := fun ρ m => .nx ρ m
def sSeq (a b : SS) : SS := fun ρ m => (a ρ m).then b
def sDrop (d : SE) : SS := fun ρ m => (d ρ m).toO fun _ m => .nx ρ m
def sRet (d : SE) : SS := fun ρ m => (d ρ m).toO fun x m => .rt x m
def sIfS (t : SB) (a b : SS) : SS := fun ρ m => (t ρ m).toO fun k m => if k = true then a ρ m else b ρ m
section
variable {X : Cx} {EX : EXT} {st : Stmt} {rest : List Stmt} {a b : SS} {e : Expr} {d : SE} {pos : Pos} {t : SB}
theorem dss_nil : DSs X EX [] sPass := PSs.imp pss_nil fun D σ H ⟨W, ρ, m, rs, rm, h⟩ => h W H σ Ex.refl rm rs
theorem dss_one (h : DS X EX st a) : DSs X EX [st] a := pss_one h
theorem dss_cons (h : DS X EX st a) (hr : DSs X EX rest b) : DSs X EX (st :: rest) (sSeq a b) :=
  PSs.imp (pss_cons h hr) fun D σ H ⟨W, ρ, m, rs, rm, h⟩ => ⟨W, ρ, m, rs, rm, postS_then h⟩
theorem ds_expr (he : DE X EX e d) (hs : swapsWith e none pos.line X.env = pure false := by rfl) : DS X EX (.Expr e pos) (sDrop d) :=
  PS.imp (ps_expr he hs) fun D σ H ⟨W, ρ, m, rs, rm, h⟩ => ⟨W, ρ, m, rs, rm, post_mono (post_toO h) fun x W1 H1 m1 e1 rm1 h1 v rv => h1 W1 H1 σ Ex.refl rm1 (rs.mono e1.le)⟩
theorem ds_ret (he : DE X EX e d) : DS X EX (.Return (some e) pos) (sRet d) :=
  PS.imp (ps_ret he) fun D σ H ⟨W, ρ, m, rs, rm, h⟩ => ⟨W, ρ, m, rs, rm, post_mono (post_toO h) fun x W1 H1 m1 e1 rm1 h1 v rv => h1 W1 H1 v Ex.refl rm1 rv⟩
theorem ds_if {c : Expr} {xs ys : List Stmt} (hc : DT X EX c t) (ha : DSs X EX xs a) (hb : DSs X EX ys b) : DS X EX (.If c xs ys pos) (sIfS t a b) :=
  PS.imp (ps_if hc ha hb) fun D σ H ⟨W, ρ, m, rs, rm, h⟩ => ⟨W, ρ, m, rs, rm, post_mono (post_toO h) fun k W1 H1 m1 e1 rm1 h1 => by
    cases k with
    | true => exact ⟨W1, ρ, m1, rs.mono e1.le, rm1, h1⟩
    | false => exact ⟨W1, ρ, m1, rs.mono e1.le, rm1, h1⟩⟩
end
abbrev SG := D → En → M → R En
abbrev SGs := List D → En → M → R En
def RW (K : PySem.W.Frag) (W : Wd) (v : V) (x : D) : Prop := RD K W v x ∨ ∃ a xs ds, v = .ref a ∧ x = .tup ds ∧ SqT K W.I a xs ∧ RDs K W xs ds
abbrev RelT := PySem.W.Frag → Wd → V → D → Prop
def tG (K : PySem.W.Frag) (mg : Str → Option Value) (EX : EXT) (Rl : RelT) (g : SG) : TG := fun v σ H Q => ∃ W ρ m x, RS K W σ ρ ∧ RM K mg W H m ∧ Rl K W v x ∧ post K mg W H (g x ρ m) (fun ρ' W' H' _ => ∀ σ', RS K W' σ' ρ' → Q σ' H') (fun c H' => ∀ σ', EX σ' c H')
def tGs (K : PySem.W.Frag) (mg : Str → Option Value) (EX : EXT) (g : SGs) : TGs := fun vs σ H Q => ∃ W ρ m xs, RS K W σ ρ ∧ RM K mg W H m ∧ RDs K W vs xs ∧ post K mg W H (g xs ρ m) (fun ρ' W' H' _ => ∀ σ', RS K W' σ' ρ' → Q σ' H') (fun c H' => ∀ σ', EX σ' c H')
abbrev DG (X : Cx) (EX : EXT) (Rl : RelT) (tg : Expr) (g : SG) : Prop := PG X tg (tG X.K X.mg EX Rl g)
abbrev DGs (X : Cx) (EX : EXT) (tg : List Expr) (g : SGs) : Prop := PGs X tg (tGs X.K X.mg EX g)
theorem PG.imp {X : Cx} {e : Expr} {t t' : TG} (h : PG X e t) (hi : ∀ v σ H Q, t' v σ H Q → t v σ H Q) : PG X e t' := ⟨fun pins s σ H v u Q I r q => h.run pins s σ H v u Q I r (hi v σ H Q q)⟩
theorem PGs.imp {X : Cx} {e : List Expr} {t t' : TGs} (h : PGs X e t) (hi : ∀ v σ H Q, t' v σ H Q → t v σ H Q) : PGs X e t' := ⟨fun pins s σ H v u Q I r q => h.run pins s σ H v u Q I r (hi v σ H Q q)⟩
def gNm (i : Nat) : SG := fun x ρ m => .ok (ρ.set i (some x)) m
def gsNil : SGs := fun xs ρ m => match xs with
  | [] => .ok ρ m
  | _ => .bad
def gsCons (g : SG) (gs : SGs) : SGs := fun xs ρ m => match xs with
  | x :: xs => (g x ρ m).bind fun ρ m => gs xs ρ m
  | [] => .bad
def gTp (n : Nat) (gs : SGs) : SG := fun x ρ m => match x with
  | .tup xs => if xs.length = n then gs xs ρ m else .bad
  | _ => .bad
def setIt (o i x : D) (m : M) : R Unit := match o, i with
  | .ref n, .int k => match m[n]? with
    | some (.lst xs) => match ixN xs.length k with
      | some j => .ok () (m.set n (.lst (xs.set j x)))
      | none => .bad
    | _ => .bad
  | _, _ => .bad
def gSb (do_ di : SE) : SG := fun x ρ m => (do_ ρ m).bind fun o m => (di ρ m).bind fun i m => (setIt o i x m).bind fun _ m => .ok ρ m
section
variable {X : Cx} {EX : EXT} {pos : Pos} {tg e o i : Expr} {es : List Expr} {g : SG} {gs : SGs} {do_ di d : SE}
theorem dg_name {j : Nat} {x : Str} (hN : X.N.Nodup) (hi : X.N[j]? = some x := by rfl) (hx : Loc X.env.scope x := by first | exact .inl rfl | exact .inr rfl) (hf : X.fn x = true ∨ X.env.scope.names.lookup x = some .local := by first | exact .inl rfl | exact .inr rfl) :
    DG X EX RD (.Name x pos) (gNm j) := PG.imp (pg_name hN hi hx hf) fun v σ H Q ⟨W, ρ, m, x, rs, rm, rv, h⟩ => post_ok h rm _ (rs.set j rv)
theorem dgs_nil : DGs X EX [] gsNil := PGs.imp pgs_nil fun vs σ H Q ⟨W, ρ, m, xs, rs, rm, rv, h⟩ => by
  cases rv with
  | nil => exact ⟨rfl, post_ok h rm _ rs⟩
  | cons a b => exact h.elim
theorem dgs_cons (h1 : DG X EX RD e g) (h2 : DGs X EX es gs) (hs : (assignEach (e :: es) X.env).map (·.2) = assign e X.env :: (assignEach es X.env).map (·.2) := by rfl) : DGs X EX (e :: es) (gsCons g gs) :=
  PGs.imp (pgs_cons h1 h2 hs) fun vs σ H Q ⟨W, ρ, m, xs, rs, rm, rv, h⟩ => by
    cases rv with
    | nil => exact h.elim
    | @cons v vs d ds a b =>
      exact ⟨v, vs, rfl, W, ρ, m, d, rs, rm, a, post_mono (post_bind h) fun ρ1 W1 H1 m1 e1 rm1 h1 σ1 rs1 => ⟨W1, ρ1, m1, ds, rs1, rm1, b.mono e1.le, h1⟩⟩
theorem dg_tup {k : Nat} {n : Nat} (hc : X.calm = true) (h : DGs X EX es gs) (hn : (assignEach es X.env).length = n := by rfl) (hst : (assignEach es X.env).findIdx? (·.1) = none := by rfl) : DG X EX RW (.Tuple es k pos) (gTp n gs) :=
  PG.imp (pg_tup hc h hn hst) fun v σ H Q ⟨W, ρ, m, x, rs, rm, rv, h⟩ => by
    have key : ∃ a xs ds, v = .ref a ∧ x = .tup ds ∧ SqT X.K W.I a xs ∧ RDs X.K W xs ds := by
      rcases rv with rv | rv
      · cases rv with
        | tup hT hN r => exact ⟨_, _, _, rfl, rfl, hT, r⟩
        | _ => exact h.elim
      · exact rv
    obtain ⟨a, xs, ds, rfl, rfl, hT, r⟩ := key
    dsimp only [gTp] at h
    split at h
    · rename_i hz
      exact ⟨a, xs, rfl, same_T rm.sub hT, by rw [r.length]; exact hz, W, ρ, m, ds, rs, rm, r, h⟩
    · exact h.elim
theorem dg_w (h : DG X EX RW tg g) : DG X EX RD tg g := PG.imp h fun v σ H Q ⟨W, ρ, m, x, rs, rm, rv, h⟩ => ⟨W, ρ, m, x, rs, rm, .inl rv, h⟩
theorem dg_sub (ho : DE X EX o do_) (hi : DE X EX i di)
    (ha : ∀ v, assign (.Subscript o i pos) X.env v = (do
      let ov ← holding [v] (eval o X.env)
      let iv ← holding [v, ov] (eval i X.env)
      standAt pos
      holding [v, ov, iv] (setItem ov iv v)
      release [v, ov, iv] []) := by intro _; rfl) : DG X EX RD (.Subscript o i pos) (gSb do_ di) :=
  PG.imp (pg_sub ho hi set_list ha) fun v σ H Q ⟨W, ρ, m, x, rs, rm, rv, h⟩ => ⟨W, ρ, m, rs, rm, post_mono (post_bind (post_ex (σ := σ) h)) fun ox W1 H1 m1 e1 rm1 h1 vo ro =>
    ⟨W1, ρ, m1, rs.mono e1.le, rm1, post_mono (post_bind h1) fun ix W2 H2 m2 e2 rm2 h2 vi ri => by
      unfold setIt at h2
      split at h2
      · rename_i n k
        split at h2
        · rename_i xs hx
          split at h2
          · rename_i j hj
            cases ri
            have ro2 := ro.mono e2.le
            cases ro2 with
            | ref q =>
              obtain ⟨u, hu, ⟨vs, rfl, r⟩, _⟩ := rm2.get q hx (by simp)
              refine ⟨_, vs, k, j, rfl, rfl, hu, by rw [r.length]; exact hj, ?_⟩
              obtain ⟨e3, rm3⟩ := set_cell (c' := .lst (xs.set j x)) (o := .lst (vs.set j v)) rm2 q hx (by simp) ⟨_, rfl, r.set (rv.mono (e1.trans e2).le) j⟩
              exact h2 _ _ e3 rm3 σ (rs.mono ((e1.trans e2).trans e3).le)
          · exact h2.elim
        · exact h2.elim
      · exact h2.elim⟩⟩
def sAsg (d : SE) (g : SG) : SS := fun ρ m => (d ρ m).toO fun x m => (g x ρ m).toO fun ρ m => .nx ρ m
theorem asg_imp {te : TE} {tg : TG} {D : Ends} {σ : L2.St} {H : Hp} (he : ∀ σ H Q, tE X.K X.mg EX d σ H Q → te σ H Q) (hg : ∀ v σ H Q, tG X.K X.mg EX RD g v σ H Q → tg v σ H Q) (h : tS X.K X.mg EX (sAsg d g) D σ H) : tAsg te tg D σ H := by
  obtain ⟨W, ρ, m, rs, rm, h⟩ := h
  refine he _ _ _ ⟨W, ρ, m, rs, rm, post_mono (post_toO h) fun x W1 H1 m1 e1 rm1 h1 v rv => hg _ _ _ _ ⟨W1, ρ, m1, x, rs.mono e1.le, rm1, rv, post_mono (post_toA h1) fun ρ2 W2 H2 m2 e2 rm2 h2 σ2 rs2 => h2 W2 H2 σ2 Ex.refl rm2 rs2⟩⟩
theorem ds_asg (he : DE X EX e d) (hg : DG X EX RD tg g) (hs : swapsWithSole [tg] e pos.line X.env = pure false := by rfl) (hw : swappedStores [tg] e X.env = pure none := by rfl)
    (h1 : (assignEach [tg] X.env).map (·.2) = [assign tg X.env] := by rfl) : DS X EX (.Assign [tg] e pos) (sAsg d g) :=
  PS.imp (ps_asg he hg hs hw h1) fun D σ H h => asg_imp (fun _ _ _ h => h) (fun _ _ _ _ h => h) h
def sPar (i j : Nat) (ds : SA) : SS := fun ρ m => (ds ρ m).toO fun xs m => match xs with
  | [x, y] => .nx ((ρ.set i (some x)).set j (some y)) m
  | _ => .bad
end
structure IsIt (K : PySem.W.Frag) (mg : Str → Option Value) (Rl : RelT) (J : It) (xs : List D) (W0 : Wd) : Prop where
  stop : ∀ (W : Wd) (H : Hp) (m : M), Le W0 W → RM K mg W H m → J.stop xs.length H
  go : ∀ (i : Nat) (W : Wd) (H : Hp) (m : M), Le W0 W → RM K mg W H m → i < xs.length → J.go i H
  yld : ∀ (i : Nat) (W : Wd) (H : Hp) (m : M) (v : V) (H' : Hp) (d : D), Le W0 W → RM K mg W H m → xs[i]? = some d → J.yld i H v H' → ∃ W', Ex W H W' H' ∧ RM K mg W' H' m ∧ Rl K W' v d
def tI (K : PySem.W.Frag) (mg : Str → Option Value) (EX : EXT) (Rl : RelT) (d : SA) : TI := fun σ H R => ∃ W ρ m, RS K W σ ρ ∧ RM K mg W H m ∧ post K mg W H (d ρ m) (fun xs W' H' _ => ∀ J, IsIt K mg Rl J xs W' → R J H') (EX σ)
abbrev DI (X : Cx) (EX : EXT) (Rl : RelT) (tg it : Expr) (d : SA) : Prop := PI X tg it (tI X.K X.mg EX Rl d)
theorem PI.imp {X : Cx} {tg e : Expr} {t t' : TI} (h : PI X tg e t) (hi : ∀ σ H Q, t' σ H Q → t σ H Q) : PI X tg e t' := ⟨fun pins s σ H R I q => h.run pins s σ H R I (hi σ H R q)⟩
theorem Le.trans {A B C : Wd} (a : Le A B) (b : Le B C) : Le A C := ⟨a.I.trans b.I, by
  obtain ⟨p, e⟩ := a.φ
  obtain ⟨q, f⟩ := b.φ
  exact ⟨p ++ q, by rw [f, e, List.append_assoc]⟩⟩
section
variable {X : Cx} {EX : EXT} {tg e : Expr} {d : SE} {ds : SA}
def fixL : D → Option (List D)
  | .lst xs => some xs
  | .frz xs => some xs
  | _ => none
theorem fixL_of {K : PySem.W.Frag} {W : Wd} {v : V} {x : D} {xs : List D} (r : RD K W v x) (h : fixL x = some xs) : ∃ a vs, v = .ref a ∧ SqL K W.I a vs ∧ RDs K W vs xs := by
  cases r with
  | lst q r => cases h; exact ⟨_, _, rfl, .inl (.inl q), r⟩
  | frz q r => cases h; exact ⟨_, _, rfl, q, r⟩
  | _ => cases h
def iL (d : SE) : SA := fun ρ m => (d ρ m).bind fun x m => match fixL x with
  | some xs => .ok xs m
  | none => .bad
theorem it_list {K : PySem.W.Frag} {mg : Str → Option Value} {W : Wd} {a : Addr} {vs : List V} {xs : List D} (h : SqL K W.I a vs) (r : RDs K W vs xs) : IsIt K mg RD (Itl K a) xs W where
  stop := fun W1 H m le rm => ⟨vs, (le.I.trans rm.sub).seq h, Nat.le_of_eq r.length⟩
  go := fun i W1 H m le rm hi => by
    obtain ⟨v, hv, _⟩ := r.get (List.getElem?_eq_getElem hi)
    exact ⟨vs, v, (le.I.trans rm.sub).seq h, hv⟩
  yld := fun i W1 H m v H' d le rm hd ⟨eH, hy⟩ => by
    subst eH
    obtain ⟨u, hu, ru⟩ := r.get hd
    have := hy vs ((le.I.trans rm.sub).seq h)
    rw [hu] at this
    cases this
    exact ⟨W1, Ex.refl, rm, ru.mono le⟩
theorem di_list (h : DE X EX e d) : DI X EX RD tg e (iL d) :=
  PI.imp (pi_list h) fun σ H R ⟨W, ρ, m, rs, rm, h⟩ => ⟨W, ρ, m, rs, rm, post_mono (post_bind h) fun x W1 H1 m1 e1 rm1 h1 v rv => by
    split at h1
    · rename_i xs hx
      obtain ⟨a, vs, rfl, hs, r⟩ := fixL_of rv hx
      exact ⟨a, rfl, ⟨vs, rm1.sub.seq hs⟩, post_ok h1 rm1 _ (it_list hs r)⟩
    · exact h1.elim⟩
def iT (d : SE) : SA := fun ρ m => (d ρ m).bind fun x m => match x with
  | .tup xs => .ok xs m
  | _ => .bad
theorem it_tup {K : PySem.W.Frag} {mg : Str → Option Value} {W : Wd} {a : Addr} {vs : List V} {xs : List D} (h : SqT K W.I a vs) (r : RDs K W vs xs) : IsIt K mg RD (Itt K a) xs W where
  stop := fun W1 H m le rm => ⟨vs, same_T (le.I.trans rm.sub) h, Nat.le_of_eq r.length⟩
  go := fun i W1 H m le rm hi => by
    obtain ⟨v, hv, _⟩ := r.get (List.getElem?_eq_getElem hi)
    exact ⟨vs, v, same_T (le.I.trans rm.sub) h, hv⟩
  yld := fun i W1 H m v H' d le rm hd ⟨eH, hy⟩ => by
    subst eH
    obtain ⟨u, hu, ru⟩ := r.get hd
    have := hy vs (same_T (le.I.trans rm.sub) h)
    rw [hu] at this
    cases this
    exact ⟨W1, Ex.refl, rm, ru.mono le⟩
theorem di_tup (h : DE X EX e d) : DI X EX RD tg e (iT d) :=
  PI.imp (pi_tup h) fun σ H R ⟨W, ρ, m, rs, rm, h⟩ => ⟨W, ρ, m, rs, rm, post_mono (post_bind h) fun x W1 H1 m1 e1 rm1 h1 v rv => by
    cases x with
    | tup xs =>
      cases rv with
      | tup hT hN r => exact ⟨_, rfl, ⟨_, same_T rm1.sub hT⟩, post_ok h1 rm1 _ (it_tup hT r)⟩
    | _ => exact h1.elim⟩
def rngD (lo c : Int) (n : Nat) : List D := (List.range n).map fun (i : Nat) => .int (lo + (i : Int) * c)
theorem rngD_len (lo c : Int) (n : Nat) : (rngD lo c n).length = n := by simp [rngD]
theorem rngD_get {lo c : Int} {n i : Nat} {d : D} (h : (rngD lo c n)[i]? = some d) : d = .int (lo + (i : Int) * c) := by
  unfold rngD at h
  rw [List.getElem?_map, Option.map_eq_some_iff] at h
  obtain ⟨k, hk, rfl⟩ := h
  rw [List.getElem?_range (by
    rcases Nat.lt_or_ge i n with q | q
    · exact q
    · rw [List.getElem?_eq_none (by simpa using q)] at hk; cases hk)] at hk
  cases hk; rfl
theorem it_rng {K : PySem.W.Frag} {mg : Str → Option Value} {W : Wd} {lo : Int} {n : Nat} : IsIt K mg RD (Itr lo n) (rngD lo 1 n) W where
  stop := fun W1 H m le rm => by rw [rngD_len]; exact Nat.le_refl _
  go := fun i W1 H m le rm hi => by rw [rngD_len] at hi; exact hi
  yld := fun i W1 H m v H' d le rm hd ⟨eH, hy⟩ => by
    subst eH; subst hy
    rw [rngD_get hd, Int.mul_one]
    exact ⟨W1, Ex.refl, rm, .int _⟩
abbrev lim62 : Int := 4611686018427387904
def iR1 (ds : SA) : SA := fun ρ m => (ds ρ m).bind fun xs m => match xs with
  | [.int j] => if -lim62 ≤ j ∧ j < lim62 then .ok (rngD 0 1 j.toNat) m else .bad
  | _ => .bad
def iR2 (ds : SA) : SA := fun ρ m => (ds ρ m).bind fun xs m => match xs with
  | [.int i, .int j] => if (-lim62 ≤ i ∧ i < lim62) ∧ -lim62 ≤ j ∧ j < lim62 then .ok (rngD i 1 (j - i).toNat) m else .bad
  | _ => .bad
variable {a b c : Expr} {p pos : Pos}
theorem RDs.inv1 {K : PySem.W.Frag} {W : Wd} {vs : List V} {x : D} (r : RDs K W vs [x]) : ∃ v, vs = [v] ∧ RD K W v x := by
  cases r with
  | cons a t => cases t; exact ⟨_, rfl, a⟩
theorem RDs.inv2 {K : PySem.W.Frag} {W : Wd} {vs : List V} {x y : D} (r : RDs K W vs [x, y]) : ∃ v u, vs = [v, u] ∧ RD K W v x ∧ RD K W u y := by
  cases r with
  | cons a t =>
    obtain ⟨u, rfl, b⟩ := RDs.inv1 t
    exact ⟨_, u, rfl, a, b⟩
theorem di_range1 (hm : X.mg "range" = none) (ha : DA X EX [a] ds) (hg : Gl X "range" := by rfl) (hs : starEach [a] X.env = [(false, eval a X.env)] := by rfl) : DI X EX RD tg (.Call (.Name "range" p) [a] [] pos) (iR1 ds) :=
  PI.imp (pi_range1 hg hm ha hs) fun σ H R ⟨W, ρ, m, rs, rm, h⟩ => ⟨W, ρ, m, rs, rm, post_mono (post_bind h) fun xs W1 H1 m1 e1 rm1 h1 vs rvs => by
    split at h1
    · split at h1
      · rename_i j hz
        obtain ⟨v, rfl, r⟩ := rvs.inv1
        cases r
        exact ⟨j, rfl, hz.1, hz.2, post_ok h1 rm1 _ it_rng⟩
      · exact h1.elim
    · exact h1.elim⟩
theorem di_range2 (hm : X.mg "range" = none) (ha : DA X EX [a, b] ds) (hg : Gl X "range" := by rfl) (hs : starEach [a, b] X.env = [(false, eval a X.env), (false, eval b X.env)] := by rfl) (hs2 : starEach [b] X.env = [(false, eval b X.env)] := by rfl) :
    DI X EX RD tg (.Call (.Name "range" p) [a, b] [] pos) (iR2 ds) :=
  PI.imp (pi_range2 hg hm ha hs hs2) fun σ H R ⟨W, ρ, m, rs, rm, h⟩ => ⟨W, ρ, m, rs, rm, post_mono (post_bind h) fun xs W1 H1 m1 e1 rm1 h1 vs rvs => by
    split at h1
    · split at h1
      · rename_i i j hz
        obtain ⟨v, u, rfl, r, q⟩ := rvs.inv2
        cases r; cases q
        exact ⟨i, j, rfl, ⟨hz.1.1, hz.1.2, hz.2.1, hz.2.2⟩, post_ok h1 rm1 _ it_rng⟩
      · exact h1.elim
    · exact h1.elim⟩
end
def forLoop (g : SG) (b : SS) : List D → En → M → O
  | [], ρ, m => .nx ρ m
  | x :: xs, ρ, m => (g x ρ m).toO fun ρ m => match b ρ m with
    | .nx ρ m => forLoop g b xs ρ m
    | .ct ρ m => forLoop g b xs ρ m
    | .bk ρ m => .nx ρ m
    | .rt x m => .rt x m
    | .exn c m => .exn c m
    | .bad => .bad
def sFor (d : SA) (g : SG) (b : SS) : SS := fun ρ m => (d ρ m).toO fun xs m => forLoop g b xs ρ m
section
variable {X : Cx} {EX : EXT} {Rl : RelT} {tg it : Expr} {body : List Stmt} {d : SA} {g : SG} {b : SS} {t : SB} {pos : Pos} {c : Expr}
theorem ds_for (hp : PassesOwn (model X.prog X.w) X.A X.env X.xe) (hc : X.calm = true) (hi : DI X EX Rl tg it d) (hg : DG X EX Rl tg g) (hb : DSs X EX body b) (hs : ∀ x, foldedSetIterable it X.env x = pure x := by intro _; rfl) :
    DS X EX (.For tg it body [] pos) (sFor d g b) := by
  refine PS.imp (ps_for hp hc hi hg hb hs) fun Dn σ H ⟨W, ρ, m, rs, rm, h⟩ => ⟨W, ρ, m, rs, rm, post_mono (post_toO h) fun xs W1 H1 m1 e1 rm1 h1 J hJ => ?_⟩
  refine ⟨fun i n σ' H' => ∃ W2 ρ2 m2, Le W1 W2 ∧ RS X.K W2 σ' ρ2 ∧ RM X.K X.mg W2 H' m2 ∧ i ≤ xs.length ∧ n = xs.length - i ∧ postS X.K X.mg W2 H' (forLoop g b (xs.drop i) ρ2 m2) Dn EX,
    ⟨xs.length, W1, ρ, m1, Le.refl, rs.mono e1.le, rm1, Nat.zero_le _, rfl, h1⟩, ?_⟩
  rintro i n σ' H' ⟨W2, ρ2, m2, le2, rs2, rm2, hi2, rfl, h2⟩
  by_cases hlt : i < xs.length
  · refine .inr ⟨hJ.go i W2 H' m2 le2 rm2 hlt, fun σ3 H3 => ∃ W3 ρ3 m3, Le W1 W3 ∧ RS X.K W3 σ3 ρ3 ∧ RM X.K X.mg W3 H3 m3 ∧ postS X.K X.mg W3 H3 (forLoop g b (xs.drop (i + 1)) ρ3 m3) Dn EX, ?_, ?_⟩
    · rintro σ3 H3 ⟨W3, ρ3, m3, l3, r3, q3, p3⟩
      exact ⟨xs.length - (i + 1), by omega, W3, ρ3, m3, l3, r3, q3, hlt, rfl, p3⟩
    · intro v H3 hy
      have hd : xs[i]? = some xs[i] := List.getElem?_eq_getElem hlt
      obtain ⟨W3, e3, rm3, rl⟩ := hJ.yld i W2 H' m2 v H3 _ le2 rm2 hd hy
      rw [List.drop_eq_getElem_cons hlt] at h2
      have h3 : post X.K X.mg W3 H3 (g xs[i] ρ2 m2) _ (fun c H' => ∀ σ, EX σ c H') := post_toA (postS_shift h2 e3)
      refine ⟨W3, ρ2, m2, xs[i], rs2.mono e3.le, rm3, rl, post_mono h3 fun ρ4 W4 H4 m4 e4 rm4 h4 σ4 rs4 => ⟨W4, ρ4, m4, rs4, rm4, ?_⟩⟩
      have l4 : Le W1 W4 := le2.trans (e3.le.trans e4.le)
      revert h4
      cases b ρ4 m4 with
      | nx ρ5 m5 => exact fun h4 W5 H5 σ5 e5 rm5 rs5 => ⟨W5, ρ5, m5, l4.trans e5.le, rs5, rm5, postS_shift h4 e5⟩
      | ct ρ5 m5 => exact fun h4 W5 H5 σ5 e5 rm5 rs5 => ⟨W5, ρ5, m5, l4.trans e5.le, rs5, rm5, postS_shift h4 e5⟩
      | bk ρ5 m5 => exact fun h4 => h4
      | rt x m5 => exact fun h4 => h4
      | exn c m5 => exact fun h4 => h4
      | bad => exact fun h4 => h4
  · have hend : i = xs.length := by omega
    subst hend
    rw [List.drop_length] at h2
    exact .inl ⟨hJ.stop W2 H' m2 le2 rm2, h2 W2 H' σ' Ex.refl rm2 rs2⟩
end
end Vi
namespace Vi
open PySem PySem.Spec PyProof.Rows L2
def compL (g : SG) (t : SB) (el : SE) (ρw : En) : List D → M → R (List D)
  | [], m => .ok [] m
  | x :: xs, m => (g x ρw m).bind fun ρ m => (t ρ m).bind fun k m => if k = true then (el ρ m).bind fun y m => (compL g t el ρw xs m).bind fun ys m => .ok (y :: ys) m else compL g t el ρw xs m
theorem compL_cons {α : Type} (g : SG) (t : SB) (el : SE) (ρw : En) (x : D) (xs : List D) (m : M) (k : List D → M → R α) : (compL g t el ρw (x :: xs) m).bind k =
    (g x ρw m).bind fun ρ m => (t ρ m).bind fun b m => if b = true then (el ρ m).bind fun y m => (compL g t el ρw xs m).bind fun ys m => k (y :: ys) m else (compL g t el ρw xs m).bind k := by
  rw [compL]
  cases g x ρw m with
  | ok ρ m1 =>
    show ((t ρ m1).bind _).bind k = (t ρ m1).bind _
    cases t ρ m1 with
    | ok b m2 =>
      show (ite _ _ _ : R (List D)).bind k = ite _ _ _
      cases b with
      | false => rfl
      | true =>
        rw [if_pos rfl, if_pos rfl]
        cases el ρ m2 with
        | ok y m3 =>
          show ((compL g t el ρw xs m3).bind _).bind k = (compL g t el ρw xs m3).bind _
          cases compL g t el ρw xs m3 <;> rfl
        | exn c m3 => rfl
        | bad => rfl
    | exn c m2 => rfl
    | bad => rfl
  | exn c m1 => rfl
  | bad => rfl
def noexn {α : Type} : R α → R α
  | .exn _ _ => .bad
  | r => r
def sComp (own : List Nat) (src : SA) (g : SG) (t : SB) (el : SE) : SA := fun ρ m => (src ρ m).bind fun xs m => if xs.length ≤ big then noexn (compL g t el (wipeE ρ own) xs m) else .bad
def tYs : SB := fun _ m => .ok true m
def tGo (K : PySem.W.Frag) (mg : Str → Option Value) (Rl : RelT) (own : List Nat) (g : SG) : TG := fun v σ H Q => ∃ W ρ m x, RS K W σ ρ ∧ RM K mg W H m ∧ Rl K W v x ∧ post K mg W H (g x ρ m) (fun ρ' W' H' _ => ∀ σ', RS K W' σ' ρ' → wipe σ' own = wipe σ own → Q σ' H') fun _ _ => False
def tGso (K : PySem.W.Frag) (mg : Str → Option Value) (own : List Nat) (g : SGs) : TGs := fun vs σ H Q => ∃ W ρ m xs, RS K W σ ρ ∧ RM K mg W H m ∧ RDs K W vs xs ∧ post K mg W H (g xs ρ m) (fun ρ' W' H' _ => ∀ σ', RS K W' σ' ρ' → wipe σ' own = wipe σ own → Q σ' H') fun _ _ => False
abbrev DGo (X : Cx) (Rl : RelT) (own : List Nat) (tg : Expr) (g : SG) : Prop := PG X tg (tGo X.K X.mg Rl own g)
abbrev DGso (X : Cx) (own : List Nat) (tg : List Expr) (g : SGs) : Prop := PGs X tg (tGso X.K X.mg own g)
theorem wipe_get (σ : L2.St) : ∀ (own : List Nat) (i : Nat), (wipe σ own)[i]? = if i ∈ own ∧ i < σ.length then some none else σ[i]?
  | [], i => by simp [wipe]
  | v :: vs, i => by
    show ((wipe σ vs).set v none)[i]? = _
    rw [List.getElem?_set, wipe_length]
    by_cases h : v = i
    · subst h
      by_cases hl : v < σ.length
      · simp [hl]
      · simp [hl]
    · rw [if_neg h, wipe_get σ vs i]
      have : (i ∈ v :: vs) ↔ i ∈ vs := by simp; exact fun e => absurd e.symm h
      simp [this]
theorem wipe_set {σ : L2.St} {own : List Nat} {i : Nat} {v : Option V} (h : i ∈ own) : wipe (σ.set i v) own = wipe σ own := by
  apply List.ext_getElem?
  intro j
  rw [wipe_get, wipe_get, List.length_set, List.getElem?_set]
  by_cases hj : i = j
  · subst hj
    by_cases hl : i < σ.length
    · simp [h, hl]
    · simp [hl]
  · simp [hj]
section
variable {X : Cx} {EX : EXT} {pos : Pos} {tg e : Expr} {es : List Expr} {g : SG} {gs : SGs} {own : List Nat}
theorem dgo_name {j : Nat} {x : Str} (hN : X.N.Nodup) (hi : X.N[j]? = some x := by rfl) (hx : Loc X.env.scope x := by first | exact .inl rfl | exact .inr rfl) (hf : X.fn x = true ∨ X.env.scope.names.lookup x = some .local := by first | exact .inl rfl | exact .inr rfl) (ho : j ∈ own := by decide) :
    DGo X RD own (.Name x pos) (gNm j) := PG.imp (pg_name hN hi hx hf) fun v σ H Q ⟨W, ρ, m, x, rs, rm, rv, h⟩ => post_ok h rm _ (rs.set j rv) (wipe_set ho)
theorem dgso_nil : DGso X own [] gsNil := PGs.imp pgs_nil fun vs σ H Q ⟨W, ρ, m, xs, rs, rm, rv, h⟩ => by
  cases rv with
  | nil => exact ⟨rfl, post_ok h rm _ rs rfl⟩
  | cons a b => exact h.elim
theorem dgso_cons (h1 : DGo X RD own e g) (h2 : DGso X own es gs) (hs : (assignEach (e :: es) X.env).map (·.2) = assign e X.env :: (assignEach es X.env).map (·.2) := by rfl) : DGso X own (e :: es) (gsCons g gs) :=
  PGs.imp (pgs_cons h1 h2 hs) fun vs σ H Q ⟨W, ρ, m, xs, rs, rm, rv, h⟩ => by
    cases rv with
    | nil => exact h.elim
    | @cons v vs d ds a b =>
      exact ⟨v, vs, rfl, W, ρ, m, d, rs, rm, a, post_mono (post_bind h) fun ρ1 W1 H1 m1 e1 rm1 h1 σ1 rs1 w1 => ⟨W1, ρ1, m1, ds, rs1, rm1, b.mono e1.le, post_mono h1 fun ρ2 W2 H2 m2 e2 rm2 h2 σ2 rs2 w2 => h2 σ2 rs2 (w2.trans w1)⟩⟩
theorem dgo_tup {k : Nat} {n : Nat} (hc : X.calm = true) (h : DGso X own es gs) (hn : (assignEach es X.env).length = n := by rfl) (hst : (assignEach es X.env).findIdx? (·.1) = none := by rfl) : DGo X RW own (.Tuple es k pos) (gTp n gs) :=
  PG.imp (pg_tup hc h hn hst) fun v σ H Q ⟨W, ρ, m, x, rs, rm, rv, h⟩ => by
    have key : ∃ a xs ds, v = .ref a ∧ x = .tup ds ∧ SqT X.K W.I a xs ∧ RDs X.K W xs ds := by
      rcases rv with rv | rv
      · cases rv with
        | tup hT hN r => exact ⟨_, _, _, rfl, rfl, hT, r⟩
        | _ => exact h.elim
      · exact rv
    obtain ⟨a, xs, ds, rfl, rfl, hT, r⟩ := key
    dsimp only [gTp] at h
    split at h
    · rename_i hz
      exact ⟨a, xs, rfl, same_T rm.sub hT, by rw [r.length]; exact hz, W, ρ, m, ds, rs, rm, r, h⟩
    · exact h.elim
abbrev EX0 : EXT := fun _ _ _ => False
abbrev EXN : Str → Hp → Prop := fun _ _ => False
abbrev DTs (X : Cx) (ifs : List Expr) (t : SB) : Prop := PTs X ifs (tT X.K X.mg EX0 t)
theorem PTs.imp {ifs : List Expr} {t t' : TT} (h : PTs X ifs t) (hi : ∀ σ H Q, t' σ H Q → t σ H Q) : PTs X ifs t' := ⟨fun pins s σ H R I q => h.run pins s σ H R I (hi σ H R q)⟩
theorem dts_nil : DTs X [] tYs := PTs.imp pts_nil fun σ H Q ⟨W, ρ, m, rs, rm, h⟩ => post_ok h rm
theorem dts_one {c : Expr} {t : SB} (h : DT X EX0 c t) : DTs X [c] t := pts_one h
theorem put_new {K : PySem.W.Frag} {mg : Str → Option Value} {W1 W : Wd} {H1 H : Hp} {m : M} {D0 : Addr} {o : HO} (e : Ex W1 H1 W H) (h1 : H1 D0 = none) (rm : RM K mg W H m) (hφ : D0 ∉ W.φ) (hI : W.I D0 = none) :
    Ex W1 H1 W (upd H D0 o) ∧ RM K mg W (upd H D0 o) m := by
  refine ⟨⟨e.I, e.φ, fun a u ha hn => ?_, fun a ha => ?_, e.nw⟩, ⟨fun a u ha => ?_, rm.len, rm.nd, fun a ha => ?_, fun i a c q1 q2 q3 => ?_, rm.off⟩⟩
  · rw [upd_ne (ne_of_none ha h1)]; exact e.fr a u ha hn
  · unfold upd; split
    · simp
    · exact e.al a ha
  · rw [upd_ne (ne_of_none ha hI)]; exact rm.sub a u ha
  · unfold upd; split
    · simp
    · exact rm.al a ha
  · obtain ⟨u, hu, q⟩ := rm.obj i a c q1 q2 q3
    have : a ≠ D0 := fun z => hφ (z ▸ List.mem_of_getElem? q1)
    exact ⟨u, by rw [upd_ne this]; exact hu, q⟩
theorem stays {W W' : Wd} {H H' : Hp} {D0 : Addr} {o : HO} (e : Ex W H W' H') (h : H D0 = some o) (hφ : D0 ∉ W.φ) (hI : W.I D0 = none) : H' D0 = some o ∧ D0 ∉ W'.φ ∧ W'.I D0 = none := by
  obtain ⟨ψ, e1, n⟩ := e.φ
  refine ⟨e.fr _ _ h hφ, ?_, ?_⟩
  · rw [e1]
    intro q
    rcases List.mem_append.mp q with q | q
    · exact hφ q
    · rw [n _ q] at h; cases h
  · cases q : W'.I D0 with
    | none => rfl
    | some u =>
      rcases e.nw _ _ q with z | z | z
      · rw [hI] at z; cases z
      · rw [h] at z; cases z
      · exact absurd z hφ
theorem post_bind0 {K : PySem.W.Frag} {mg : Str → Option Value} {W : Wd} {H : Hp} {α β : Type} {r : R α} {f : α → M → R β} {Q : β → Wd → Hp → M → Prop} {EX : Str → Hp → Prop} (h : post K mg W H (r.bind f) Q EX) :
    post K mg W H r (fun x _ _ m1 => post K mg W H (f x m1) Q EX) EX := by
  cases r with
  | ok x m => exact fun _ _ _ _ => h
  | exn c m => exact h
  | bad => exact h
theorem noexn_post {K : PySem.W.Frag} {mg : Str → Option Value} {W : Wd} {H : Hp} {α : Type} {r : R α} {Q : α → Wd → Hp → M → Prop} {EX : Str → Hp → Prop} (h : post K mg W H (noexn r) Q EX) : post K mg W H r Q EXN := by
  cases r with
  | ok x m => exact h
  | exn c m => exact h.elim
  | bad => exact h
theorem comp_imp {Rl : RelT} {wi : TI} {src : SA} {t : SB} {el : SE} {σ : L2.St} {H : Hp} {Q : VK} (hw : ∀ σ H R, tI X.K X.mg EX Rl src σ H R → wi σ H R) (h : tL X.K X.mg EX (sComp own src g t el) σ H Q) :
    tLc wi (tGo X.K X.mg Rl own g) (tT X.K X.mg EX0 t) (tE X.K X.mg EX0 el) own σ H Q := by
  obtain ⟨W, ρ, m, rs, rm, h⟩ := h
  refine hw _ _ _ ⟨W, ρ, m, rs, rm, post_mono (post_bind h) fun xs W1 H1 m1 e1 rm1 h1 J hJ D0 hD => ?_⟩
  split at h1
  · rename_i hbig
    have h1 := noexn_post h1
    have hD0 : H D0 = none := by
      cases q : H D0 with
      | none => rfl
      | some o => exact absurd hD (e1.al D0 (by rw [q]; simp))
    -- the turn's state
    refine ⟨fun i n H2 => ∃ W2 m2 acc vs, Ex W1 H1 W2 H2 ∧ RM X.K X.mg W2 H2 m2 ∧ H2 D0 = some (.lst vs) ∧ D0 ∉ W2.φ ∧ W2.I D0 = none ∧ RDs X.K W2 vs acc ∧ acc.length ≤ i ∧ i ≤ xs.length ∧ n = xs.length - i ∧
      post X.K X.mg W1 H1 ((compL g t el (wipeE ρ own) (xs.drop i) m2).bind fun ys m => .ok (acc ++ ys) m) (fun xs W' H' _ => ∀ p vs, H p = none → p ∉ W'.φ → W'.I p = none → H' p = some (.lst vs) → RDs X.K W' vs xs → Q (.ref p) H') EXN,
      ⟨xs.length, W1, m1, [], [], ?_⟩, ?_⟩
    · obtain ⟨eu, ru⟩ := put_new (o := .lst []) Ex.refl hD rm1 (rm1.nin hD) (rm1.nI hD)
      refine ⟨eu, ru, upd_same, rm1.nin hD, rm1.nI hD, .nil, Nat.zero_le _, Nat.zero_le _, rfl, ?_⟩
      rw [List.drop_zero]
      revert h1
      cases compL g t el (wipeE ρ own) xs m1 with
      | ok ys m2 => exact fun h1 => h1
      | exn c m2 => exact fun h1 => h1
      | bad => exact fun h1 => h1
    · rintro i n H2 ⟨W2, m2, acc, vs, e2, rm2, hl, hφ, hI, rv, hacc, hi, rfl, h2⟩
      by_cases hlt : i < xs.length
      · refine .inr ⟨hJ.go i W2 H2 m2 e2.le rm2 hlt, fun H3 => ∃ W3 m3 acc vs, Ex W1 H1 W3 H3 ∧ RM X.K X.mg W3 H3 m3 ∧ H3 D0 = some (.lst vs) ∧ D0 ∉ W3.φ ∧ W3.I D0 = none ∧ RDs X.K W3 vs acc ∧ acc.length ≤ i + 1 ∧
          post X.K X.mg W1 H1 ((compL g t el (wipeE ρ own) (xs.drop (i + 1)) m3).bind fun ys m => .ok (acc ++ ys) m) (fun xs W' H' _ => ∀ p vs, H p = none → p ∉ W'.φ → W'.I p = none → H' p = some (.lst vs) → RDs X.K W' vs xs → Q (.ref p) H') EXN, ?_, ?_⟩
        · rintro H3 ⟨W3, m3, acc3, vs3, a1, a2, a3, a4, a5, a6, a7, a8⟩
          exact ⟨xs.length - (i + 1), by omega, W3, m3, acc3, vs3, a1, a2, a3, a4, a5, a6, a7, hlt, rfl, a8⟩
        · intro v H3 hy
          obtain ⟨W3, e3, rm3, rl⟩ := hJ.yld i W2 H2 m2 v H3 _ e2.le rm2 (List.getElem?_eq_getElem hlt) hy
          obtain ⟨hl3, hφ3, hI3⟩ := stays e3 hl hφ hI
          rw [List.drop_eq_getElem_cons hlt, compL_cons] at h2
          have h3 := post_shift (post_bind0 h2) (e2.trans e3)
          have rsw : RS X.K W3 (wipe σ own) (wipeE ρ own) := (rs.mono (e1.trans (e2.trans e3)).le).wipe own
          refine ⟨W3, wipeE ρ own, m2, xs[i], rsw, rm3, rl, post_mono h3 fun ρ4 W4 H4 m4 e4 rm4 h4 σ4 rs4 w4 => ⟨?_, ?_⟩⟩
          · rw [w4]
            apply List.ext_getElem?
            intro j
            rw [wipe_get, wipe_get, wipe_length]
            by_cases hj : j ∈ own ∧ j < σ.length <;> simp [hj]
          · obtain ⟨hl4, hφ4, hI4⟩ := stays e4 hl3 hφ3 hI3
            refine ⟨W4, ρ4, m4, rs4, rm4, post_mono (post_shift (post_bind0 h4) ((e2.trans e3).trans e4)) fun k W5 H5 m5 e5 rm5 h5 => ?_⟩
            obtain ⟨hl5, hφ5, hI5⟩ := stays e5 hl4 hφ4 hI4
            have E5 : Ex W1 H1 W5 H5 := (e2.trans e3).trans (e4.trans e5)
            cases k with
            | false => exact ⟨W5, m5, acc, vs, E5, rm5, hl5, hφ5, hI5, rv.mono (e3.trans (e4.trans e5)).le, by omega, h5⟩
            | true =>
              rw [if_pos rfl] at h5 ⊢
              refine ⟨W5, ρ4, m5, rs4.mono e5.le, rm5, post_mono (post_shift (post_bind0 h5) E5) fun y W6 H6 m6 e6 rm6 h6 u ru => ?_⟩
              obtain ⟨hl6, hφ6, hI6⟩ := stays e6 hl5 hφ5 hI5
              have rv6 := rv.mono (e3.trans (e4.trans (e5.trans e6))).le
              refine ⟨vs, hl6, ?_, ?_⟩
              · rw [rv6.length, big_eq]; omega
              · obtain ⟨eu, ru6⟩ := put_new (o := .lst (vs ++ [u])) (E5.trans e6) hD rm6 hφ6 hI6
                refine ⟨W6, m6, acc ++ [y], vs ++ [u], eu, ru6, upd_same, hφ6, hI6, rv6.append (.cons ru .nil), by simp; omega, ?_⟩
                have : (fun (ys : List D) (m : M) => (R.ok (acc ++ [y] ++ ys) m : R (List D))) = fun ys m => R.ok (acc ++ y :: ys) m := by
                  funext ys m; rw [List.append_assoc]; rfl
                rw [this]; exact h6
      · have hend : i = xs.length := by omega
        subst hend
        rw [List.drop_length] at h2
        refine .inl ⟨hJ.stop W2 H2 m2 e2.le rm2, ?_⟩
        have := h2 W2 H2 e2 rm2 D0 vs hD0 hφ hI hl
        rw [List.append_nil] at this
        exact this rv
  · exact h1.elim
theorem dl_comp {Rl : RelT} {elt it : Expr} {ifs : List Expr} {scope : Scope} {ow : List (Str × Nat)} {src : SA} {t : SB} {el : SE} (hc : X.calm = true) (hN : X.N.Nodup) (hi : DI X EX Rl tg it src) (ok : BlkOk X.N X.env.scope scope ow)
    (hg : ∀ (s : Shared) (H : Hp) (C : Addr) (cl : List (Str × Addr)) (fp : List Addr), DGo (X.blk s H scope (compEnvC scope cl C X.env) fp) Rl (ow.map (·.2)) tg g)
    (ht : ∀ (s : Shared) (H : Hp) (C : Addr) (cl : List (Str × Addr)) (fp : List Addr), DTs (X.blk s H scope (compEnvC scope cl C X.env) fp) ifs t)
    (he : ∀ (s : Shared) (H : Hp) (C : Addr) (cl : List (Str × Addr)) (fp : List Addr), DE (X.blk s H scope (compEnvC scope cl C X.env) fp) EX0 elt el) (hs : ∀ x, foldedSetIterable it X.env x = pure x := by intro _; rfl) :
    DL X EX (.ListComp elt [⟨tg, it, ifs, 0⟩] scope pos) (sComp (ow.map (·.2)) src g t el) :=
  PE.imp (pe_lc hc hN hi ok hg ht he hs) fun σ H Q h => comp_imp (fun _ _ _ h => h) h
end
end Vi
namespace Vi
open PySem PySem.Spec PyProof.Rows L2
abbrev Fn := List D → M → R D
def exOf (mg : Str → Option Value) (E : XK) : Str → Hp → Prop := fun c H' => ∀ a, mg c = some (.ref a) → E (.ref a) none H'
def spOf (K : PySem.W.Frag) (mg : Str → Option Value) (n : Nat) (F : Fn) : Sp := fun vs H Q E => vs.length = n ∧ ∃ W m ds, RM K mg W H m ∧ RDs K W vs ds ∧
  post K mg W H (F ds m) (fun x W' H' _ => ∀ v, RD K W' v x → Q v H') (exOf mg E)
def FnG (P : Program) (w : World) (K : PySem.W.Frag) (mg : Str → Option Value) (base : Heap) (k : Nat) (f : Addr) (fd : FuncData) (ps : List Str) (F : Fn) : Prop :=
  ∀ (A : Around) (outer : List Env) (s : Shared) (H : Hp) (args : Args) (us : List Value) (vs : List V) (Q : VK) (E : XK), Room k A → A.guards = some [] → Env0 P w K mg base A outer s H →
    BindsTo s fd args (ps.zip us) → Vals vs us → spOf K mg ps.length F vs H Q E → codeAny (model P w) A (.call (.ref f) args) (CR (L2.CX P w) outer P w H s Q E) s
def runDef (n : Nat) (d : SS) : Fn := fun ds m => match d (ds.map some ++ List.replicate (n - ds.length) none) m with
  | .rt x m => .ok x m
  | .nx _ m => .ok .non m
  | .exn c m => .exn c m
  | _ => .bad
def PassX (X : Cx) (EX : EXT) : Prop := ∃ E : L2.St → XK, (∀ σ, PassesAt (L2.CX X.prog X.w) X σ (E σ)) ∧ ∀ σ c H', EX σ c H' → exOf X.mg (E σ) c H'
theorem passX0 {X : Cx} : PassX X EX0 := ⟨fun _ => E0, fun σ pins H s e s' I c => passL pins σ H s e s' I c, fun _ _ _ h => h.elim⟩
def TakeX (X : Cx) (EX : EXT) : Prop := ∃ E : L2.St → XK, Takes X (fun cls d σ H => E σ cls d H) ∧ ∀ σ c H', EX σ c H' → exOf X.mg (E σ) c H'
theorem TakeX.pass {X : Cx} {EX : EXT} (t : TakeX X EX) : PassX X EX := let ⟨E, tk, h⟩ := t; ⟨E, fun σ => passAt tk σ, h⟩
structure BodyCx (X : Cx) (k : Nat) (EX : EXT) : Prop where
  room : Room k X.A
  gd : X.A.guards = some []
  own : PassesOwn (model X.prog X.w) X.A X.env X.xe
  take : TakeX X EX
theorem BodyCx.pass {X : Cx} {k : Nat} {EX : EXT} (B : BodyCx X k EX) : PassX X EX := B.take.pass
section
variable {P : Program} {w : World} {K : PySem.W.Frag} {mg : Str → Option Value} {base : Heap}
theorem start_rs {W : Wd} {vs : List V} {ds : List D} (r : RDs K W vs ds) (N : List Str) : RS K W (L2.start N vs) (ds.map some ++ List.replicate (N.length - ds.length) none) := by
  refine ⟨by simp [L2.start, r.length], fun i x h => ?_⟩
  rcases Nat.lt_or_ge i ds.length with q | q
  · rw [List.getElem?_append_left (by simpa using q), List.getElem?_map, Option.map_eq_some_iff] at h
    obtain ⟨d, hd, e⟩ := h
    cases e
    obtain ⟨v, hv, rv⟩ := r.get hd
    refine ⟨v, ?_, rv⟩
    unfold L2.start
    rw [List.getElem?_append_left (by rw [List.length_map, r.length]; exact q), List.getElem?_map, hv]
    rfl
  · rw [List.getElem?_append_right (by simpa using q), List.getElem?_replicate] at h
    split at h <;> cases h
theorem fn_ok {x qual : Str} {st : Stmt} {f : Addr} {fd : FuncData} {N ps : List Str} {k : Nat} {d : SS} (F : Fun K x qual st f fd) (S : FnScope N ps (defScope st))
    (hb : ∀ (cdv : Value) (A : Around) (outer : List Env) (s : Shared) (H : Hp) (E : XK), BodyCx (cxOf (L2.CX P w) P w K mg base N qual (defScope st) f cdv A outer s H E) k (fun _ => exOf mg E) →
      DSs (cxOf (L2.CX P w) P w K mg base N qual (defScope st) f cdv A outer s H E) (fun _ => exOf mg E) (defBody st) d) : FnG P w K mg base (k + 1) f fd ps (runDef N.length d) := by
  obtain ⟨oc, od, kV, doc, pm, an, cdv, ct, osl, rfl, lk, hcd⟩ := F.ex
  intro A outer s H args us vs Q E hr hg e0 bind rel ⟨hl, W, m, ds, rm, rds, hp⟩
  have stand : ∀ b o, base.get? b = some o → s.heap.get? b = some o := fun b o e => (e0.bs b o e).1
  have KX := e0.mod.kin.keeps stand
  have lim := e0.mod.nolimit.keeps stand
  refine codeAny_call_function hr.depth (KX _ _ lk) rfl S.co S.gen rfl (PySem.W.codeRec_of KX hcd) (bind _ _ _ _ (wpAny_newFunctionEnv_cells S.kind ?_ ?_))
  · rintro ⟨n, v⟩ hy
    have hn := (List.of_mem_zip hy).1
    exact (S.par n hn).imp id fun q => ⟨q, PySem.W.cellsFrom_some _ _ _ (.inl q)⟩
  · intro env he s1 x1
    subst he
    refine ⟨lim.keeps x1.toInCall.keep, codeAny_func ?_⟩
    have B : BodyCx (cxOf (L2.CX P w) P w K mg base N qual (defScope st) f cdv A outer s H E) k (fun _ => exOf mg E) := ⟨hr.deeper _, hg, passes_of rfl, fun _ => E, takes_of rfl rfl rfl rfl, fun _ _ _ h => h⟩
    have I := inv_start (CX := L2.CX P w) (P := P) (w := w) (mg := mg) (base := base) (f := f) (qual := qual) (E := E) S hr.hd e0 hl rel x1
    have done : tS K mg (fun _ => exOf mg E) d { nx := fun _ H' => Q .non H', rt := Q } (L2.start N vs) H := by
      refine ⟨W, _, m, start_rs rds N, rm, ?_⟩
      revert hp
      unfold runDef
      cases d (ds.map some ++ List.replicate (N.length - ds.length) none) m with
      | nx ρ m1 => exact fun hp W1 H1 σ e1 rm1 rs1 => hp W1 H1 e1 rm1 _ .non
      | rt y m1 => exact fun hp W1 H1 v e1 rm1 rv => hp W1 H1 e1 rm1 v rv
      | exn c m1 => exact fun hp W1 H1 _ e1 rm1 => hp W1 H1 e1 rm1
      | bk ρ m1 => exact fun hp => hp.elim
      | ct ρ m1 => exact fun hp => hp.elim
      | bad => exact fun hp => hp.elim
    refine wpAny_mono ((hb cdv A outer s H E B).run [] s1 _ H _ I done) (fun fl s2 hs => ?_) fun _ _ h => h
    cases fl with
    | next => obtain ⟨σ1, H1, J, q⟩ := hs; exact ⟨.non, H1, J.os, J.bare, J.base, J.hok, rfl, q⟩
    | ret u => obtain ⟨v, σ1, H1, J, rv, q⟩ := hs; exact ⟨v, H1, J.os, J.bare, J.base, J.hok, rv, q⟩
    | brk => obtain ⟨_, _, _, q⟩ := hs; exact q.elim
    | cont => obtain ⟨_, _, _, q⟩ := hs; exact q.elim
end
def sCall (F : Fn) (ds : SA) : SE := fun ρ m => (ds ρ m).bind F
section
variable {X : Cx} {EX : EXT} {k : Nat} {f : Addr} {fd : FuncData} {ps : List Str} {F : Fn} {x : Str} {p pos : Pos} {e : Expr} {es : List Expr} {ds : SA}
theorem run_G {E : XK} {pins : List (Addr × Obj)} {σ : L2.St} {H : Hp} {s : Shared} {Q : VK} {us : List Value} {vs : List V} (G : FnG X.prog X.w X.K X.mg X.base k f fd ps F) (hr : Room k X.A) (hg : X.A.guards = some []) (hb : Binds X.K fd ps []) (hx : PassesAt (L2.CX X.prog X.w) X σ E)
    (I : Inv X pins σ H s) (r : Vals vs us) (h : spOf X.K X.mg ps.length F vs H Q E) : wpAny (model X.prog X.w) X.A (call (.ref f) us) (EP X pins σ Q) X.xe s := by
  have hl : us.length = ps.length := by rw [← r.length]; exact h.1
  have hb' := hb s us I.kIn (by rw [List.append_nil]; exact hl)
  rw [List.append_nil] at hb'
  refine wpAny_call (codeAny_mono (G X.A X.stack s H ⟨us, []⟩ us vs Q E hr hg I.env0 hb' r h) fun z s1 hz => ?_)
  rcases z with e | fl
  · exact hx pins H s e s1 I hz
  · cases fl with
    | ret u => exact I.after hz
    | next => exact hz.elim
    | brk => exact hz.elim
    | cont => exact hz.elim
theorem call_imp {E : L2.St → XK} {n : Nat} (hx : ∀ σ c H', EX σ c H' → exOf X.mg (E σ) c H') (hn : ∀ ρ m xs m', ds ρ m = .ok xs m' → xs.length = n) {σ : L2.St} {H : Hp} {Q : VK} (h : tE X.K X.mg EX (sCall F ds) σ H Q) :
    tAs X.K X.mg EX ds σ H fun vs H1 => spOf X.K X.mg n F vs H1 Q (E σ) := by
  obtain ⟨W, ρ, m, rs, rm, h⟩ := h
  have h' := post_bind h
  refine ⟨W, ρ, m, rs, rm, ?_⟩
  revert h'
  cases q : ds ρ m with
  | ok xs m1 =>
    intro h' W1 H1 e1 rm1 vs rvs
    refine ⟨rvs.length.trans (hn _ _ _ _ q), W1, m1, xs, rm1, rvs, ?_⟩
    have h2 : post X.K X.mg W1 H1 (F xs m1) _ (EX σ) := h' W1 H1 e1 rm1
    revert h2
    cases F xs m1 with
    | ok y m2 => exact fun h2 => h2
    | exn c m2 => exact fun h2 W2 H2 e2 rm2 => hx σ c H2 (h2 W2 H2 e2 rm2)
    | bad => exact fun h2 => h2
  | exn c m1 => exact fun h' => h'
  | bad => exact fun h' => h'
theorem len_cons {d : SE} {n : Nat} (h : ∀ ρ m xs m', ds ρ m = .ok xs m' → xs.length = n) : ∀ ρ m xs m', sCons d ds ρ m = .ok xs m' → xs.length = n + 1 := by
  intro ρ m xs m' e
  unfold sCons at e
  cases q : d ρ m with
  | ok x m1 =>
    rw [q, bind_ok] at e
    cases q2 : ds ρ m1 with
    | ok ys m2 =>
      rw [q2, bind_ok] at e
      cases e
      simp [h _ _ _ _ q2]
    | exn c m2 => rw [q2] at e; cases e
    | bad => rw [q2] at e; cases e
  | exn c m1 => rw [q] at e; cases e
  | bad => rw [q] at e; cases e
theorem len_nil : ∀ (ρ : En) (m : M) (xs : List D) (m' : M), sNil ρ m = .ok xs m' → xs.length = 0 := by
  intro ρ m xs m' e
  cases e; rfl
theorem de_call (G : FnG X.prog X.w X.K X.mg X.base k f fd ps F) (hr : Room k X.A) (hgd : X.A.guards = some []) (px : PassX X EX) (hm : X.mg x = some (.ref f)) (hk : PySem.W.keepIn X.K (.ref f) = true) (hb : Binds X.K fd ps [])
    (ha : DA X EX (e :: es) ds) (hn : ∀ ρ m xs m', ds ρ m = .ok xs m' → xs.length = ps.length) (hg : Gl X x := by rfl) (hdb : (x == ("__debug__" : Str)) = false := by decide)
    (he : starEach (e :: es) X.env = (false, eval e X.env) :: starEach es X.env := by rfl) (hpl : (backTo pos (starEach es X.env)).any (·.1) = false := by rfl) : DE X EX (.Call (.Name x p) (e :: es) [] pos) (sCall F ds) := by
  obtain ⟨E, pE, hE⟩ := px
  refine ⟨fun pins s σ H Q I h => wpAny_Call_Name_kw (ld_glob I hg hm ?_ hdb)⟩
  have q := ha.run pos pins s σ H _ I (call_imp hE hn h)
  refine PySem.W.callWith_K (h₀ := X.base) I.ok.mod.kin hk (thn q ?_) he hpl
  rintro us s1 ⟨vs, H1, I1, r, q⟩
  exact ⟨I1.kIn, run_G G hr hgd hb (pE σ) I1 r q⟩
end
end Vi
namespace Vi
open PySem PySem.Spec PyProof.Rows L2
structure OneH (H : Hp) (h : Heap) (a : Addr) : Prop where
  at_ : ∀ b u, H b = some u → b = a ∧ ∃ o xs, u = .frz o (.lst xs) ∧ h.get? b = some o ∧ (o.data matches .seq _ _) = true
section
variable {P : Program} {w : World} {K : PySem.W.Frag} {mg mb : Str → Option Value} {k : Nat} {fa a : Addr} {fd : FuncData} {x : Str} {F : Fn} {s₁ : Shared} {vs : List Value} {ns : List Int}
theorem one_base {H : Hp} {h : Heap} (one : OneH H h a) {b : Addr} {m : Str → Option Value} (n : h.Ns b m) : (hidT h H).Ns b m := by
  obtain ⟨o, es, ep, e, d, r⟩ := n
  refine ⟨o, es, ep, hidT_get e ?_, d, r⟩
  cases q : H b with
  | none => rfl
  | some u =>
    obtain ⟨_, o2, xs, _, e2, hd⟩ := one.at_ b u q
    rw [e] at e2; cases e2
    rw [d] at hd; cases hd
theorem ints_rel {K : PySem.W.Frag} {W : Wd} : ∀ ns : List Int, RDs K W (ns.map V.int) (ns.map D.int)
  | [] => .nil
  | n :: ns => .cons (.int n) (ints_rel ns)
theorem law_core {H : Hp} (one : OneH H s₁.heap a) (hS : SqL K H a (ns.map V.int)) (hok : HOk P w H s₁.heap) (hKa : H a ≠ none → K.lookup a = none)
    (KX : K.In s₁.heap) (hns : s₁.heap.Ns mainGlobals mg) (hb : s₁.heap.Ns builtinsNs mb) (hbb : ∀ x : Str, x ≠ "__name__" → mb x = bootBuiltins x) (hlim : s₁.heap.NoLimit) (hg : s₁.gens = #[]) (hr : Room k callerA)
    (G : ∀ base : Heap, K.In base → base.Ns mainGlobals mg → FnG P w K mg base k fa fd [x] F) (hbind : ∀ (s : Shared) (u : Value), BindsTo s fd ⟨[u], []⟩ [(x, u)])
    (law : ∃ m, F [.frz (ns.map D.int)] [] = .ok (.bl true) m) :
    codeAny (model P w) callerA (.call (.ref fa) ⟨[.ref a], []⟩) (fun r s' => r = .ok (.ret (.bool true)) ∧ OldK s₁.heap s'.heap ∧ s'.os = s₁.os ∧ AllBare s'.gens) s₁ := by
  have kb : K.In (hidT s₁.heap H) := fun b o e => hidT_get (KX b o e) (by
    cases q : H b with
    | none => rfl
    | some u =>
      obtain ⟨eb, _⟩ := one.at_ b u q
      subst eb
      rw [hKa (by rw [q]; simp)] at e; cases e)
  have hM : Mod K mg (hidT s₁.heap H) := by
    refine ⟨kb, one_base one hns, ⟨mb, one_base one hb, hbb⟩, ?_⟩
    obtain ⟨mc, h1, h2⟩ := hlim
    exact ⟨mc, one_base one h1, h2⟩
  have e0 : Env0 P w K mg (hidT s₁.heap H) callerA [] s₁ H :=
    ⟨rfl, hM, fun _ _ e => of_hidT e, Nat.le_of_eq (hidT_size _ _), trivial, fun b hb => (by cases hb), hok, .of_eq hg⟩
  have sp : spOf K mg 1 F [.ref a] H (fun v _ => v = .bl true) (fun _ _ _ => False) := by
    obtain ⟨m, hm⟩ := law
    refine ⟨rfl, ⟨H, []⟩, [], [.frz (ns.map D.int)], ⟨Same.refl _, rfl, List.nodup_nil, fun _ h => (by cases h), fun _ _ _ h => (by simp at h), fun _ _ _ h => (by simp at h)⟩, .cons (.frz hS (ints_rel ns)) .nil, ?_⟩
    rw [hm]
    intro W' H' e rm v rv
    cases rv
    rfl
  refine codeAny_mono (G _ kb (one_base one hns) callerA [] s₁ H ⟨[.ref a], []⟩ [.ref a] [.ref a] _ _ hr rfl e0 (hbind s₁ (.ref a)) (.cons rfl .nil) sp) fun z s2 hz => ?_
  rcases z with e | fl
  · obtain ⟨_, _, _, _, _, _, _, _, _, _, _, _, bad⟩ := hz
    exact bad.elim
  · cases fl with
    | next => exact hz.elim
    | brk => exact hz.elim
    | cont => exact hz.elim
    | ret u =>
      obtain ⟨v, H2, os, bare, un, hok2, rv, q⟩ := hz
      cases q
      cases rv
      refine ⟨rfl, OldK.of_keep fun b o e => ?_, os, bare⟩
      cases q : H b with
      | none => exact un.keep b o e q (fun z => by cases z) (fun z => by cases z)
      | some u =>
        obtain ⟨_, o2, xs, rfl, e2, _⟩ := one.at_ b u q
        rw [e] at e2; cases e2
        exact (hok2 b _ (un.frzs b o _ q)).1
theorem law_G (KX : K.In s₁.heap) (hns : s₁.heap.Ns mainGlobals mg) (hb : s₁.heap.Ns builtinsNs mb) (hbb : ∀ x : Str, x ≠ "__name__" → mb x = bootBuiltins x) (hlim : s₁.heap.NoLimit) (hg : s₁.gens = #[])
    (ha : s₁.heap.get? a = some { cls := .type "list", data := .seq vs.toArray }) (hi : IntsAre vs ns) (hl : ns.length ≤ sizeLine) (hr : Room k callerA)
    (G : ∀ base : Heap, K.In base → base.Ns mainGlobals mg → FnG P w K mg base k fa fd [x] F) (hbind : ∀ (s : Shared) (u : Value), BindsTo s fd ⟨[u], []⟩ [(x, u)])
    (law : ∃ m, F [.frz (ns.map D.int)] [] = .ok (.bl true) m) :
    codeAny (model P w) callerA (.call (.ref fa) ⟨[.ref a], []⟩) (fun r s' => r = .ok (.ret (.bool true)) ∧ OldK s₁.heap s'.heap ∧ s'.os = s₁.os ∧ AllBare s'.gens) s₁ := by
  have rv := vals_ints hi
  have lv := hi.length
  cases hk : K.lookup a with
  | none =>
    refine law_core (H := fun b => if b = a then some (.frz { cls := .type "list", data := .seq vs.toArray } (.lst (ns.map V.int))) else none) ⟨fun b u q => ?_⟩ (.inl (.inr ⟨_, if_pos rfl⟩)) (fun b u q => ?_) (fun _ => hk) KX hns hb hbb hlim hg hr G hbind law
    · split at q
      · rename_i hba
        cases q; subst hba
        exact ⟨rfl, _, _, rfl, ha, rfl⟩
      · cases q
    · dsimp only at q
      split at q
      · rename_i hba
        cases q; subst hba
        exact ⟨ha, by rw [List.length_map]; exact hl, vs, _, rv, ha⟩
      · cases q
  | some o =>
    have e := KX a o hk
    rw [ha] at e
    cases e
    refine law_core (H := fun _ => none) ⟨fun b u q => by cases q⟩ (.inr ⟨_, vs.toArray, _, hk, rfl, rfl, rfl, by rw [List.size_toArray, lv]; exact hl, rv⟩) (fun b u q => by cases q) (fun z => absurd rfl z) KX hns hb hbb hlim hg hr G hbind law
theorem walk_G {l : PySem.W.OpenLaw} {n k : Nat} {q : Program} {loose : List Str} {XP : (Str → Option Value) → Heap → Prop} {YP : World → Heap → Prop} {d : DefRec} {K : Params → PySem.W.Frag} {x : Str} {F : Fn}
    (hn : l.most = some n) (hn2 : n ≤ sizeLine) (hdf : d.params.defaults = []) (hr : Room k callerA) (hY : ∀ (w : World) (h : Heap), YP w h → (K w.params).In h)
    (G : ∀ (w : World) (mg : Str → Option Value) (fa : Addr) (h : Heap), (K w.params).In h → h.Ns mainGlobals mg → mg d.name = some (.ref fa) →
      ∃ fd : FuncData, (∀ (s : Shared) (u : Value), BindsTo s fd ⟨[u], []⟩ [(x, u)]) ∧ ∀ base : Heap, (K w.params).In base → base.Ns mainGlobals mg → FnG l.prog w (K w.params) mg base k fa fd [x] F)
    (law : ∀ ns : List Int, ns.length ≤ n → ∃ m, F [.frz (ns.map D.int)] [] = .ok (.bl true) m) :
    PySem.W.WalkO q loose XP YP l.row.toRowW d [] (fun f vs => PySem.call f vs) := by
  refine Att.attach_call hn hdf ?_
  intro w s0 s1 mg mb fa o pm cd doc a vs ns Gr Y ho hd hcd hmg hobj hints hlen hg
  obtain ⟨fd, hb, hF⟩ := G w mg fa _ (hY w _ Y) Gr.T.g hmg
  exact law_G (hY w _ Y) Gr.T.g Gr.T.b Gr.T.builtins Gr.T.nolimit hg hobj hints (Nat.le_trans hlen hn2) hr hF hb (law ns hlen)
end
end Vi
namespace Vi
open PySem PySem.Spec PyProof.Rows L2
section
variable {fa : List He.Fa} {fn : List He.DefD} {ts : List He.Tab} {bs : List (PySem.W.Frag → Bool)} {w : World} {K : PySem.W.Frag}
theorem SaysH.t (c : SaysH fa fn ts bs w K) : He.SaysT fa fn ts w K := congrArg (fun z : AlH => z.1) c
theorem SaysH.b (c : SaysH fa fn ts bs w K) (i : Nat) {p : Prop} [Decidable p] {b : PySem.W.Frag → Bool} (h : bs[i]? = some b) (e : b K = decide p) : p := by
  have c1 : bs.all (fun b => b K) = true := congrArg (fun z : AlH => z.2) c
  exact of_decide_eq_true (e ▸ List.all_eq_true.mp c1 b (List.mem_of_getElem? h))
theorem SaysH.f (c : SaysH fa fn ts bs w K) (i : Nat) {p : Str × Option Str} {x q : Str} {st : Stmt} (h : fn[i]? = some (dOf p x q st)) :
    ∃ oc od sl kV dc pm an cd ct, K.lookup (He.fAd K p) = some ⟨oc, od, .func (PySem.W.fnOf x q (defArgs st) (defBody st) (defScope st) .none kV dc pm an cd ct), sl⟩ ∧ PySem.W.codeIn K cd q = true ∧ PySem.W.keepIn K (.ref (He.fAd K p)) = true := by
  obtain ⟨fd, ⟨oc, od, dV, kV, dc, pm, an, cd, ct, sl, rfl, lk, hcd, hd, _⟩, kp⟩ := c.t.d.def_ i h
  rcases hd with ⟨_, e⟩ | ⟨e, _⟩
  · subst e
    exact ⟨oc, od, sl, kV, dc, pm, an, cd, ct, lk, hcd, kp⟩
  · exact absurd rfl e
theorem SaysH.i (c : SaysH fa fn ts bs w K) (i : Nat) {x : Str} {n : Int} (h : fa[i]? = some (.int x n)) : ∃ t, PySem.W.nsIn K mainGlobals x = some (some (.int n t)) := by
  have c1 := c.t.d.fact i h
  unfold He.Fa.ok at c1
  cases e : PySem.W.nsIn K mainGlobals x with
  | none => simp [e] at c1
  | some o =>
    cases o with
    | none => simp [e] at c1
    | some v =>
      cases v with
      | int j t => simp [e] at c1; subst c1; exact ⟨t, rfl⟩
      | _ => simp [e] at c1
theorem SaysH.s (c : SaysH fa fn ts bs w K) (i : Nat) {x z : Str} (h : fa[i]? = some (.str x z)) : ∃ t, PySem.W.nsIn K mainGlobals x = some (some (.str z t)) := by
  have c1 := c.t.d.fact i h
  unfold He.Fa.ok at c1
  cases e : PySem.W.nsIn K mainGlobals x with
  | none => simp [e] at c1
  | some o =>
    cases o with
    | none => simp [e] at c1
    | some v =>
      cases v with
      | str j t => simp [e] at c1; subst c1; exact ⟨t, rfl⟩
      | _ => simp [e] at c1
end
theorem walk_GH {l : PySem.W.OpenLaw} {n k : Nat} {q : Program} {loose : List Str} {XP : (Str → Option Value) → Heap → Prop} {YP : World → Heap → Prop} {d : DefRec} {x : Str} {F : Fn}
    (hn : l.most = some n) (hn2 : n ≤ sizeLine) (hdf : d.params.defaults = []) (hr : Room k callerA)
    (G : ∀ (w : World) (mg : Str → Option Value) (fa : Addr) (h : Heap), YP w h → h.Ns mainGlobals mg → mg d.name = some (.ref fa) →
      ∃ K : PySem.W.Frag, K.In h ∧ ∃ fd : FuncData, (∀ (s : Shared) (u : Value), BindsTo s fd ⟨[u], []⟩ [(x, u)]) ∧ ∀ base : Heap, K.In base → base.Ns mainGlobals mg → FnG l.prog w K mg base k fa fd [x] F)
    (law : ∀ ns : List Int, ns.length ≤ n → ∃ m, F [.frz (ns.map D.int)] [] = .ok (.bl true) m) :
    PySem.W.WalkO q loose XP YP l.row.toRowW d [] (fun f vs => PySem.call f vs) := by
  refine Att.attach_call hn hdf ?_
  intro w s0 s1 mg mb fa o pm cd doc a vs ns Gr Y ho hd hcd hmg hobj hints hlen hg
  obtain ⟨K, KX, fd, hb, hF⟩ := G w mg fa _ Y Gr.T.g hmg
  exact law_G KX Gr.T.g Gr.T.b Gr.T.builtins Gr.T.nolimit hg hobj hints (Nat.le_trans hlen hn2) hr hF hb (law ns hlen)
end Vi
namespace Vi
open PySem PySem.Spec PyProof.Rows L2
def CallD (X : Cx) (fv : Value) (g : List D → M → R D) : Prop :=
  ∃ r, CallR X fv r ∧ ∀ (EX : Str → Hp → Prop) (W : Wd) (H : Hp) (m : M) (vs : List V) (xs : List D) (Q : VK), RM X.K X.mg W H m → RDs X.K W vs xs →
    post X.K X.mg W H (g xs m) (fun z W' H' _ => ∀ v, RD X.K W' v z → Q v H') EX → r vs H Q
def CallL (X : Cx) (fv : Value) (g : List D → M → R (List D)) : Prop :=
  ∃ r, CallR X fv r ∧ ∀ (EX : Str → Hp → Prop) (W0 W : Wd) (H0 H : Hp) (m : M) (vs : List V) (xs : List D) (Q : VK), Ex W0 H0 W H → RM X.K X.mg W H m → RDs X.K W vs xs →
    post X.K X.mg W H (g xs m) (fun zs W' H' _ => ∀ p us, H0 p = none → p ∉ W'.φ → W'.I p = none → H' p = some (.lst us) → RDs X.K W' us zs → Q (.ref p) H') EX → r vs H Q
def sCallL (g : List D → M → R (List D)) (ds : SA) : SA := fun ρ m => (ds ρ m).bind g
section
variable {X : Cx} {EX : EXT} {x : Str} {p pos : Pos} {e : Expr} {es : List Expr} {ds : SA} {id T : String} {g : List D → M → R D} {gl : List D → M → R (List D)}
theorem de_callB (hc : CallD X (.builtin id) g) (hm : X.mg x = none) (ha : DA X EX (e :: es) ds) (hg : Gl X x := by rfl) (hv : bootBuiltins x = some (.builtin id) := by decide +kernel) (hn : x ≠ "__name__" := by decide) (hdb : (x == ("__debug__" : Str)) = false := by decide)
    (he : starEach (e :: es) X.env = (false, eval e X.env) :: starEach es X.env := by rfl) (hpl : (backTo pos (starEach es X.env)).any (·.1) = false := by rfl) : DE X EX (.Call (.Name x p) (e :: es) [] pos) (sCall g ds) := by
  obtain ⟨r, hr, lift⟩ := hc
  exact PE.imp (pe_callB hr hg hm hv ha hn hdb he hpl) fun σ H Q ⟨W, ρ, m, rs, rm, h⟩ => ⟨W, ρ, m, rs, rm, post_mono (post_bind h) fun xs W1 H1 m1 e1 rm1 h1 vs rvs => lift _ W1 H1 m1 vs xs Q rm1 rvs h1⟩
theorem de_callT (hc : CallD X (.type T) g) (hm : X.mg x = none) (ha : DA X EX (e :: es) ds) (hg : Gl X x := by rfl) (hv : bootBuiltins x = some (.type T) := by decide +kernel) (hn : x ≠ "__name__" := by decide) (hdb : (x == ("__debug__" : Str)) = false := by decide)
    (he : starEach (e :: es) X.env = (false, eval e X.env) :: starEach es X.env := by rfl) (hpl : (backTo pos (starEach es X.env)).any (·.1) = false := by rfl) : DE X EX (.Call (.Name x p) (e :: es) [] pos) (sCall g ds) := by
  obtain ⟨r, hr, lift⟩ := hc
  exact PE.imp (pe_callTy hr hg hm hv ha hn hdb he hpl) fun σ H Q ⟨W, ρ, m, rs, rm, h⟩ => ⟨W, ρ, m, rs, rm, post_mono (post_bind h) fun xs W1 H1 m1 e1 rm1 h1 vs rvs => lift _ W1 H1 m1 vs xs Q rm1 rvs h1⟩
theorem dl_callB (hc : CallL X (.builtin id) gl) (hm : X.mg x = none) (ha : DA X EX (e :: es) ds) (hg : Gl X x := by rfl) (hv : bootBuiltins x = some (.builtin id) := by decide +kernel) (hn : x ≠ "__name__" := by decide) (hdb : (x == ("__debug__" : Str)) = false := by decide)
    (he : starEach (e :: es) X.env = (false, eval e X.env) :: starEach es X.env := by rfl) (hpl : (backTo pos (starEach es X.env)).any (·.1) = false := by rfl) : DL X EX (.Call (.Name x p) (e :: es) [] pos) (sCallL gl ds) := by
  obtain ⟨r, hr, lift⟩ := hc
  exact PE.imp (pe_callB hr hg hm hv ha hn hdb he hpl) fun σ H Q ⟨W, ρ, m, rs, rm, h⟩ => ⟨W, ρ, m, rs, rm, post_mono (post_bind h) fun xs W1 H1 m1 e1 rm1 h1 vs rvs => lift _ W W1 H H1 m1 vs xs Q e1 rm1 rvs h1⟩
theorem dl_callT (hc : CallL X (.type T) gl) (hm : X.mg x = none) (ha : DA X EX (e :: es) ds) (hg : Gl X x := by rfl) (hv : bootBuiltins x = some (.type T) := by decide +kernel) (hn : x ≠ "__name__" := by decide) (hdb : (x == ("__debug__" : Str)) = false := by decide)
    (he : starEach (e :: es) X.env = (false, eval e X.env) :: starEach es X.env := by rfl) (hpl : (backTo pos (starEach es X.env)).any (·.1) = false := by rfl) : DL X EX (.Call (.Name x p) (e :: es) [] pos) (sCallL gl ds) := by
  obtain ⟨r, hr, lift⟩ := hc
  exact PE.imp (pe_callTy hr hg hm hv ha hn hdb he hpl) fun σ H Q ⟨W, ρ, m, rs, rm, h⟩ => ⟨W, ρ, m, rs, rm, post_mono (post_bind h) fun xs W1 H1 m1 e1 rm1 h1 vs rvs => lift _ W W1 H H1 m1 vs xs Q e1 rm1 rvs h1⟩
end
def gRepr : List D → M → R D := fun xs m => match xs with
  | [x] => match toPyR x m with
    | some d => if (SeqAt.shaped d = true ∧ d.showable = true) ∧ d.shown.length ≤ big then .ok (.str d.shown) m else .bad
    | none => .bad
  | _ => .bad
def gLen : List D → M → R D := fun xs m => match xs with
  | [.str z] => if z.length ≤ big then .ok (.int z.length) m else .bad
  | [x] => match asSeq x m with
    | some ys => .ok (.int ys.length) m
    | none => .bad
  | _ => .bad
theorem c_len {X : Cx} : CallD X (.builtin "len") gLen := ⟨_, call_len, fun EX W H m vs xs Q rm r hp => by
  unfold gLen at hp
  split at hp
  · rename_i z
    obtain ⟨v, rfl, rv⟩ := RDs.inv1 r
    cases rv
    split at hp
    · rename_i hz
      exact ⟨_, z.length, rfl, ⟨by rw [big_eq]; exact hz, rfl⟩, post_ok hp rm _ (.int _)⟩
    · exact hp.elim
  · rename_i x _
    obtain ⟨v, rfl, rv⟩ := RDs.inv1 r
    split at hp
    · rename_i ys hy
      obtain ⟨a, us, rfl, hs, r2⟩ := seq_of rm rv hy
      refine ⟨_, ys.length, rfl, ?_, post_ok hp rm _ (.int _)⟩
      rcases hs with hs | hs
      · exact .inl ⟨us, hs, r2.length.symm⟩
      · exact .inr ⟨us, hs, r2.length.symm⟩
    · exact hp.elim
  · exact hp.elim⟩
theorem call_tupleS {X : Cx} : CallR X (.type "tuple") (fun xs H Q => ∃ p ys, xs = [.ref p] ∧ ((SqL X.K H p ys ∧ ∀ l o, H l = none → o.dict = none → Q (.ref l) (upd H l (.frz o (.tup ys)))) ∨ (SqT X.K H p ys ∧ Q (.ref p) H))) := by
  intro pins s σ H xs us Q I r ⟨p, ys, hx, h⟩
  subst hx
  obtain ⟨u, rfl, rx⟩ := vals1 r
  cases rx
  rcases h with ⟨hq, q⟩ | ⟨hq, q⟩
  · obtain ⟨its, r', pl, hz⟩ := I.list hq
    refine call_tuple_list pl.isList (fun h' kp => ?_) (by rw [List.size_toArray, ← r'.length]; exact hz)
    have I1 : Inv X pins σ H { s with heap := h' } := I.kept (t' := s.toks) kp
    have J := I1.laid (o := .frz _ (.tup ys)) (t' := s.toks) (fun _ _ e => Heap.get?_push_of_some _ e) (Nat.le_refl _) ⟨Heap.get?_push_size _ rfl, hz, its, r', IsTup.new _ _⟩
    exact ⟨.ref _, _, J, rfl, q _ _ I1.fresh rfl⟩
  · obtain ⟨its, r', pl, hz⟩ := I.tuple hq
    exact call_tuple_same pl ⟨.ref p, H, I, rfl, q⟩
def gTuple : List D → M → R D := fun xs m => match xs with
  | [.tup ys] => .ok (.tup ys) m
  | [x] => match asList x m with
    | some ys => .ok (.tup ys) m
    | none => .bad
  | _ => .bad
theorem c_tuple {X : Cx} : CallD X (.type "tuple") gTuple := ⟨_, call_tupleS, fun EX W H m vs xs Q rm r hp => by
  unfold gTuple at hp
  split at hp
  · obtain ⟨v, rfl, rv⟩ := RDs.inv1 r
    cases rv with
    | tup hT hN r2 => exact ⟨_, _, rfl, .inr ⟨same_T rm.sub hT, post_ok hp rm _ (.tup hT hN r2)⟩⟩
  · obtain ⟨v, rfl, rv⟩ := RDs.inv1 r
    split at hp
    · rename_i ys hy
      obtain ⟨a, us, rfl, hs, r2⟩ := list_of rm rv hy
      refine ⟨a, us, rfl, .inl ⟨hs, fun l o hl ho => ?_⟩⟩
      obtain ⟨e4, rm4, r4⟩ := new_tup rm hl ho r2
      exact hp _ _ e4 rm4 _ r4
    · exact hp.elim
  · exact hp.elim⟩
def gList : List D → M → R (List D) := fun xs m => match xs with
  | [x] => match asSeq x m with
    | some ys => .ok ys m
    | none => .bad
  | _ => .bad
theorem c_list {X : Cx} : CallL X (.type "list") gList := ⟨_, call_list_of, fun EX W0 W H0 H m vs xs Q e0 rm r hp => by
  unfold gList at hp
  split at hp
  · obtain ⟨v, rfl, rv⟩ := RDs.inv1 r
    split at hp
    · rename_i ys hy
      obtain ⟨a, us, rfl, hs, r2⟩ := seq_of rm rv hy
      exact ⟨a, us, rfl, hs, fun l hl => fresh_post e0 rm hl r2 hp⟩
    · exact hp.elim
  · exact hp.elim⟩
def intsD : List D → Option (List Int)
  | [] => some []
  | .int i :: xs => (intsD xs).map (i :: ·)
  | _ :: _ => none
theorem intsD_of {K : PySem.W.Frag} {W : Wd} : ∀ {vs : List V} {ds : List D} {ns : List Int}, RDs K W vs ds → intsD ds = some ns → vs = ns.map V.int
  | _, _, _, .nil, e => by cases e; rfl
  | _, _, _, .cons r t, e => by
    cases r with
    | int i =>
      simp only [intsD, Option.map_eq_some_iff] at e
      obtain ⟨ms, h1, rfl⟩ := e
      rw [intsD_of t h1]; rfl
    | _ => simp [intsD] at e
theorem sum_tupR {X : Cx} (hc : X.calm = true) : CallR X (.builtin "sum") (fun vs H Q => ∃ (a : Addr) (ns : List Int), vs = [V.ref a] ∧ SqT X.K H a (ns.map V.int) ∧ Q (.int ns.sum) H) := by
  intro pins s σ H vs us Q I r ⟨a, ns, hv, hs, q⟩
  subst hv
  obtain ⟨its, rv, hl, _⟩ := I.tuple hs
  rw [Vals.ref1 r]
  obtain ⟨zs, e⟩ := rv.ints.allInts.items
  have hn : (zs.toList.map (·.1)) = ns := by rw [← nums_intItems, ← e]; exact rv.ints.numsOf
  rw [e] at hl
  refine call_sum_walkG (iter_tuple hl ?_)
  have hne : a ≠ s.heap.objs.size := Nat.ne_of_lt hl.lt
  refine ⟨_, _, _, _, _, _, numAt zs, rfl, Walks.tuple (A := X.A.in1) (I.ok.hd hc) _ a hne (intItems zs), ⟨⟨_, Heap.get?_push_size _ rfl, rfl, rfl⟩, hl.push _⟩, ?_, fun _ _ => intItems_at, fun h' tk t' hk => ?_⟩
  · intro b hb
    simp at hb
    rcases hb with rfl | rfl
    · exact Heap.lt_size (Heap.get?_push_size s.heap rfl)
    · exact Nat.lt_trans hl.lt (Heap.lt_size (Heap.get?_push_size s.heap rfl))
  · refine ⟨.int _, H, I.kept fun b o e => hk b o (fun hm => ?_) (Heap.get?_push_of_some _ e), ⟨_, rfl⟩, ?_⟩
    · simp at hm; subst hm; exact absurd (Heap.lt_size e) (Nat.lt_irrefl _)
    have : preSum (numAt zs) (intItems zs).size = ns.sum := by
      rw [preSum_eq, List.take_of_length_le (by simp [intItems]), hn]
    rw [this]; exact q
def gSum : List D → M → R D := fun xs m => match xs with
  | [x] => match asSeq x m with
    | some ys => match intsD ys with
      | some ns => .ok (.int ns.sum) m
      | none => .bad
    | none => .bad
  | _ => .bad
theorem CallR.or' {X : Cx} {f : Value} {r r' : List V → Hp → VK → Prop} (h : CallR X f r) (h' : CallR X f r') : CallR X f (fun xs H Q => r xs H Q ∨ r' xs H Q) :=
  fun pins s σ H xs us Q I rl q => q.elim (h pins s σ H xs us Q I rl) (h' pins s σ H xs us Q I rl)
theorem c_sum {X : Cx} (hc : X.calm = true) : CallD X (.builtin "sum") gSum := ⟨_, CallR.or' (cr_sum hc) (sum_tupR hc), fun EX W H m vs xs Q rm r hp => by
  unfold gSum at hp
  split at hp
  · obtain ⟨v, rfl, rv⟩ := RDs.inv1 r
    split at hp
    · rename_i ys hy
      split at hp
      · rename_i ns hn
        obtain ⟨a, us, rfl, hs, r2⟩ := seq_of rm rv hy
        have e := intsD_of r2 hn
        subst e
        rcases hs with hs | hs
        · exact .inl ⟨a, ns, rfl, hs, post_ok hp rm _ (.int _)⟩
        · exact .inr ⟨a, ns, rfl, hs, post_ok hp rm _ (.int _)⟩
      · exact hp.elim
    · exact hp.elim
  · exact hp.elim⟩
def blsD : List D → Option (List Bool)
  | [] => some []
  | .bl i :: xs => (blsD xs).map (i :: ·)
  | _ :: _ => none
theorem blsD_of {K : PySem.W.Frag} {W : Wd} : ∀ {vs : List V} {ds : List D} {ns : List Bool}, RDs K W vs ds → blsD ds = some ns → vs = ns.map V.bl
  | _, _, _, .nil, e => by cases e; rfl
  | _, _, _, .cons r t, e => by
    cases r with
    | bl i =>
      simp only [blsD, Option.map_eq_some_iff] at e
      obtain ⟨ms, h1, rfl⟩ := e
      rw [blsD_of t h1]; rfl
    | _ => simp [blsD] at e
def gBls (f : List Bool → Bool) : List D → M → R D := fun xs m => match xs with
  | [x] => match asList x m with
    | some ys => match blsD ys with
      | some bs => .ok (.bl (f bs)) m
      | none => .bad
    | none => .bad
  | _ => .bad
theorem bls_lift {X : Cx} {f : List Bool → Bool} {r : List V → Hp → VK → Prop} {EX : Str → Hp → Prop} {W : Wd} {H : Hp} {m : M} {vs : List V} {xs : List D} {Q : VK} (hr : ∀ a bs, SqL X.K H a (bs.map V.bl) → Q (.bl (f bs)) H → r [.ref a] H Q)
    (rm : RM X.K X.mg W H m) (rl : RDs X.K W vs xs) (hp : post X.K X.mg W H (gBls f xs m) (fun z W' H' _ => ∀ v, RD X.K W' v z → Q v H') EX) : r vs H Q := by
  unfold gBls at hp
  split at hp
  · obtain ⟨v, rfl, rv⟩ := RDs.inv1 rl
    split at hp
    · rename_i ys hy
      split at hp
      · rename_i ns hn
        obtain ⟨a, us, rfl, hs, r2⟩ := list_of rm rv hy
        have e := blsD_of r2 hn
        subst e
        exact hr a ns hs (post_ok hp rm _ (.bl _))
      · exact hp.elim
    · exact hp.elim
  · exact hp.elim
def gAll := gBls fun bs => bs.all id
theorem c_all {X : Cx} (hc : X.calm = true) : CallD X (.builtin "all") gAll := ⟨_, cr_all hc, fun EX W H m vs xs Q rm r hp => bls_lift (r := rAll X.K) (fun a bs hs q => ⟨a, bs, rfl, hs, q⟩) rm r hp⟩
def gMax2 : List D → M → R D := fun xs m => match xs with
  | [.int i, .int j] => .ok (.int (if j > i then j else i)) m
  | _ => .bad
def gMin2 : List D → M → R D := fun xs m => match xs with
  | [.int i, .int j] => .ok (.int (if j < i then j else i)) m
  | _ => .bad
theorem c_min2 {X : Cx} (hc : X.calm = true) : CallD X (.builtin "min") gMin2 := ⟨_, call_min2 hc, fun EX W H m vs xs Q rm r hp => by
  unfold gMin2 at hp
  split at hp
  · obtain ⟨v, u, rfl, rv, ru⟩ := RDs.inv2 r
    cases rv; cases ru
    exact ⟨_, _, rfl, post_ok hp rm _ (.int _)⟩
  · exact hp.elim⟩
def maxI : List Int → Int
  | [] => 0
  | [x] => x
  | x :: y :: r => max x (maxI (y :: r))
theorem maxI_of : ∀ (x : Int) (r : List Int), maxI (x :: r) ∈ x :: r ∧ ∀ y ∈ x :: r, y ≤ maxI (x :: r)
  | x, [] => by simp [maxI]
  | x, y :: r => by
    obtain ⟨h1, h2⟩ := maxI_of y r
    have e : maxI (x :: y :: r) = max x (maxI (y :: r)) := rfl
    rw [e]
    refine ⟨?_, fun z hz => ?_⟩
    · rcases Int.le_total x (maxI (y :: r)) with q | q
      · rw [Int.max_eq_right q]; exact List.mem_cons_of_mem _ h1
      · rw [Int.max_eq_left q]; exact List.mem_cons_self
    · rcases List.mem_cons.mp hz with q | q
      · subst q; omega
      · have := h2 z q; omega
theorem maxI_eq {ns : List Int} {m : Int} (h0 : 0 < ns.length) (h1 : m ∈ ns) (h2 : ∀ y ∈ ns, y ≤ m) : m = maxI ns := by
  cases ns with
  | nil => simp at h0
  | cons x r =>
    obtain ⟨a, b⟩ := maxI_of x r
    have := h2 _ a
    have := b _ h1
    omega
def gInt1 : List D → M → R D := fun xs m => match xs with
  | [.int i] => .ok (.int i) m
  | [.bl k] => .ok (.int (if k then 1 else 0)) m
  | _ => .bad
theorem c_int {X : Cx} : CallD X (.type "int") gInt1 := ⟨_, call_int1, fun EX W H m vs xs Q rm r hp => by
  unfold gInt1 at hp
  split at hp
  · obtain ⟨v, rfl, rv⟩ := RDs.inv1 r
    cases rv
    exact .inl ⟨_, rfl, post_ok hp rm _ (.int _)⟩
  · obtain ⟨v, rfl, rv⟩ := RDs.inv1 r
    cases rv
    exact .inr ⟨_, rfl, post_ok hp rm _ (.int _)⟩
  · exact hp.elim⟩
def tyN : D → M → Option String
  | .non, _ => some "NoneType"
  | .bl _, _ => some "bool"
  | .int _, _ => some "int"
  | .str _, _ => some "str"
  | .tup _, _ => some "tuple"
  | .lst _, _ => some "list"
  | .frz _, _ => some "list"
  | .ref n, m => match m[n]? with
    | some (.lst _) => some "list"
    | some (.dic _) => some "dict"
    | _ => none
  | .exc _, _ => none
  | .emp, _ => some "dict"
  | .obj _ _ _, _ => none
theorem tyN_of {K : PySem.W.Frag} {mg : Str → Option Value} {W : Wd} {H : Hp} {m : M} {v : V} {x : D} {T : String} (rm : RM K mg W H m) (r : RD K W v x) (h : tyN x m = some T) : TyX K H v (.type T) := by
  have lists : ∀ {a : Addr} {vs : List V}, SqL K H a vs → TyX K H (.ref a) (.type "list") := fun {a vs} q => by
    rcases q with (q | ⟨o, q⟩) | ⟨o, its, n, q, c, _⟩
    · exact .base (.lst q)
    · exact .base (.frz q)
    · exact .kList q c
  cases r with
  | non => cases h; exact .base .non
  | bl b => cases h; exact .base (.bl b)
  | int i => cases h; exact .base (.int i)
  | str x => cases h; exact .base (.str x)
  | tup hT hN r =>
    cases h
    rcases same_T rm.sub hT with (q | ⟨o, q⟩) | ⟨o, its, n, q, c, _⟩
    · exact .base (.tup q)
    · exact .fTuple q
    · exact .kTuple q c
  | lst q r => cases h; exact .base (.lst (rm.sub _ _ q))
  | frz q r => cases h; exact lists (rm.sub.seq q)
  | exc _ _ => cases h
  | emp q => cases h; exact .base (.dK (rm.sub _ _ q))
  | obj _ _ _ _ => cases h
  | ref q =>
    dsimp only [tyN] at h
    split at h
    · rename_i xs hx
      cases h
      obtain ⟨o, ho, ⟨vs, rfl, r⟩, _⟩ := rm.get q hx (by simp)
      exact .base (.lst ho)
    · rename_i xs hx
      cases h
      obtain ⟨o, ho, ⟨vs, rfl, r⟩, _⟩ := rm.get q hx (by simp)
      exact .base (.dK ho)
    · cases h
def sIsi (T : String) (d : SE) : SE := fun ρ m => (d ρ m).bind fun x m => match tyN x m with
  | some n => match kitB n T with
    | some b => .ok (.bl b) m
    | none => .bad
  | none => .bad
theorem de_isi {X : Cx} {EX : EXT} {e : Expr} {d : SE} {T : String} {tx : Str} {p q pos : Pos} (he : DE X EX e d) (hm : X.mg "isinstance" = none) (hm2 : X.mg tx = none) (hg : Gl X "isinstance" := by rfl) (hg2 : Gl X tx := by rfl)
    (hv : bootBuiltins tx = some (.type T) := by decide +kernel) (hn2 : tx ≠ "__name__" := by decide) (hd2 : (tx == ("__debug__" : Str)) = false := by decide)
    (h1 : starEach [e, .Name tx q] X.env = (false, eval e X.env) :: starEach [.Name tx q] X.env := by rfl) (h2 : starEach [.Name tx q] X.env = (false, eval (.Name tx q) X.env) :: starEach [] X.env := by rfl) (hpl : (backTo pos (starEach [.Name tx q] X.env)).any (·.1) = false := by rfl) :
    DE X EX (.Call (.Name "isinstance" p) [e, .Name tx q] [] pos) (sIsi T d) := by
  have boot : bootBuiltins (Str.ofString "isinstance") = some (.builtin "isinstance") := by decide +kernel
  have he2 : PE X (.Name tx q) (tC (.ty T)) := pe_bltn hg2 hm2 hv (show L2.RelV (.ty T) (.type T) from rfl) hn2 hd2
  refine PE.imp (pe_callB call_isi hg hm boot (pa_cons he (pa_cons he2 pa_nil h2) h1) (by decide) (by decide) h1 hpl) fun σ H Q ⟨W, ρ, m, rs, rm, h⟩ => ⟨W, ρ, m, rs, rm, post_mono (post_bind h) fun x W1 H1 m1 e1 rm1 h1 v rv => ?_⟩
  split at h1
  · rename_i n hn
    split at h1
    · rename_i b hb
      exact ⟨v, .ty T, _, _, b, rfl, .ty T, tyN_of rm1 rv hn, kit_ty hb, post_ok h1 rm1 _ (.bl b)⟩
    · exact h1.elim
  · exact h1.elim
end Vi
namespace Vi
open PySem PySem.Spec PyProof.Rows L2
def Sq (b : Bool) (K : PySem.W.Frag) (H : Hp) (a : Addr) (vs : List V) : Prop := match b with
  | true => SqL K H a vs
  | false => SqT K H a vs
def ItsAt (b : Bool) (h : Heap) (a : Addr) (items : Array Value) : Prop := match b with
  | true => h.IsList a items
  | false => h.IsTuple a items
def itAt (b : Bool) (h : Heap) (it a : Addr) (i : Nat) : Prop := match b with
  | true => h.IsListIter it a i
  | false => h.IsTupleIter it a i
def itObj (b : Bool) (a : Addr) : Obj := match b with
  | true => { cls := .type "list_iterator", data := .fields #[.ref a, .int 0 0] }
  | false => { cls := .type "tuple_iterator", data := .fields #[.ref a, .int 0 0] }
theorem sq_its {X : Cx} {pins : List (Addr × Obj)} {σ : L2.St} {H : Hp} {s : Shared} {b : Bool} {a : Addr} {vs : List V} (I : Inv X pins σ H s) (h : Sq b X.K H a vs) : ∃ its : List Value, Vals vs its ∧ ItsAt b s.heap a its.toArray ∧ a < s.heap.objs.size := by
  cases b with
  | true => obtain ⟨its, r, p, _⟩ := I.list h; exact ⟨its, r, p.isList, p.lt⟩
  | false => obtain ⟨its, r, p, _⟩ := I.tuple h; exact ⟨its, r, p, p.lt⟩
theorem sq_inj {X : Cx} {pins : List (Addr × Obj)} {σ : L2.St} {H : Hp} {s : Shared} {b : Bool} {a : Addr} {vs us : List V} (I : Inv X pins σ H s) (h : Sq b X.K H a vs) (h' : Sq b X.K H a us) : vs = us := by
  cases b with
  | true => exact I.list_inj h h'
  | false => exact I.tuple_inj h h'
theorem sq_same {K : PySem.W.Frag} {b : Bool} {H H' : Hp} {a : Addr} {vs : List V} (e : Same H H') (h : Sq b K H a vs) : Sq b K H' a vs := by
  cases b with
  | true => exact e.seq h
  | false => exact same_T e h
theorem drawsB {prog : Program} {w : World} {A : Around} (hh : A.handled = none) (b : Bool) (it a : Addr) (hne : a ≠ it) (items : Array Value) : Draws prog w A it [it, a] items.size (fun i v => items[i]? = some v) (fun i h => itAt b h it a i ∧ ItsAt b h a items) := by
  cases b with
  | true => exact Draws.list hh it a hne items
  | false => exact Draws.tuple hh it a hne items
theorem beginsB (b : Bool) (a : Addr) (items : Array Value) : Begins (.ref a) (itObj b a) (fun h => ItsAt b h a items) := by
  cases b with
  | true => exact begins_list a items
  | false => exact begins_tuple a items
theorem itAt_obj {b : Bool} {h : Heap} {it a : Addr} {i : Nat} (x : itAt b h it a i) : ∃ o, h.get? it = some o ∧ ∀ v, o.data ≠ .cell v := by
  cases b with
  | true => obtain ⟨o, ho, hc, hd⟩ := x; exact ⟨o, ho, fun v q => by rw [hd] at q; cases q⟩
  | false => obtain ⟨o, ho, hc, hd⟩ := x; exact ⟨o, ho, fun v q => by rw [hd] at q; cases q⟩
theorem itAt_keep {b : Bool} {h h' : Heap} {it a : Addr} {i : Nat} (x : itAt b h it a i) (k : ∀ o, h.get? it = some o → h'.get? it = some o) : itAt b h' it a i := by
  cases b with
  | true => obtain ⟨o, ho, r⟩ := x; exact ⟨o, k o ho, r⟩
  | false => obtain ⟨o, ho, r⟩ := x; exact ⟨o, k o ho, r⟩
theorem itAt_new {b : Bool} {h : Heap} {it a : Addr} (x : h.get? it = some (itObj b a)) : itAt b h it a 0 := by
  cases b with
  | true => exact ⟨_, x, rfl, rfl⟩
  | false => exact ⟨_, x, rfl, rfl⟩
def IteB (b : Bool) (K : PySem.W.Frag) (a : Addr) : It :=
  ⟨fun i H => ∃ (vs : List V) (x : V), Sq b K H a vs ∧ vs[i]? = some x, fun i H v H' => ∃ T x, v = .ref T ∧ H T = none ∧ H' = upd H T (.tup [.int (i : Nat), x]) ∧ ∀ vs, Sq b K H a vs → vs[i]? = some x, fun i H => ∃ vs : List V, Sq b K H a vs ∧ vs.length = i⟩
theorem turn_enumB {P : Program} {w : World} {K : PySem.W.Frag} {elts : List Expr} {kk : Nat} {tpos : Pos} (b : Bool) (a e it : Addr) (hne : e ≠ it) (ha : a ≠ it) (ha2 : a ≠ e) :
    Turn P w K (.Tuple elts kk tpos) (IteB b K a) [e, it] e (fun i h => (∃ old, IsEnum h e it ((i : Nat) : Int) old) ∧ itAt b h it a i) where
  mem := by simp
  obj := fun i h st c hc => by
    obtain ⟨⟨old, he⟩, x⟩ := st
    simp at hc
    rcases hc with rfl | rfl
    · exact ⟨_, he, fun v q => nomatch q⟩
    · exact itAt_obj x
  keep := fun i h h' st k => by
    obtain ⟨⟨old, he⟩, x⟩ := st
    exact ⟨⟨old, k e (by simp) _ he⟩, itAt_keep x fun o q => k it (by simp) o q⟩
  item := by
    intro X hP hw hK hc i pins s σ H E I hf ⟨⟨old, he⟩, x⟩ ⟨vs, y, hq, hx⟩
    subst hP hw hK
    obtain ⟨its, rv, p, hal⟩ := sq_its I hq
    obtain ⟨u, hu, ru⟩ := rv.get hx
    have hlt : i < its.toArray.size := by
      rw [List.size_toArray]
      exact (List.getElem?_eq_some_iff.mp hu).1
    have hel : e < s.heap.objs.size := Heap.lt_size he
    have hil : it < s.heap.objs.size := let ⟨o, ho, _⟩ := itAt_obj x; Heap.lt_size ho
    have Dr := drawsB (prog := X.prog) (w := X.w) (A := X.A.in1) (I.ok.hd hc) b it a ha its.toArray
    refine wpAny_pyNext_enum_itemC (c := ((i : Nat) : Int)) Dr he ⟨x, p⟩ hlt hne (fun z => ?_) fun z h' tk hz ho ⟨x', _⟩ hT hsz hk => ?_
    · simp at z
      exact z.elim hne (fun z => ha2 z.symm)
    have ez : z = u := by
      have : its.toArray[i]? = some u := by simpa using hu
      rw [this] at hz; exact (Option.some.inj hz).symm
    subst ez
    refine ⟨_, rfl, wpAny_letOwnedTupleGo_enum (s := { s with heap := h', toks := tk + 1 }) ho fun h2 he2 sb => ?_⟩
    have hT2 : h2.get? s.heap.objs.size = some { cls := .type "tuple", data := .seq #[.int ((i : Nat) : Int) tk, z] } := (sb.2 _ (Nat.ne_of_gt hel)).trans hT
    have J := I.turnedNew (t' := tk + 1) (ch := [e, it]) (ob := .tup [.int ((i : Nat) : Int), y]) (fun c ob hb q => (sb.2 c fun z => hb (by simp [z])).trans (hk c ob (fun z => hb (by simp [z])) (fun z => hb (by simp [z])) q)) hf (Nat.le_refl _)
      ⟨by show 2 ≤ sizeLine; decide, [.int ((i : Nat) : Int) tk, z], .cons ⟨_, rfl⟩ (.cons ru .nil), ⟨_, hT2, rfl, _, rfl⟩⟩
    refine ⟨.ref s.heap.objs.size, _, J, rfl, ⟨_, y, rfl, I.fresh, rfl, fun us hus => by rw [sq_inj I hus hq]; exact hx⟩, ⟨⟨z, he2⟩, itAt_keep x' fun o q => (sb.2 it (Ne.symm hne)).trans q⟩, fun c hc' => ?_⟩
    have : c < s.heap.objs.size := by
      simp at hc'
      rcases hc' with q | q
      · rw [q]; exact hel
      · rw [q]; exact hil
    rw [upd_ne (Nat.ne_of_lt this)]
    exact (hf c hc').1
  done := by
    intro X hP hw hK hc i pins s σ H E I hf ⟨⟨old, he⟩, x⟩ ⟨vs, hq, hx⟩
    subst hP hw hK
    obtain ⟨its, rv, p, hal⟩ := sq_its I hq
    have hl : its.toArray.size = i := by rw [List.size_toArray, ← rv.length, hx]
    obtain ⟨f0, f1, f2, f3, f4, f5⟩ := hf it (by simp)
    have D := drawsB (prog := X.prog) (w := X.w) (A := X.A.in1) (I.ok.hd hc) b it a ha its.toArray
    rw [hl] at D
    exact wpAny_pyNext_enum_endD D he ⟨x, p⟩ fun h' eb => ⟨rfl, I.turned (t' := s.toks) (fun c o hb q => eb c o hb q) f0 f1 f3 f4 f5⟩
  self := fun A i s Q E ⟨⟨_, he⟩, _⟩ h => wpAny_pyIter_enum he h
def zipD (xs ys : List D) : List D := (xs.zip ys).map fun (x, y) => .tup [x, y]
def enumD (xs : List D) : List D := zipD ((List.range xs.length).map fun (i : Nat) => .int (i : Int)) xs
theorem zipD_get {xs ys : List D} {i : Nat} {d : D} (h : (zipD xs ys)[i]? = some d) : ∃ x y, xs[i]? = some x ∧ ys[i]? = some y ∧ d = .tup [x, y] := by
  unfold zipD at h
  rw [List.getElem?_map, Option.map_eq_some_iff] at h
  obtain ⟨⟨x, y⟩, h1, h2⟩ := h
  rw [List.getElem?_zip_eq_some] at h1
  exact ⟨x, y, h1.1, h1.2, h2.symm⟩
theorem zipD_len (xs ys : List D) : (zipD xs ys).length = min xs.length ys.length := by simp [zipD]
theorem pair_new {K : PySem.W.Frag} {mg : Str → Option Value} {W : Wd} {H : Hp} {m : M} {T : Addr} {v u : V} {x y : D} (rm : RM K mg W H m) (hT : H T = none) (r1 : RD K W v x) (r2 : RD K W u y) :
    ∃ W', Ex W H W' (upd H T (.tup [v, u])) ∧ RM K mg W' (upd H T (.tup [v, u])) m ∧ RW K W' (.ref T) (.tup [x, y]) := by
  obtain ⟨a, b⟩ := new_imm (o := .tup [v, u]) rm hT
  exact ⟨_, a, b, .inr ⟨T, [v, u], [x, y], rfl, rfl, .inl (.inl upd_same), .cons (r1.mono a.le) (.cons (r2.mono a.le) .nil)⟩⟩
def fixS : D → Option (List D)
  | .lst xs => some xs
  | .frz xs => some xs
  | .tup xs => some xs
  | _ => none
theorem fixS_of {K : PySem.W.Frag} {W : Wd} {v : V} {x : D} {xs : List D} (r : RD K W v x) (h : fixS x = some xs) : ∃ b a vs, v = .ref a ∧ Sq b K W.I a vs ∧ RDs K W vs xs := by
  cases r with
  | lst q r => cases h; exact ⟨true, _, _, rfl, .inl (.inl q), r⟩
  | frz q r => cases h; exact ⟨true, _, _, rfl, q, r⟩
  | tup q n r => cases h; exact ⟨false, _, _, rfl, q, r⟩
  | _ => cases h
def iEn (ds : SA) : SA := fun ρ m => (ds ρ m).bind fun xs m => match xs with
  | [x] => match fixS x with
    | some ys => .ok (enumD ys) m
    | none => .bad
  | _ => .bad
section
variable {X : Cx} {EX : EXT} {e e2 : Expr} {ds : SA} {p pos tpos : Pos} {elts : List Expr} {kk : Nat} {ta : TA}
def ItzB (b1 b2 : Bool) (K : PySem.W.Frag) (a1 a2 : Addr) : It :=
  ⟨fun i H => ∃ (vs us : List V) (x y : V), Sq b1 K H a1 vs ∧ Sq b2 K H a2 us ∧ vs[i]? = some x ∧ us[i]? = some y,
    fun i H v H' => ∃ T x y, v = .ref T ∧ H T = none ∧ H' = upd H T (.tup [x, y]) ∧ (∀ vs, Sq b1 K H a1 vs → vs[i]? = some x) ∧ ∀ us, Sq b2 K H a2 us → us[i]? = some y,
    fun i H => ∃ vs us : List V, Sq b1 K H a1 vs ∧ Sq b2 K H a2 us ∧ min vs.length us.length = i⟩
theorem turn_zipB {P : Program} {w : World} {K : PySem.W.Frag} {tpos : Pos} (b1 b2 : Bool) {a1 a2 z TI TO i1 i2 : Addr} (S : ZipSep2 z TI TO i1 i2 [i1, a1] [i2, a2]) (n1 : a1 ≠ i1) (n2 : a2 ≠ i2) :
    Turn P w K (.Tuple elts kk tpos) (ItzB b1 b2 K a1 a2) [z, TI, TO, i1, i2] z (fun i h => IsZip h z TI TO .none ∧ IsTupOf2 h TI (.ref i1) (.ref i2) ∧ (∃ x y, IsTupOf2 h TO x y) ∧ itAt b1 h i1 a1 i ∧ itAt b2 h i2 a2 i) where
  mem := by simp
  obj := fun i h ⟨hz, hTI, ⟨x, y, hTO⟩, h1, h2⟩ c hc => by
    simp at hc
    rcases hc with rfl | rfl | rfl | rfl | rfl
    · exact ⟨_, hz, fun v q => nomatch q⟩
    · exact ⟨_, hTI, fun v q => nomatch q⟩
    · exact ⟨_, hTO, fun v q => nomatch q⟩
    · exact itAt_obj h1
    · exact itAt_obj h2
  keep := fun i h h' ⟨hz, hTI, ⟨x, y, hTO⟩, h1, h2⟩ k =>
    ⟨k z (by simp) _ hz, k TI (by simp) _ hTI, ⟨x, y, k TO (by simp) _ hTO⟩, itAt_keep h1 fun o q => k i1 (by simp) o q, itAt_keep h2 fun o q => k i2 (by simp) o q⟩
  item := by
    intro X hP hw hK hc i pins s σ H E I hf ⟨hz, hTI, ⟨x0, y0, hTO⟩, h1, h2⟩ ⟨vs, us, x, y, hq1, hq2, hx, hy⟩
    subst hP hw hK
    obtain ⟨its, rv, p1, _⟩ := sq_its I hq1
    obtain ⟨jts, ru, p2, _⟩ := sq_its I hq2
    obtain ⟨u, hu, ru1⟩ := rv.get hx
    obtain ⟨v, hv, rv1⟩ := ru.get hy
    have l1 : i < its.toArray.size := by rw [List.size_toArray]; exact (List.getElem?_eq_some_iff.mp hu).1
    have l2 : i < jts.toArray.size := by rw [List.size_toArray]; exact (List.getElem?_eq_some_iff.mp hv).1
    have D1 := drawsB (prog := X.prog) (w := X.w) (A := X.A.in1) (I.ok.hd hc) b1 i1 a1 n1 its.toArray
    have D2 := drawsB (prog := X.prog) (w := X.w) (A := X.A.in1) (I.ok.hd hc) b2 i2 a2 n2 jts.toArray
    have hzl : z < s.heap.objs.size := Heap.lt_size hz
    refine wpAny_pyNext_zipD2_item S D1 D2 hz hTI hTO ⟨h1, p1⟩ ⟨h2, p2⟩ l1 l2 fun u' v' h' tk hu' hv' z' TO' ⟨h1', _⟩ ⟨h2', _⟩ hT hsz hk => ?_
    have eu : u' = u := by
      have q : its.toArray[i]? = some u := by simpa using hu
      rw [q] at hu'; exact (Option.some.inj hu').symm
    have ev : v' = v := by
      have q : jts.toArray[i]? = some v := by simpa using hv
      rw [q] at hv'; exact (Option.some.inj hv').symm
    subst eu; subst ev
    refine ⟨_, rfl, wpAny_letOwnedTupleGo_zip (s := { s with heap := h', toks := tk }) z' fun h'' z'' sb => ?_⟩
    have hT2 : h''.get? s.heap.objs.size = some { cls := .type "tuple", data := .seq #[u', v'] } := (sb.2 _ (Nat.ne_of_gt hzl)).trans hT
    have J := I.turnedNew (t' := tk) (ch := [z, TI, TO, i1, i2]) (ob := .tup [x, y]) (fun c o hb q => (sb.2 c fun q' => hb (by simp [q'])).trans (hk c o (fun q' => hb (by simp [q'])) (fun q' => hb (by simp [q'])) (fun q' => hb (by simp [q'])) (fun q' => hb (by simp [q'])) q)) hf (Nat.le_refl _)
      ⟨by show 2 ≤ sizeLine; decide, [u', v'], .cons ru1 (.cons rv1 .nil), ⟨_, hT2, rfl, _, rfl⟩⟩
    refine ⟨.ref s.heap.objs.size, _, J, rfl, ⟨_, x, y, rfl, I.fresh, rfl, fun l hl => by rw [sq_inj I hl hq1]; exact hx, fun l hl => by rw [sq_inj I hl hq2]; exact hy⟩, ⟨z'', ?_, ⟨u', v', ?_⟩, ?_, ?_⟩, fun c hcm => ?_⟩
    · exact (sb.2 _ S.TIz).trans (hk _ _ S.TIz S.TITO S.TIi1 S.TIi2 hTI)
    · exact (sb.2 _ S.TOz).trans TO'
    · exact itAt_keep h1' fun o q => (sb.2 _ (Ne.symm S.zi1)).trans q
    · exact itAt_keep h2' fun o q => (sb.2 _ (Ne.symm S.zi2)).trans q
    · have hlt : c < s.heap.objs.size := by
        simp at hcm
        rcases hcm with q | q | q | q | q
        · rw [q]; exact hzl
        · rw [q]; exact Heap.lt_size hTI
        · rw [q]; exact Heap.lt_size hTO
        · rw [q]; obtain ⟨_, e1, _⟩ := itAt_obj h1; exact Heap.lt_size e1
        · rw [q]; obtain ⟨_, e2, _⟩ := itAt_obj h2; exact Heap.lt_size e2
      rw [upd_ne (Nat.ne_of_lt hlt)]
      exact (hf c hcm).1
  done := by
    intro X hP hw hK hc i pins s σ H E I hf ⟨hz, hTI, ⟨x0, y0, hTO⟩, h1, h2⟩ ⟨vs, us, hq1, hq2, hend⟩
    subst hP hw hK
    obtain ⟨its, rv, p1, _⟩ := sq_its I hq1
    obtain ⟨jts, ru, p2, _⟩ := sq_its I hq2
    have D1 := drawsB (prog := X.prog) (w := X.w) (A := X.A.in1) (I.ok.hd hc) b1 i1 a1 n1 its.toArray
    have D2 := drawsB (prog := X.prog) (w := X.w) (A := X.A.in1) (I.ok.hd hc) b2 i2 a2 n2 jts.toArray
    have e1 : its.toArray.size = vs.length := by rw [List.size_toArray, ← rv.length]
    have e2 : jts.toArray.size = us.length := by rw [List.size_toArray, ← ru.length]
    exact wpAny_pyNext_zipD2_end S D1 D2 hz hTI hTO ⟨h1, p1⟩ ⟨h2, p2⟩ (by omega) (by omega) (by omega) fun h' tk hk => ⟨rfl, I.turnedL (t' := tk) (ch := [z, TI, TO, i1, i2]) (fun c o hb q =>
      hk c o (fun q' => hb (by simp [q'])) (fun q' => hb (by simp [q'])) (fun q' => hb (by simp [q'])) (fun q' => hb (by simp [q'])) q) hf⟩
  self := fun A i s Q E st h => wpAny_pyIter_zip st.1 h
def rZiB (K : PySem.W.Frag) (ta : TA) : TI := fun σ H R => ta σ H fun vs H1 => ∃ a1 a2 b1 b2 us ws, vs = [.ref a1, .ref a2] ∧ Sq b1 K H1 a1 us ∧ Sq b2 K H1 a2 ws ∧ R (ItzB b1 b2 K a1 a2) H1
theorem pi_zipB (hg : Gl X "zip") (hm : X.mg "zip" = none) (ha : PA X [e, e2] ta) (hs : starEach [e, e2] X.env = (false, eval e X.env) :: starEach [e2] X.env) (hpl : (backTo pos (starEach [e2] X.env)).any (·.1) = false) :
    PI X (.Tuple elts kk tpos) (.Call (.Name "zip" p) [e, e2] [] pos) (rZiB X.K ta) := by
  refine ⟨fun pins s σ H R I h => Call_ (ld_blt I hg hm PyProof.Rows.boot_zip (callWith_type1 (thn (ha.run pos pins s σ H _ I h) ?_) hs hpl))⟩
  rintro us s1 ⟨vs, H1, I1, r1, a1, a2, b1, b2, ws, xs, ev, hq1, hq2, q⟩
  subst ev
  obtain ⟨u, v, rfl, ra, rb⟩ := Vals.two r1
  cases ra; cases rb
  obtain ⟨its, rv, p1, la⟩ := sq_its I1 hq1
  obtain ⟨jts, ru, p2, lb⟩ := sq_its I1 hq2
  refine zip_begins2 (beginsB b1 a1 its.toArray) (beginsB b2 a2 jts.toArray) p1 p2 fun h' hz hTI hTO o1 o2 hsz hk => wpAny_pyIter_zip hz ?_
  have I2 : Inv X pins σ H1 { s1 with heap := h' } := I1.kept (t' := s1.toks) hk
  have S : ZipSep2 (s1.heap.objs.size + 4) (s1.heap.objs.size + 2) (s1.heap.objs.size + 3) s1.heap.objs.size (s1.heap.objs.size + 1) [s1.heap.objs.size, a1] [s1.heap.objs.size + 1, a2] :=
    zip_sep2 (fun b hb => by simp at hb; subst hb; exact la) (fun b hb => by simp at hb; subst hb; exact lb)
  refine ⟨s1.heap.objs.size + 4, [s1.heap.objs.size + 4, s1.heap.objs.size + 2, s1.heap.objs.size + 3, s1.heap.objs.size, s1.heap.objs.size + 1], _, _, H1, rfl, I2,
    turn_zipB b1 b2 S (Nat.ne_of_lt la) (Nat.ne_of_lt (Nat.lt_succ_of_lt lb)), ⟨hz, hTI, ⟨_, _, hTO⟩, itAt_new o1, itAt_new o2⟩, fun c hcm => ?_, q⟩
  have hle : s1.heap.objs.size ≤ c := by
    simp at hcm
    rcases hcm with z | z | z | z | z <;> (rw [z]; first | exact Nat.le_refl _ | exact Nat.le_add_right _ _)
  exact I1.fpOk hle (I1.hok.fresh hle)
theorem it_zipB {K : PySem.W.Frag} {mg : Str → Option Value} {W : Wd} {b1 b2 : Bool} {a1 a2 : Addr} {vs us : List V} {xs ys : List D} (h1 : Sq b1 K W.I a1 vs) (h2 : Sq b2 K W.I a2 us) (r1 : RDs K W vs xs) (r2 : RDs K W us ys) : IsIt K mg RW (ItzB b1 b2 K a1 a2) (zipD xs ys) W where
  stop := fun W1 H m le rm => ⟨vs, us, sq_same (le.I.trans rm.sub) h1, sq_same (le.I.trans rm.sub) h2, by rw [zipD_len, r1.length, r2.length]⟩
  go := fun i W1 H m le rm hi => by
    rw [zipD_len] at hi
    obtain ⟨v, hv, _⟩ := r1.get (List.getElem?_eq_getElem (show i < xs.length by omega))
    obtain ⟨u, hu, _⟩ := r2.get (List.getElem?_eq_getElem (show i < ys.length by omega))
    exact ⟨vs, us, v, u, sq_same (le.I.trans rm.sub) h1, sq_same (le.I.trans rm.sub) h2, hv, hu⟩
  yld := fun i W1 H m v H' d le rm hd ⟨T, x, y, e1, hT, eH, hx, hy⟩ => by
    subst e1; subst eH
    obtain ⟨dx, dy, g1, g2, rfl⟩ := zipD_get hd
    obtain ⟨u1, hu1, ru1⟩ := r1.get g1
    obtain ⟨u2, hu2, ru2⟩ := r2.get g2
    have q1 := hx vs (sq_same (le.I.trans rm.sub) h1)
    have q2 := hy us (sq_same (le.I.trans rm.sub) h2)
    rw [hu1] at q1; cases q1
    rw [hu2] at q2; cases q2
    exact pair_new rm hT (ru1.mono le) (ru2.mono le)
def iZi (ds : SA) : SA := fun ρ m => (ds ρ m).bind fun xs m => match xs with
  | [x, y] => match fixS x, fixS y with
    | some xs, some ys => .ok (zipD xs ys) m
    | _, _ => .bad
  | _ => .bad
theorem di_zip (hm : X.mg "zip" = none) (ha : DA X EX [e, e2] ds) (hg : Gl X "zip" := by rfl) (hs : starEach [e, e2] X.env = (false, eval e X.env) :: starEach [e2] X.env := by rfl) (hpl : (backTo pos (starEach [e2] X.env)).any (·.1) = false := by rfl) :
    DI X EX RW (.Tuple elts kk tpos) (.Call (.Name "zip" p) [e, e2] [] pos) (iZi ds) :=
  PI.imp (pi_zipB hg hm ha hs hpl) fun σ H R ⟨W, ρ, m, rs, rm, h⟩ => ⟨W, ρ, m, rs, rm, post_mono (post_bind h) fun xs W1 H1 m1 e1 rm1 h1 vs rvs => by
    split at h1
    · obtain ⟨v, u, rfl, rv, ru⟩ := RDs.inv2 rvs
      split at h1
      · rename_i xs ys hx hy
        obtain ⟨b1, a1, us, rfl, hs1, r1⟩ := fixS_of rv hx
        obtain ⟨b2, a2, ws, rfl, hs2, r2⟩ := fixS_of ru hy
        exact ⟨a1, a2, b1, b2, us, ws, rfl, sq_same rm1.sub hs1, sq_same rm1.sub hs2, post_ok h1 rm1 _ (it_zipB hs1 hs2 r1 r2)⟩
      · exact h1.elim
    · exact h1.elim⟩
end
end Vi
namespace Vi
open PySem PySem.Spec PyProof.Rows L2
def tagPy : List D → M → Option (List (D × PyData))
  | [], _ => some []
  | x :: xs, m => match toPy x m, tagPy xs m with
    | some d, some ps => some ((x, d) :: ps)
    | _, _ => none
def tupCons : PyData → Bool
  | .tuple (_ :: _) => true
  | _ => false
def notTup : PyData → Bool
  | .tuple _ => false
  | .none => false
  | _ => true
def sortOk (ds : List PyData) : Bool := (ds.all fun d => ds.all fun e => PySem.W.alike d e) && (ds.all tupCons || ds.all notTup) && ds.all fun d => decide (d.depth ≤ 64)
def sortD (rev : Bool) (ps : List (D × PyData)) : List D := (ps.mergeSort (PySem.W.dataLe rev Prod.snd)).map Prod.fst
def gSorted (rev : Bool) : List D → M → R (List D) := fun xs m => match xs with
  | [x] => match asList x m with
    | some ys => match tagPy ys m with
      | some ps => if ps.length < 2 ∨ sortOk (ps.map Prod.snd) = true then .ok (sortD rev ps) m else .bad
      | none => .bad
    | none => .bad
  | _ => .bad
theorem tagPy_rel {K : PySem.W.Frag} {mg : Str → Option Value} {W : Wd} {H : Hp} {m : M} (rm : RM K mg W H m) : ∀ {vs : List V} {xs : List D} {ps : List (D × PyData)}, RDs K W vs xs → tagPy xs m = some ps →
    ∃ qs : List (V × D × PyData), qs.map (·.1) = vs ∧ qs.map (·.2) = ps ∧ ∀ q ∈ qs, RD K W q.1 q.2.1 ∧ Dp K H q.1 q.2.2
  | _, _, _, .nil, e => by cases e; exact ⟨[], rfl, rfl, fun q h => by cases h⟩
  | _, _, _, .cons r t, e => by
    simp only [tagPy] at e
    split at e
    · rename_i d ps hd hp
      cases e
      obtain ⟨qs, h1, h2, h3⟩ := tagPy_rel rm t hp
      exact ⟨(_, _, d) :: qs, by rw [List.map_cons, h1], by rw [List.map_cons, h2], fun q hq => by
        rcases List.mem_cons.mp hq with z | z
        · subst z; exact ⟨r, dp_of rm.sub r hd⟩
        · exact h3 q z⟩
    · cases e
theorem sortOk_of {ds : List PyData} (h : sortOk ds = true) : PySem.W.AllAlike ds ∧ PySem.W.Sortable ds ∧ ∀ d ∈ ds, d.depth ≤ 64 := by
  unfold sortOk at h
  rw [Bool.and_eq_true, Bool.and_eq_true] at h
  obtain ⟨⟨h1, h2⟩, h3⟩ := h
  refine ⟨fun d hd e he => ?_, ?_, fun d hd => of_decide_eq_true (List.all_eq_true.mp h3 d hd)⟩
  · exact List.all_eq_true.mp (List.all_eq_true.mp h1 d hd) e he
  · rw [Bool.or_eq_true] at h2
    rcases h2 with h2 | h2
    · refine .inl fun d hd => ?_
      have := List.all_eq_true.mp h2 d hd
      unfold tupCons at this
      split at this
      · exact ⟨_, _, rfl⟩
      · cases this
    · refine .inr fun d hd => ?_
      have := List.all_eq_true.mp h2 d hd
      refine ⟨fun z => ?_, fun xs z => ?_⟩
      · subst z; cases this
      · subst z; cases this
theorem sort_short {α : Type} (le : α → α → Bool) {l : List α} (h : l.length < 2) : l.mergeSort le = l := by
  match l, h with
  | [], _ => exact List.mergeSort_nil
  | [a], _ => exact List.mergeSort_singleton a
section
variable {X : Cx}
def rSorts (K : PySem.W.Frag) (rev : Bool) : List V → Hp → VK → Prop := fun vs H Q => ∃ (a : Addr) (qs : List (V × D × PyData)), vs = [.ref a] ∧ SqL K H a (qs.map (·.1)) ∧ (∀ q ∈ qs, Dp K H q.1 q.2.2) ∧ (qs.length < 2 ∨ sortOk (qs.map (·.2.2)) = true) ∧
  ∀ p, H p = none → Q (.ref p) (upd H p (.lst ((qs.mergeSort (PySem.W.dataLe rev (·.2.2))).map (·.1))))
theorem each_vals {qs : List (V × D × PyData)} : ∀ {its : List Value}, Vals (qs.map (·.1)) its → PySem.W.EachIs (fun u (q : V × D × PyData) => L2.RelV q.1 u) its qs := by
  induction qs with
  | nil => intro its r; cases r; exact .nil
  | cons q qs ih => intro its r; cases r with | cons a t => exact .cons a (ih t)
theorem vals_each {qs : List (V × D × PyData)} {its : List Value} (e : PySem.W.EachIs (fun u (q : V × D × PyData) => L2.RelV q.1 u) its qs) : Vals (qs.map (·.1)) its := by
  induction e with
  | nil => exact .nil
  | cons a _ ih => exact .cons a ih
theorem each_mem {α β : Type} {R : α → β → Prop} {as : List α} {bs : List β} (e : PySem.W.EachIs R as bs) : PySem.W.EachIs (fun a b => R a b ∧ b ∈ bs) as bs := by
  induction e with
  | nil => exact .nil
  | cons h _ ih => exact .cons ⟨h, List.mem_cons_self⟩ (ih.mono fun _ _ z => ⟨z.1, List.mem_cons_of_mem _ z.2⟩)
theorem sorts_end {pins : List (Addr × Obj)} {σ : L2.St} {H : Hp} {s : Shared} {Q : VK} {rev : Bool} {its : List Value} {qs : List (V × D × PyData)} (I : Inv X pins σ H s) (hz : qs.length ≤ sizeLine)
    (q : ∀ p, H p = none → Q (.ref p) (upd H p (.lst ((qs.mergeSort (PySem.W.dataLe rev (·.2.2))).map (·.1))))) (out : List Value)
    (e : PySem.W.EachIs (fun u (q : V × D × PyData) => L2.RelV q.1 u) out (qs.mergeSort (PySem.W.dataLe rev (·.2.2)))) : EP X pins σ Q (.ref (s.heap.objs.size + 1)) { s with heap := sortedAll s.heap its out.toArray } := by
  obtain ⟨ep, he⟩ := sortedAll_at s.heap its out.toArray
  have J := I.laid (t' := s.toks) (o := .lst ((qs.mergeSort (PySem.W.dataLe rev (·.2.2))).map (·.1))) (fun _ _ => sortedAll_old) (Nat.le_succ s.heap.objs.size) ⟨by rw [List.length_map, List.length_mergeSort]; exact hz, out, ep, vals_each e, he⟩
  exact ⟨.ref _, _, J, rfl, q _ (I.hok.fresh (Nat.le_succ _))⟩
theorem triv_swo : SrtO.Swo (fun (_ _ : Value) => false) := ⟨fun _ _ h => (by cases h), fun _ _ _ _ _ => rfl⟩
theorem short_out {vs out : List Value} (h : vs.length < 2) (p : out.Perm vs) : out = vs := by
  match vs, h, p with
  | [], _, p => exact p.eq_nil
  | [a], _, p => exact List.perm_singleton.mp p
theorem call_sorts (hu : X.A.units + 100 < cLine) : CallR X (.builtin "sorted") (rSorts X.K false) := by
  intro pins s σ H vs us Q I r ⟨a, qs, hv, hs, hd, ok, q⟩
  subst hv
  obtain ⟨its, rv, pl, hz⟩ := I.list hs
  rw [List.length_map] at hz
  rw [Vals.ref1 r]
  have ei := each_vals rv
  rcases ok with ok | ok
  · refine SrtO.sorted_ord triv_swo pl.isList (by rw [ei.length]; exact hz) (fun h2 => absurd h2 (by rw [ei.length]; omega)) fun out h1 h2 => ?_
    have eo : out = its := short_out (by rw [ei.length]; exact ok) h2.perm
    subst eo
    exact sorts_end I hz q out (by rw [sort_short _ ok]; exact ei)
  · obtain ⟨o1, o2, o3⟩ := sortOk_of ok
    refine PySem.W.sorted_data (enc := fun (q : V × D × PyData) => q.2.2) pl.isList ei ((each_mem ei).mono fun u q ⟨h1, h2⟩ => Dp.reads I q.2.2 q.1 u (hd q h2) h1) o1 o2 hz (fun b hb => ?_) fun out hl eo => sorts_end I hz q out eo
    have := o3 b.2.2 (List.mem_map.mpr ⟨b, hb, rfl⟩)
    omega
theorem sorts_lift {rev : Bool} {EX : Str → Hp → Prop} {W0 W : Wd} {H0 H : Hp} {m : M} {vs : List V} {xs : List D} {Q : VK} (e0 : Ex W0 H0 W H) (rm : RM X.K X.mg W H m) (r : RDs X.K W vs xs)
    (hp : post X.K X.mg W H (gSorted rev xs m) (fun zs W' H' _ => ∀ p us, H0 p = none → p ∉ W'.φ → W'.I p = none → H' p = some (.lst us) → RDs X.K W' us zs → Q (.ref p) H') EX) : rSorts X.K rev vs H Q := by
  unfold gSorted at hp
  split at hp
  · obtain ⟨v, rfl, rv⟩ := RDs.inv1 r
    split at hp
    · rename_i ys hy
      split at hp
      · rename_i ps hps
        split at hp
        · rename_i ok
          obtain ⟨a, us, rfl, hs, r2⟩ := list_of rm rv hy
          obtain ⟨qs, h1, h2, h3⟩ := tagPy_rel rm r2 hps
          have e2 : qs.map (·.2.2) = ps.map Prod.snd := by rw [← h2, List.map_map]; rfl
          have srt : ((qs.mergeSort (PySem.W.dataLe rev (·.2.2))).map (·.2)) = ps.mergeSort (PySem.W.dataLe rev Prod.snd) := by
            rw [← h2]
            exact PySem.W.sort_maps (fun q : V × D × PyData => q.2) fun a _ b _ => rfl
          refine ⟨a, qs, rfl, by rw [h1]; exact hs, fun q hq => (h3 q hq).2, ?_, fun p hpn => ?_⟩
          · rcases ok with ok | ok
            · exact .inl (by rw [← h2, List.length_map] at ok; exact ok)
            · exact .inr (by rw [e2]; exact ok)
          · refine fresh_post e0 rm hpn ?_ hp
            unfold sortD
            rw [← srt, List.map_map]
            have : ∀ l : List (V × D × PyData), (∀ q ∈ l, RD X.K W q.1 q.2.1) → RDs X.K W (l.map (·.1)) (l.map (Prod.fst ∘ (·.2))) := by
              intro l
              induction l with
              | nil => exact fun _ => .nil
              | cons q l ih => exact fun h => .cons (h q List.mem_cons_self) (ih fun z hz => h z (List.mem_cons_of_mem _ hz))
            exact this _ fun q hq => (h3 q (List.mem_mergeSort.mp hq)).1
        · exact hp.elim
      · exact hp.elim
    · exact hp.elim
  · exact hp.elim
theorem c_sorted (hu : X.A.units + 100 < cLine) : CallL X (.builtin "sorted") (gSorted false) := ⟨_, call_sorts hu, fun EX W0 W H0 H m vs xs Q e0 rm r hp => sorts_lift e0 rm r hp⟩
end
end Vi
namespace Vi
open PySem PySem.Spec PyProof.Rows L2
mutual
def eqD : D → D → Bool
  | .non, .non => true
  | .bl a, .bl b => a == b
  | .int a, .int b => a == b
  | .str a, .str b => a == b
  | .tup xs, .tup ys => eqDs xs ys
  | .lst xs, .lst ys => eqDs xs ys
  | .frz xs, .frz ys => eqDs xs ys
  | .ref a, .ref b => a == b
  | .exc a, .exc b => decide (a = b)
  | .emp, .emp => true
  | .obj a as xs, .obj b bs ys => decide (a = b) && decide (as = bs) && eqDs xs ys
  | _, _ => false
def eqDs : List D → List D → Bool
  | [], [] => true
  | x :: xs, y :: ys => eqD x y && eqDs xs ys
  | _, _ => false
end
mutual
theorem eqD_to : ∀ {x y : D}, eqD x y = true → x = y
  | .non, y, h => by cases y <;> first | rfl | cases h
  | .bl a, y, h => by cases y <;> first | (simp only [eqD, beq_iff_eq] at h; rw [h]) | cases h
  | .int a, y, h => by cases y <;> first | (simp only [eqD, beq_iff_eq] at h; rw [h]) | cases h
  | .str a, y, h => by cases y <;> first | (simp only [eqD, beq_iff_eq] at h; rw [h]) | cases h
  | .tup xs, y, h => by cases y <;> first | (simp only [eqD] at h; rw [eqDs_to h]) | cases h
  | .lst xs, y, h => by cases y <;> first | (simp only [eqD] at h; rw [eqDs_to h]) | cases h
  | .frz xs, y, h => by cases y <;> first | (simp only [eqD] at h; rw [eqDs_to h]) | cases h
  | .ref a, y, h => by cases y <;> first | (simp only [eqD, beq_iff_eq] at h; rw [h]) | cases h
  | .exc a, y, h => by cases y <;> first | (simp only [eqD, decide_eq_true_eq] at h; rw [h]) | cases h
  | .emp, y, h => by cases y <;> first | rfl | cases h
  | .obj a as xs, y, h => by cases y <;> first | (simp only [eqD, Bool.and_eq_true, decide_eq_true_eq] at h; rw [h.1.1, h.1.2, eqDs_to h.2]) | cases h
theorem eqDs_to : ∀ {xs ys : List D}, eqDs xs ys = true → xs = ys
  | [], [], _ => rfl
  | [], _ :: _, h => by cases h
  | _ :: _, [], h => by cases h
  | x :: xs, y :: ys, h => by
    simp only [eqDs, Bool.and_eq_true] at h
    rw [eqD_to h.1, eqDs_to h.2]
end
mutual
theorem eqD_refl : ∀ x : D, eqD x x = true
  | .non => rfl
  | .bl a => by simp [eqD]
  | .int a => by simp [eqD]
  | .str a => by simp [eqD]
  | .tup xs => by simp only [eqD]; exact eqDs_refl xs
  | .lst xs => by simp only [eqD]; exact eqDs_refl xs
  | .frz xs => by simp only [eqD]; exact eqDs_refl xs
  | .ref a => by simp [eqD]
  | .exc a => by simp [eqD]
  | .emp => rfl
  | .obj a as xs => by simp only [eqD, eqDs_refl xs, decide_true, Bool.and_self]
theorem eqDs_refl : ∀ xs : List D, eqDs xs xs = true
  | [] => rfl
  | x :: xs => by simp only [eqDs, eqD_refl x, eqDs_refl xs]; rfl
end
def eqKV {κ : Type} [DecidableEq κ] : List (κ × D) → List (κ × D) → Bool
  | [], [] => true
  | (k, x) :: xs, (l, y) :: ys => decide (k = l) && eqD x y && eqKV xs ys
  | _, _ => false
theorem eqKV_to {κ : Type} [DecidableEq κ] : ∀ {xs ys : List (κ × D)}, eqKV xs ys = true → xs = ys
  | [], [], _ => rfl
  | [], _ :: _, h => by cases h
  | _ :: _, [], h => by cases h
  | (k, x) :: xs, (l, y) :: ys, h => by
    simp only [eqKV, Bool.and_eq_true, decide_eq_true_eq] at h
    rw [h.1.1, eqD_to h.1.2, eqKV_to h.2]
theorem eqKV_refl {κ : Type} [DecidableEq κ] : ∀ xs : List (κ × D), eqKV xs xs = true
  | [] => rfl
  | (k, x) :: xs => by simp [eqKV, eqD_refl x, eqKV_refl xs]
def eqC : Cell → Cell → Bool
  | .lst xs, .lst ys => eqDs xs ys
  | .dic xs, .dic ys => eqKV xs ys
  | .dct xs, .dct ys => eqKV xs ys
  | .ins c xs, .ins d ys => decide (c = d) && eqKV xs ys
  | .gone, .gone => true
  | _, _ => false
theorem eqC_to {x y : Cell} (h : eqC x y = true) : x = y := by
  cases x <;> cases y <;> first | cases h | skip
  · rw [eqDs_to (show eqDs _ _ = true from h)]
  · rw [eqKV_to (show eqKV _ _ = true from h)]
  · rw [eqKV_to (show eqKV _ _ = true from h)]
  · simp only [eqC, Bool.and_eq_true, decide_eq_true_eq] at h
    rw [h.1, eqKV_to h.2]
  · rfl
theorem eqC_refl (x : Cell) : eqC x x = true := by
  cases x <;> simp [eqC, eqDs_refl, eqKV_refl]
def eqM : M → M → Bool
  | [], [] => true
  | x :: xs, y :: ys => eqC x y && eqM xs ys
  | _, _ => false
@[simp] theorem eqM_refl : ∀ x : M, eqM x x = true
  | [] => rfl
  | x :: xs => by simp [eqM, eqC_refl, eqM_refl xs]
mutual
def noRef : D → Bool
  | .tup xs => noRefs xs
  | .lst xs => noRefs xs
  | .frz xs => noRefs xs
  | .ref _ => false
  | .non => true
  | .bl _ => true
  | .int _ => true
  | .str _ => true
  | .exc _ => true
  | .emp => true
  | .obj _ _ xs => noRefs xs
def noRefs : List D → Bool
  | [] => true
  | x :: xs => noRef x && noRefs xs
end
def noKV {κ : Type} : List (κ × D) → Bool
  | [] => true
  | (_, x) :: xs => noRef x && noKV xs
def plainC : Cell → Bool
  | .lst xs => noRefs xs
  | .dic xs => noKV xs
  | .dct xs => noKV xs
  | .ins _ xs => noKV xs
  | .gone => true
mutual
def lowD (n : Nat) : D → Bool
  | .tup xs => lowDs n xs
  | .lst xs => lowDs n xs
  | .frz xs => lowDs n xs
  | .ref i => decide (i < n)
  | .non => true
  | .bl _ => true
  | .int _ => true
  | .str _ => true
  | .exc _ => true
  | .emp => true
  | .obj _ _ xs => lowDs n xs
def lowDs (n : Nat) : List D → Bool
  | [] => true
  | x :: xs => lowD n x && lowDs n xs
end
mutual
theorem low_no {n : Nat} : ∀ {x : D}, noRef x = true → lowD n x = true
  | .tup xs, h => by simp only [noRef] at h; simp only [lowD]; exact lows_no h
  | .lst xs, h => by simp only [noRef] at h; simp only [lowD]; exact lows_no h
  | .frz xs, h => by simp only [noRef] at h; simp only [lowD]; exact lows_no h
  | .ref _, h => by simp [noRef] at h
  | .non, _ => rfl
  | .bl _, _ => rfl
  | .int _, _ => rfl
  | .str _, _ => rfl
  | .exc _, _ => rfl
  | .emp, _ => rfl
  | .obj _ _ xs, h => by simp only [noRef] at h; simp only [lowD]; exact lows_no h
theorem lows_no {n : Nat} : ∀ {xs : List D}, noRefs xs = true → lowDs n xs = true
  | [], _ => rfl
  | x :: xs, h => by
    simp only [noRefs, Bool.and_eq_true] at h
    simp only [lowDs, low_no h.1, lows_no h.2, Bool.and_self]
end
def lowC (n : Nat) : Cell → Bool
  | .lst xs => lowDs n xs
  | .dic xs => noKV xs
  | .dct xs => noKV xs
  | .ins _ xs => noKV xs
  | .gone => true
def okMn (n : Nat) : M → M → Bool
  | [], [] => true
  | x :: xs, y :: ys => (eqC x y || lowC n x) && okMn n xs ys
  | _, _ => false
def okM (x y : M) : Bool := okMn y.length x y
theorem okMn_refl (n : Nat) : ∀ x : M, okMn n x x = true
  | [] => rfl
  | x :: xs => by simp [okMn, eqC_refl, okMn_refl n xs]
@[simp] theorem okM_refl (x : M) : okM x x = true := okMn_refl _ x
theorem okMn_get {n : Nat} : ∀ {m' m : M} {i : Nat} {c : Cell}, okMn n m' m = true → m'[i]? = some c → m[i]? = some c ∨ lowC n c = true
  | [], [], _, _, _, e => by simp at e
  | [], _ :: _, _, _, h, _ => by cases h
  | _ :: _, [], _, _, h, _ => by cases h
  | x :: xs, y :: ys, 0, c, h, e => by
    simp only [okMn, Bool.and_eq_true, Bool.or_eq_true] at h
    have e' : x = c := by simpa using e
    subst e'
    rcases h.1 with q | q
    · left; rw [eqC_to q]; rfl
    · exact .inr q
  | x :: xs, y :: ys, i + 1, c, h, e => by
    simp only [okMn, Bool.and_eq_true] at h
    have := okMn_get (i := i) h.2 (by simpa using e)
    simpa using this
theorem okM_get {m' m : M} {i : Nat} {c : Cell} (h : okM m' m = true) (e : m'[i]? = some c) : m[i]? = some c ∨ lowC m.length c = true := okMn_get h e
theorem okMn_len {n : Nat} : ∀ {m' m : M}, okMn n m' m = true → m'.length = m.length
  | [], [], _ => rfl
  | [], _ :: _, h => by cases h
  | _ :: _, [], h => by cases h
  | x :: xs, y :: ys, h => by
    simp only [okMn, Bool.and_eq_true] at h
    simp [okMn_len h.2]
theorem okM_len {m' m : M} (h : okM m' m = true) : m'.length = m.length := okMn_len h
def mapO (f : D → Option D) : List D → Option (List D)
  | [] => some []
  | x :: xs => match f x, mapO f xs with
    | some y, some ys => some (y :: ys)
    | _, _ => none
def fz (m : M) (n : Nat) : Nat → D → Option D
  | 0, x => if noRef x = true then some x else none
  | k + 1, x => if noRef x = true then some x else match x with
    | .tup xs => (mapO (fz m n k) xs).map .tup
    | .lst xs => (mapO (fz m n k) xs).map .lst
    | .ref i => if i < n then some (.ref i) else match m[i]? with
      | some (.lst xs) => (mapO (fz m n k) xs).map .lst
      | _ => none
    | _ => none
theorem fz_no {m : M} {n k : Nat} {x : D} (h : noRef x = true) : fz m n k x = some x := by
  cases k <;> simp [fz, h]
abbrev fzK : Nat := 4
def exitF (F : Fn) : Fn := fun ds m => match F ds m with
  | .ok x m' => if okM (m'.take m.length) m = true then match fz m' m.length fzK x with
    | some x' => .ok x' (m'.take m.length)
    | none => .bad
    else .bad
  | .exn c m' => if okM (m'.take m.length) m = true then .exn c (m'.take m.length) else .bad
  | .bad => .bad
section
variable {K : PySem.W.Frag} {mg : Str → Option Value}
mutual
theorem rd_plain {W' W1 : Wd} (e : Same W'.I W1.I) : ∀ {v : V} {d : D}, RD K W' v d → noRef d = true → RD K W1 v d
  | _, _, .non, _ => .non
  | _, _, .bl b, _ => .bl b
  | _, _, .int i, _ => .int i
  | _, _, .str x, _ => .str x
  | _, _, .tup h n r, q => .tup (same_T e h) (same_N e n) (rds_plain e r (by simpa [noRef] using q))
  | _, _, .lst h r, q => .lst (e _ _ h) (rds_plain e r (by simpa [noRef] using q))
  | _, _, .frz h r, q => .frz (e.seq h) (rds_plain e r (by simpa [noRef] using q))
  | _, _, .ref h, q => by simp [noRef] at q
  | _, _, .exc h r, _ => .exc h (e _ _ r)
  | _, _, .emp r, _ => .emp (e _ _ r)
  | _, _, .obj h r n p, q => .obj h (e _ _ r) n (rds_plain e p (by simpa [noRef] using q))
theorem rds_plain {W' W1 : Wd} (e : Same W'.I W1.I) : ∀ {vs : List V} {ds : List D}, RDs K W' vs ds → noRefs ds = true → RDs K W1 vs ds
  | _, _, .nil, _ => .nil
  | _, _, .cons r t, q => by
    simp only [noRefs, Bool.and_eq_true] at q
    exact .cons (rd_plain e r q.1) (rds_plain e t q.2)
end
theorem rkv_plain {κ : Type} {W' W1 : Wd} (e : Same W'.I W1.I) : ∀ {a : List (κ × V)} {b : List (κ × D)}, RKV K W' a b → noKV b = true → RKV K W1 a b
  | [], [], .nil, _ => .nil
  | _, (k, y) :: ys, .cons p h, q => by
    simp only [noKV, Bool.and_eq_true] at q
    exact .cons ⟨p.1, rd_plain e p.2 q.1⟩ (rkv_plain e h q.2)
theorem old_at {φ ψ : List Addr} {n : Nat} {a b : Addr} (h : φ[n]? = some a) (h' : (φ ++ ψ)[n]? = some b) : φ[n]? = some b := by
  have hl : n < φ.length := (List.getElem?_eq_some_iff.mp h).1
  rwa [List.getElem?_append_left hl] at h'
mutual
theorem rd_old {W W' W1 : Wd} {ψ : List Addr} (eφ : W'.φ = W.φ ++ ψ) (e1 : W1.φ = W.φ) (e : Same W'.I W1.I) : ∀ {d : D} {v u : V}, RD K W u d → RD K W' v d → RD K W1 v d
  | .non, _, _, _, r => by cases r; exact .non
  | .bl _, _, _, _, r => by cases r; exact .bl _
  | .int _, _, _, _, r => by cases r; exact .int _
  | .str _, _, _, _, r => by cases r; exact .str _
  | .tup xs, _, _, r0, r => by
    cases r0 with
    | tup _ _ q0 => cases r with
      | tup h n q => exact .tup (same_T e h) (same_N e n) (rds_old eφ e1 e q0 q)
  | .lst xs, _, _, r0, r => by
    cases r0 with
    | lst _ q0 => cases r with
      | lst h q => exact .lst (e _ _ h) (rds_old eφ e1 e q0 q)
  | .frz xs, _, _, r0, r => by
    cases r0 with
    | frz _ q0 => cases r with
      | frz h q => exact .frz (e.seq h) (rds_old eφ e1 e q0 q)
  | .ref n, _, _, r0, r => by
    cases r0 with
    | ref q0 => cases r with
      | ref q => exact .ref (by rw [e1]; rw [eφ] at q; exact old_at q0 q)
  | .exc _, _, _, _, r => by
    cases r with
    | exc h q => exact .exc h (e _ _ q)
  | .emp, _, _, _, r => by
    cases r with
    | emp q => exact .emp (e _ _ q)
  | .obj _ _ xs, _, _, r0, r => by
    cases r0 with
    | obj _ q' z' q0 => cases r with
      | obj h q z p => exact .obj h (e _ _ q) z (rds_old eφ e1 e q0 p)
theorem rds_old {W W' W1 : Wd} {ψ : List Addr} (eφ : W'.φ = W.φ ++ ψ) (e1 : W1.φ = W.φ) (e : Same W'.I W1.I) : ∀ {ds : List D} {vs us : List V}, RDs K W us ds → RDs K W' vs ds → RDs K W1 vs ds
  | [], _, _, _, r => by cases r; exact .nil
  | d :: ds, _, _, r0, r => by
    cases r0 with
    | cons p0 q0 => cases r with
      | cons p q => exact .cons (rd_old eφ e1 e p0 p) (rds_old eφ e1 e q0 q)
end
theorem rkv_old {κ : Type} {W W' W1 : Wd} {ψ : List Addr} (eφ : W'.φ = W.φ ++ ψ) (e1 : W1.φ = W.φ) (e : Same W'.I W1.I) : ∀ {b : List (κ × D)} {a c : List (κ × V)}, RKV K W c b → RKV K W' a b → RKV K W1 a b
  | _, _, _, .nil, .nil => .nil
  | _, _, _, .cons p0 h0, .cons p h => .cons ⟨p.1, rd_old eφ e1 e p0.2 p.2⟩ (rkv_old eφ e1 e h0 h)
theorem rkt_old {W W' W1 : Wd} {ψ : List Addr} (eφ : W'.φ = W.φ ++ ψ) (e1 : W1.φ = W.φ) (e : Same W'.I W1.I) : ∀ {b : List (List Key × D)} {a c : List (List Int × Addr × Value)}, RKT K W c b → RKT K W' a b → RKT K W1 a b
  | _, _, _, .nil, .nil => .nil
  | _, _, _, .cons p0 h0, .cons p h => by
    obtain ⟨_, _, v0, _, q0⟩ := p0
    obtain ⟨q1, q2, v, q3, q4⟩ := p
    exact .cons ⟨q1, same_T e q2, v, q3, rd_old eφ e1 e q0 q4⟩ (rkt_old eφ e1 e h0 h)
theorem rkt_plain {W' W1 : Wd} (e : Same W'.I W1.I) : ∀ {a : List (List Int × Addr × Value)} {b : List (List Key × D)}, RKT K W' a b → noKV b = true → RKT K W1 a b
  | [], [], .nil, _ => .nil
  | _, (k, y) :: ys, .cons p h, q => by
    simp only [noKV, Bool.and_eq_true] at q
    obtain ⟨q1, q2, v, q3, q4⟩ := p
    exact .cons ⟨q1, same_T e q2, v, q3, rd_plain e q4 q.1⟩ (rkt_plain e h q.2)
theorem rc_old {W W' W1 : Wd} {ψ : List Addr} (eφ : W'.φ = W.φ ++ ψ) (e1 : W1.φ = W.φ) (e : Same W'.I W1.I) {o0 o : HO} : ∀ {c : Cell}, RC K mg W o0 c → RC K mg W' o c → RC K mg W1 o c
  | .lst _, ⟨_, _, r0⟩, ⟨xs, h, r⟩ => ⟨xs, h, rds_old eφ e1 e r0 r⟩
  | .dic _, ⟨_, _, r0⟩, ⟨xs, h, r⟩ => ⟨xs, h, rkv_old eφ e1 e r0 r⟩
  | .dct _, ⟨_, _, _, r0⟩, ⟨a, xs, h, r⟩ => ⟨a, xs, h, rkt_old eφ e1 e r0 r⟩
  | .ins _ _, ⟨_, _, _, _, _, r0⟩, ⟨C, dx, xs, h, g, r⟩ => ⟨C, dx, xs, h, g, rkv_old eφ e1 e r0 r⟩
  | .gone, _, _ => trivial
theorem rc_plain {W' W1 : Wd} (e : Same W'.I W1.I) {o : HO} : ∀ {c : Cell}, RC K mg W' o c → plainC c = true → RC K mg W1 o c
  | .lst _, ⟨xs, h, r⟩, q => ⟨xs, h, rds_plain e r q⟩
  | .dic _, ⟨xs, h, r⟩, q => ⟨xs, h, rkv_plain e r q⟩
  | .dct _, ⟨a, xs, h, r⟩, q => ⟨a, xs, h, rkt_plain e r q⟩
  | .ins _ _, ⟨C, dx, xs, h, g, r⟩, q => ⟨C, dx, xs, h, g, rkv_plain e r q⟩
  | .gone, _, _ => trivial
mutual
theorem rd_low {W W' W1 : Wd} {ψ : List Addr} (eφ : W'.φ = W.φ ++ ψ) (e1 : W1.φ = W.φ) (e : Same W'.I W1.I) : ∀ {d : D} {v : V}, lowD W.φ.length d = true → RD K W' v d → RD K W1 v d
  | .non, _, _, r => by cases r; exact .non
  | .bl _, _, _, r => by cases r; exact .bl _
  | .int _, _, _, r => by cases r; exact .int _
  | .str _, _, _, r => by cases r; exact .str _
  | .tup xs, _, q, r => by
    cases r with
    | tup h n p => exact .tup (same_T e h) (same_N e n) (rds_low eφ e1 e (by simpa [lowD] using q) p)
  | .lst xs, _, q, r => by
    cases r with
    | lst h p => exact .lst (e _ _ h) (rds_low eφ e1 e (by simpa [lowD] using q) p)
  | .frz xs, _, q, r => by
    cases r with
    | frz h p => exact .frz (e.seq h) (rds_low eφ e1 e (by simpa [lowD] using q) p)
  | .ref n, _, q, r => by
    cases r with
    | ref p =>
      have hn : n < W.φ.length := by simpa [lowD] using q
      rw [eφ, List.getElem?_append_left hn] at p
      exact .ref (by rw [e1]; exact p)
  | .exc _, _, _, r => by
    cases r with
    | exc h q => exact .exc h (e _ _ q)
  | .emp, _, _, r => by
    cases r with
    | emp q => exact .emp (e _ _ q)
  | .obj _ _ xs, _, q, r => by
    cases r with
    | obj h g z p => exact .obj h (e _ _ g) z (rds_low eφ e1 e (by simpa [lowD] using q) p)
theorem rds_low {W W' W1 : Wd} {ψ : List Addr} (eφ : W'.φ = W.φ ++ ψ) (e1 : W1.φ = W.φ) (e : Same W'.I W1.I) : ∀ {ds : List D} {vs : List V}, lowDs W.φ.length ds = true → RDs K W' vs ds → RDs K W1 vs ds
  | [], _, _, r => by cases r; exact .nil
  | d :: ds, _, q, r => by
    simp only [lowDs, Bool.and_eq_true] at q
    cases r with
    | cons p t => exact .cons (rd_low eφ e1 e q.1 p) (rds_low eφ e1 e q.2 t)
end
theorem rc_low {W W' W1 : Wd} {ψ : List Addr} (eφ : W'.φ = W.φ ++ ψ) (e1 : W1.φ = W.φ) (e : Same W'.I W1.I) {o : HO} : ∀ {c : Cell}, RC K mg W' o c → lowC W.φ.length c = true → RC K mg W1 o c
  | .lst _, ⟨xs, h, r⟩, q => ⟨xs, h, rds_low eφ e1 e q r⟩
  | .dic _, r, q => rc_plain (c := .dic _) e r q
  | .dct _, r, q => rc_plain (c := .dct _) e r q
  | .ins _ _, r, q => rc_plain (c := .ins _ _) e r q
  | .gone, _, _ => trivial
noncomputable def cutW (W W' : Wd) (H' : Hp) : Wd := ⟨fun a => open Classical in if a ∈ W'.φ.drop W.φ.length then H' a else W'.I a, W.φ⟩
theorem cut_same {W W' : Wd} {H' : Hp} {m' : M} (rm' : RM K mg W' H' m') : Same W'.I (cutW W W' H').I := by
  intro a o h
  unfold cutW
  dsimp only
  split
  · exact rm'.sub a o h
  · exact h
theorem cut_ok {W W' : Wd} {H H' : Hp} {m m' : M} (rm : RM K mg W H m) (e : Ex W H W' H') (rm' : RM K mg W' H' m') (ok : okM (m'.take m.length) m = true) :
    Ex W H (cutW W W' H') H' ∧ RM K mg (cutW W W' H') H' (m'.take m.length) := by
  obtain ⟨ψ, eφ, new⟩ := e.φ
  have es := cut_same (W := W) rm'
  have hdrop : W'.φ.drop W.φ.length = ψ := by rw [eφ]; exact List.drop_left
  have at1 : ∀ a, a ∉ ψ → (cutW W W' H').I a = W'.I a := fun a h => by
    unfold cutW; dsimp only; rw [hdrop, if_neg h]
  have at2 : ∀ a, a ∈ ψ → (cutW W W' H').I a = H' a := fun a h => by
    unfold cutW; dsimp only; rw [hdrop, if_pos h]
  have hlen : (m'.take m.length).length = m.length := okM_len ok
  refine ⟨⟨e.I.trans es, ⟨[], by simp [cutW], by simp⟩, e.fr, e.al, fun a o h => ?_⟩, ⟨fun a o h => ?_, by rw [hlen]; exact rm.len, rm.nd, fun a h => e.al a (rm.al a h), fun i a c h1 h2 h3 => ?_, fun i a c h1 h2 h3 => ?_⟩⟩
  · by_cases q : a ∈ ψ
    · exact .inr (.inl (new a q))
    · rw [at1 a q] at h; exact e.nw a o h
  · by_cases q : a ∈ ψ
    · rw [at2 a q] at h; exact h
    · rw [at1 a q] at h; exact rm'.sub a o h
  · have h1' : W.φ[i]? = some a := h1
    have hi : i < m.length := by
      have := (List.getElem?_eq_some_iff.mp h1').1
      rw [rm.len] at this; exact this
    have h4 : W'.φ[i]? = some a := e.le.get h1'
    have h5 : m'[i]? = some c := by rw [List.getElem?_take] at h2; simpa [hi] using h2
    obtain ⟨o, ho, rc⟩ := rm'.obj i a c h4 h5 h3
    refine ⟨o, ho, ?_⟩
    rcases okM_get ok h2 with q | q
    · obtain ⟨o0, _, rc0⟩ := rm.obj i a c h1' q h3
      exact rc_old (W1 := cutW W W' H') eφ rfl es rc0 rc
    · exact rc_low (W1 := cutW W W' H') eφ rfl es rc (by rw [rm.len]; exact q)
  · have h1' : W.φ[i]? = some a := h1
    have hi : i < m.length := by
      have := (List.getElem?_eq_some_iff.mp h1').1
      rw [rm.len] at this; exact this
    have h4 : W'.φ[i]? = some a := e.le.get h1'
    have h5 : m'[i]? = some c := by rw [List.getElem?_take] at h2; simpa [hi] using h2
    have nq : a ∉ ψ := fun q => by
      have := rm'.nd
      rw [eφ, List.nodup_append] at this
      exact this.2.2 a (List.mem_of_getElem? h1') a q rfl
    rw [at1 a nq]
    exact rm'.off i a c h4 h5 h3
theorem fz_rd {W W' : Wd} {H' : Hp} {m m' : M} {ψ : List Addr} (eφ : W'.φ = W.φ ++ ψ) (hl : W.φ.length = m.length) (rm' : RM K mg W' H' m') : ∀ (k : Nat) {x x' : D} {v : V}, fz m' m.length k x = some x' → RD K W' v x → RD K (cutW W W' H') v x' := by
  have es := cut_same (W := W) rm'
  have hdrop : W'.φ.drop W.φ.length = ψ := by rw [eφ]; exact List.drop_left
  intro k
  induction k with
  | zero =>
    intro x x' v h r
    simp only [fz] at h
    split at h
    · rename_i q; cases h; exact rd_plain es r q
    · cases h
  | succ k ih =>
    have ihs : ∀ {xs xs' : List D} {vs : List V}, mapO (fz m' m.length k) xs = some xs' → RDs K W' vs xs → RDs K (cutW W W' H') vs xs' := by
      intro xs
      induction xs with
      | nil => intro xs' vs h r; cases h; cases r; exact .nil
      | cons x xs ihx =>
        intro xs' vs h r
        cases r with
        | cons p q =>
          unfold mapO at h
          split at h
          · rename_i y ys h1 h2
            cases h
            exact .cons (ih h1 p) (ihx h2 q)
          · cases h
    intro x x' v h r
    simp only [fz] at h
    split at h
    · rename_i q; cases h; exact rd_plain es r q
    · cases r with
      | non => cases h
      | bl _ => cases h
      | int _ => cases h
      | str _ => cases h
      | frz _ _ => cases h
      | exc _ _ => cases h
      | emp _ => cases h
      | obj _ _ _ _ => cases h
      | tup h1 n q =>
        obtain ⟨ys, e1, e2⟩ := Option.map_eq_some_iff.mp h
        subst e2
        exact .tup (same_T es h1) (same_N es n) (ihs e1 q)
      | lst h1 q =>
        obtain ⟨ys, e1, e2⟩ := Option.map_eq_some_iff.mp h
        subst e2
        exact .lst (es _ _ h1) (ihs e1 q)
      | @ref i a q =>
        dsimp only at h
        split at h
        · rename_i hi
          cases h
          rw [← hl] at hi
          exact .ref (by rw [eφ, List.getElem?_append_left hi] at q; exact q)
        · rename_i hi
          split at h
          · rename_i xs hm
            obtain ⟨ys, e1, e2⟩ := Option.map_eq_some_iff.mp h
            subst e2
            obtain ⟨o, ho, us, eo, ru⟩ := rm'.obj i a _ q hm (by simp)
            subst eo
            have hn : a ∈ ψ := by
              rw [← hl] at hi
              rw [eφ, List.getElem?_append_right (Nat.le_of_not_lt hi)] at q
              exact List.mem_of_getElem? q
            refine .lst (xs := us) ?_ (ihs e1 ru)
            show (cutW W W' H').I a = _
            unfold cutW
            dsimp only
            rw [hdrop, if_pos hn]
            exact ho
          · cases h
variable {P : Program} {w : World} {base : Heap}
theorem exit_ok {k : Nat} {f : Addr} {fd : FuncData} {ps : List Str} {F : Fn} (G : FnG P w K mg base k f fd ps F) : FnG P w K mg base k f fd ps (exitF F) := by
  intro A outer s H args us vs Q E hr hg e0 bind rel ⟨hl, W, m, ds, rm, rds, hp⟩
  refine G A outer s H args us vs Q E hr hg e0 bind rel ⟨hl, W, m, ds, rm, rds, ?_⟩
  unfold exitF at hp
  revert hp
  cases F ds m with
  | bad => exact fun hp => hp
  | exn c m' =>
    intro hp W' H' e rm'
    dsimp only at hp
    split at hp
    · rename_i ok
      obtain ⟨e2, rm2⟩ := cut_ok rm e rm' ok
      exact hp _ _ e2 rm2
    · exact hp.elim
  | ok x m' =>
    intro hp W' H' e rm' v rv
    dsimp only at hp
    split at hp
    · rename_i ok
      obtain ⟨e2, rm2⟩ := cut_ok rm e rm' ok
      obtain ⟨ψ, eφ, _⟩ := e.φ
      split at hp
      · rename_i x' hx
        exact hp _ _ e2 rm2 v (fz_rd eφ rm.len rm' _ hx rv)
      · exact hp.elim
    · exact hp.elim
end
section
variable {X : Cx} {EX : EXT} {d : SS} {i : Nat}
end
end Vi
namespace Vi
open PySem PySem.Spec PyProof.Rows L2
section
variable {X : Cx} {EX : EXT} {tg e : Expr} {d : SE}
def iS (d : SE) : SA := fun ρ m => (d ρ m).bind fun x m => match fixS x with
  | some xs => .ok xs m
  | none => .bad
theorem di_seq (h : DE X EX e d) : DI X EX RD tg e (iS d) := by
  refine ⟨fun pins s σ H R I hq => ?_⟩
  obtain ⟨W, ρ, m, rs, rm, hp⟩ := hq
  by_cases ht : ∃ xs m', d ρ m = .ok (.tup xs) m'
  · obtain ⟨xs, m', e1⟩ := ht
    refine (di_tup h).run pins s σ H R I ⟨W, ρ, m, rs, rm, ?_⟩
    simp only [iS, iT, e1, bind_ok, fixS] at hp ⊢
    exact hp
  · refine (di_list h).run pins s σ H R I ⟨W, ρ, m, rs, rm, ?_⟩
    cases e1 : d ρ m with
    | bad => simp only [iS, e1, bind_bad] at hp; exact hp.elim
    | exn c m1 => simp only [iS, iL, e1, bind_exn] at hp ⊢; exact hp
    | ok x m1 =>
      cases x with
      | tup xs => exact absurd ⟨_, _, e1⟩ ht
      | _ => simp only [iS, iL, e1, bind_ok, fixS, fixL] at hp ⊢; first | exact hp | exact hp.elim
end
section
variable {X : Cx} {k : Nat} {EX : EXT}
theorem BodyCx.hu (B : BodyCx X k EX) : X.A.units + 100 < cLine := by have := B.room.un; omega
theorem BodyCx.hu64 (B : BodyCx X k EX) : X.A.units + 64 < cLine := by have := B.room.un; omega
end
end Vi
namespace Vi
open PySem PySem.Spec PyProof.Rows L2
section
variable {X : Cx}
def rMaxT (K : PySem.W.Frag) : List V → Hp → VK → Prop := fun vs H Q => ∃ (a : Addr) (ns : List Int), vs = [V.ref a] ∧ SqT K H a (ns.map V.int) ∧ 0 < ns.length ∧ ∀ m, m ∈ ns → (∀ y, y ∈ ns → y ≤ m) → Q (.int m) H
theorem max_tupR (hc : X.calm = true) : CallR X (.builtin "max") (rMaxT X.K) := by
  intro pins s σ H vs us Q I r ⟨a, ns, hv, hs, hne, q⟩
  subst hv
  obtain ⟨its, rv, hl, _⟩ := I.tuple hs
  rw [Vals.ref1 r]
  obtain ⟨zs, e⟩ := rv.ints.allInts.items
  have hn : (zs.toList.map (·.1)) = ns := by rw [← nums_intItems, ← e]; exact rv.ints.numsOf
  rw [e] at hl
  have hsz : 0 < zs.size := by
    rw [← hn] at hne; simpa using hne
  have hat : a ≠ s.heap.objs.size := Nat.ne_of_lt hl.lt
  refine call_max_walk (iter_tuple hl ?_)
  refine ⟨_, _, _, _, _, _, _, rfl, Walks.tuple (A := X.A.in1) (I.ok.hd hc) _ a hat (intItems zs), ⟨⟨_, Heap.get?_push_size _ rfl, rfl, rfl⟩, hl.push _⟩, ?_, by simpa [intItems] using hsz, CmpOf.ints_gt (numAt zs) (fun _ _ => intItems_at), fun v h' tk hP hk => ?_⟩
  · intro b hb
    simp at hb
    rcases hb with rfl | rfl
    · exact Heap.lt_size (Heap.get?_push_size s.heap rfl)
    · exact Nat.lt_trans hl.lt (Heap.lt_size (Heap.get?_push_size s.heap rfl))
  · have hP : (intItems zs)[argBest (fun i j => decide (numAt zs i > numAt zs j)) (zs.size - 1)]? = some v := by simpa [intItems] using hP
    obtain ⟨t, rfl⟩ := intItems_at hP
    obtain ⟨h1, h2⟩ := argBest_gt (numAt zs) (zs.size - 1)
    refine ⟨.int _, H, I.kept fun b o e => hk b o (fun hm => ?_) (Heap.get?_push_of_some _ e), ⟨_, rfl⟩, q _ ?_ fun y hy => ?_⟩
    · simp at hm; subst hm; exact absurd (Heap.lt_size e) (Nat.lt_irrefl _)
    · rw [← hn, numAt_eq]; exact PySem.getD_mem (by rw [List.length_map, Array.length_toList]; omega)
    · rw [← hn] at hy
      obtain ⟨j, hj, rfl⟩ := mem_getD hy
      rw [List.length_map, Array.length_toList] at hj
      rw [← numAt_eq]; exact h2 j (by omega)
def gOf (f : List Int → Int) : List D → M → R D := fun xs m => match xs with
  | [x] => match asSeq x m with
    | some ys => match intsD ys with
      | some ns => if ns.length = 0 then .bad else .ok (.int (f ns)) m
      | none => .bad
    | none => .bad
  | _ => .bad
def gMaxS := gOf maxI
theorem of_lift {f : List Int → Int} {r r' : List V → Hp → VK → Prop} {EX : Str → Hp → Prop} {W : Wd} {H : Hp} {m : M} {vs : List V} {xs : List D} {Q : VK}
    (h1 : ∀ a ns, SqL X.K H a (ns.map V.int) → 0 < ns.length → Q (.int (f ns)) H → r [.ref a] H Q) (h2 : ∀ a ns, SqT X.K H a (ns.map V.int) → 0 < ns.length → Q (.int (f ns)) H → r' [.ref a] H Q)
    (rm : RM X.K X.mg W H m) (rl : RDs X.K W vs xs) (hp : post X.K X.mg W H (gOf f xs m) (fun z W' H' _ => ∀ v, RD X.K W' v z → Q v H') EX) : r vs H Q ∨ r' vs H Q := by
  unfold gOf at hp
  split at hp
  · obtain ⟨v, rfl, rv⟩ := RDs.inv1 rl
    split at hp
    · rename_i ys hy
      split at hp
      · rename_i ns hn
        split at hp
        · exact hp.elim
        · rename_i hz
          obtain ⟨a, us, rfl, hs, r2⟩ := seq_of rm rv hy
          have e := intsD_of r2 hn
          subst e
          rcases hs with hs | hs
          · exact .inl (h1 a ns hs (by omega) (post_ok hp rm _ (.int _)))
          · exact .inr (h2 a ns hs (by omega) (post_ok hp rm _ (.int _)))
      · exact hp.elim
    · exact hp.elim
  · exact hp.elim
theorem c_maxS (hc : X.calm = true) : CallD X (.builtin "max") gMaxS := ⟨_, CallR.or' (cr_max hc) (max_tupR hc), fun EX W H m vs xs Q rm r hp =>
  of_lift (r := rMax X.K) (r' := rMaxT X.K) (fun a ns hs h0 q => ⟨a, ns, rfl, hs, h0, fun m h1 h2 => by rw [maxI_eq h0 h1 h2]; exact q⟩) (fun a ns hs h0 q => ⟨a, ns, rfl, hs, h0, fun m h1 h2 => by rw [maxI_eq h0 h1 h2]; exact q⟩) rm r hp⟩
end
def flD : D → Option V
  | .non => some .non
  | .bl b => some (.bl b)
  | .int i => some (.int i)
  | .str x => some (.str x)
  | _ => none
def flDs : List D → Option (List V)
  | [] => some []
  | x :: xs => match flD x, flDs xs with
    | some v, some vs => some (v :: vs)
    | _, _ => none
theorem flD_of {K : PySem.W.Frag} {W : Wd} {v u : V} {x : D} (r : RD K W v x) (h : flD x = some u) : v = u := by
  cases r <;> simp [flD] at h <;> exact h
theorem flDs_of {K : PySem.W.Frag} {W : Wd} : ∀ {vs us : List V} {xs : List D}, RDs K W vs xs → flDs xs = some us → vs = us
  | _, _, _, .nil, h => by cases h; rfl
  | _, _, _, .cons r t, h => by
    unfold flDs at h
    split at h
    · rename_i v vs h1 h2
      cases h
      rw [flD_of r h1, flDs_of t h2]
    · cases h
def inD (neg : Bool) : D → D → M → R Bool := fun x y m => match flD x, (asSeq y m).bind flDs with
  | some u, some us => if flatV u = true then if us.all flatV = true then .ok (if neg then !inV u us else inV u us) m else .bad else .bad
  | _, _ => match toPyR x m, toPyR y m with
    | some d, some (.list ds) => if SeqAt.shaped d = true then if SeqAt.shaped (.list ds) = true then .ok (if neg then !(ds.any fun z => PyData.eqv z d) else ds.any fun z => PyData.eqv z d) m else .bad else .bad
    | _, _ => .bad
def gNotIn := inD true
section
variable {X : Cx}
theorem o_inX {neg : Bool} {op : CmpOp} (h1 : OpR X (compareOp op) (rIn X.K neg))
    (h2 : OpR X (compareOp op) (fun x y H Q => ∃ d ds, Dp X.K H x d ∧ Dp X.K H y (.list ds) ∧ SeqAt.shaped d = true ∧ SeqAt.shaped (.list ds) = true ∧ Q (.bl (if neg then !(ds.any fun z => PyData.eqv z d) else ds.any fun z => PyData.eqv z d)) H)) : Op2B X (compareOp op) (inD neg) := by
  refine ⟨_, h1.or h2, fun EX W H m vx vy x y Q rm rx ry hp => ?_⟩
  unfold inD at hp
  split at hp
  · rename_i u us e1 e2
    obtain ⟨ys, hy, e3⟩ := Option.bind_eq_some_iff.mp e2
    obtain ⟨a, ws, rfl, hs, r2⟩ := seq_of rm ry hy
    have ex := flD_of rx e1
    have ey := flDs_of r2 e3
    subst ex; subst ey
    split at hp
    · split at hp
      · exact .inl ⟨a, ws, rfl, hs, by assumption, by assumption, post_ok hp rm⟩
      · exact hp.elim
    · exact hp.elim
  · split at hp
    · rename_i d ds h3 h4
      split at hp
      · split at hp
        · exact .inr ⟨d, ds, dpR_of rm rx h3, dpR_of rm ry h4, by assumption, by assumption, post_ok hp rm⟩
        · exact hp.elim
      · exact hp.elim
    · exact hp.elim
theorem o_notIn (hu : X.A.units + 65 < cLine) : Op2B X (compareOp .NotIn) gNotIn := o_inX op_notIn_seq (op_notInD hu)
theorem BodyCx.hu65 {k : Nat} {EX : EXT} (B : BodyCx X k EX) : X.A.units + 65 < cLine := by have := B.room.un; omega
end
def sExt (do_ d : SE) : SE := fun ρ m => (do_ ρ m).bind fun o m => match o with
  | .ref n => match m[n]? with
    | some (.lst _) => (d ρ m).bind fun x m => match m[n]?, asLst x m with
      | some (.lst xs), some ys => if xs.length + ys.length ≤ big then .ok .non (m.set n (.lst (xs ++ ys))) else .bad
      | _, _ => .bad
    | _ => .bad
  | _ => .bad
section
variable {X : Cx} {EX : EXT} {o e : Expr} {do_ d : SE} {apos cpos : Pos}
theorem de_ext (ho : DE X EX o do_) (he : DE X EX e d)
    (hbase : attributeBase o "extend" X.env (eval o X.env) = eval o X.env := by rfl)
    (hfew : ((backTo cpos (starEach [e] X.env)).all (fun x => !x.1) && (backToKw cpos (keywordEach [] X.env)).all (fun x => x.1.isSome)
      && decide ([e].length + ([] : List Keyword).length + (if ([] : List Keyword).isEmpty then 0 else 1) < 30)) = true := by rfl)
    (hline : (apos.endLine == cpos.line) = true := by rfl) (hs : starEach [e] X.env = (false, eval e X.env) :: starEach [] X.env := by rfl) :
    DE X EX (.Call (.Attribute o "extend" apos) [e] [] cpos) (sExt do_ d) :=
  PE.imp (pe_bm PySem.F.plainAttrs_list PySem.F.slot_list_extend PySem.F.type_list_extend mt_extend ho (pa_cons he pa_nil hs) hbase hfew hline hs) fun σ H Q ⟨W, ρ, m, rs, rm, h⟩ => ⟨W, ρ, m, rs, rm, post_mono (post_bind h) fun x W1 H1 m1 e1 rm1 h1 v rv => by
    cases x with
    | ref n =>
      dsimp only at h1
      split at h1
      · rename_i ys hy
        cases rv with
        | @ref _ a q =>
          obtain ⟨u, hu, ⟨vs, rfl, r⟩, _⟩ := rm1.get q hy (by simp)
          refine ⟨.inl ⟨rfl, vs, .inl (.inl hu)⟩, W1, ρ, m1, rs.mono e1.le, rm1, post_mono (post_bind h1) fun x W2 H2 m2 e2 rm2 h2 w rw' => ?_⟩
          split at h2
          · rename_i xs zs hx hzs
            split at h2
            · rename_i hz
              have q2 := e2.le.get q
              obtain ⟨u, hu, ⟨vs, rfl, r⟩, _⟩ := rm2.get q2 hx (by simp)
              obtain ⟨b, ws, rfl, hb, r3⟩ := lst_of rm2 rw' hzs
              refine ⟨a, b, vs, ws, rfl, rfl, hu, hb, by rw [r.length, r3.length, big_eq]; exact hz, ?_⟩
              obtain ⟨e3, rm3⟩ := set_cell (c' := .lst (xs ++ zs)) (o := .lst (vs ++ ws)) rm2 q2 hx (by simp) ⟨_, rfl, r.append r3⟩
              exact h2 _ _ e3 rm3 _ .non
            · exact h2.elim
          · exact h2.elim
      · exact h1.elim
    | _ => exact h1.elim⟩
end
end Vi
namespace Vi
open PySem PySem.Spec PyProof.Rows L2
section
variable {X : Cx} {EX : EXT} {o e : Expr} {to te : TE} {apos cpos : Pos}
end
end Vi
namespace Vi
open PySem PySem.Spec PyProof.Rows L2
end Vi
namespace Vi
open PySem PySem.Spec PyProof.Rows L2
end Vi
namespace Vi
open PySem PySem.Spec PyProof.Rows L2
section
variable {X : Cx}
end
section
variable {X : Cx} {EX : EXT} {o e a b : Expr} {do_ d da db : SE} {apos cpos p p2 pos pos2 : Pos}
def sCountL (do_ d : SE) : SE := fun ρ m => (do_ ρ m).bind fun o m => match asList o m with
  | some _ => (d ρ m).bind fun y m => match asList o m, y with
    | some xs, .int k => match intsD xs with
      | some ns => .ok (.int (ns.count k : Nat)) m
      | none => .bad
    | _, _ => .bad
  | none => .bad
end
def keyD : D → Option Key
  | .int i => some (.inl i)
  | .str x => some (.inr x)
  | _ => none
theorem keyD_of {K : PySem.W.Frag} {W : Wd} {v : V} {x : D} {k : Key} (r : RD K W v x) (h : keyD x = some k) : v = kV k := by
  cases r <;> cases h <;> rfl
def valD {κ : Type} [DecidableEq κ] (kvs : List (κ × D)) (k : κ) : Option D := (kvs.find? fun kv => decide (kv.1 = k)).map (·.2)
def putD {κ : Type} [DecidableEq κ] (kvs : List (κ × D)) (k : κ) (v : D) : List (κ × D) :=
  if (kvs.any fun kv => decide (kv.1 = k)) = true then kvs.map (fun kv => if kv.1 = k then (kv.1, v) else kv) else kvs ++ [(k, v)]
section
variable {κ : Type} [DecidableEq κ] {K : PySem.W.Frag} {W : Wd}
theorem rkv_val : ∀ {a : List (κ × V)} {b : List (κ × D)} (k : κ), RKV K W a b → (valV a k = none ∧ valD b k = none) ∨ ∃ v d, valV a k = some v ∧ valD b k = some d ∧ RD K W v d
  | [], [], _, .nil => .inl ⟨rfl, rfl⟩
  | (k1, v) :: _, (k2, d) :: _, k, .cons h t => by
    have e : k1 = k2 := h.1
    subst e
    by_cases q : k1 = k
    · exact .inr ⟨v, d, by simp [valV, q], by simp [valD, q], h.2⟩
    · rcases rkv_val k t with ⟨h1, h2⟩ | ⟨v', d', h1, h2, h3⟩
      · exact .inl ⟨by simp only [valV] at h1 ⊢; simpa [q] using h1, by simp only [valD] at h2 ⊢; simpa [q] using h2⟩
      · exact .inr ⟨v', d', by simp only [valV] at h1 ⊢; simpa [q] using h1, by simp only [valD] at h2 ⊢; simpa [q] using h2, h3⟩
theorem rkv_any : ∀ {a : List (κ × V)} {b : List (κ × D)} (k : κ), RKV K W a b → (a.any fun kv => decide (kv.1 = k)) = (b.any fun kv => decide (kv.1 = k))
  | [], [], _, .nil => rfl
  | (k1, v) :: _, (k2, d) :: _, k, .cons h t => by
    have e : k1 = k2 := h.1
    subst e
    simp only [List.any_cons, rkv_any k t]
theorem rkv_map {v : V} {d : D} (r : RD K W v d) (k : κ) : ∀ {a : List (κ × V)} {b : List (κ × D)}, RKV K W a b → RKV K W (a.map fun kv => if kv.1 = k then (kv.1, v) else kv) (b.map fun kv => if kv.1 = k then (kv.1, d) else kv)
  | [], [], .nil => .nil
  | (k1, v1) :: _, (k2, d1) :: _, .cons h t => by
    have e : k1 = k2 := h.1
    subst e
    refine .cons ?_ (rkv_map r k t)
    by_cases q : k1 = k
    · simp only [q, if_true]; exact ⟨trivial, r⟩
    · simp only [q, if_false]; exact ⟨trivial, h.2⟩
theorem rkv_app : ∀ {a a' : List (κ × V)} {b b' : List (κ × D)}, RKV K W a b → RKV K W a' b' → RKV K W (a ++ a') (b ++ b')
  | _, _, _, _, .nil, q => q
  | _, _, _, _, .cons h t, q => .cons h (rkv_app t q)
theorem rkv_put {a : List (κ × V)} {b : List (κ × D)} (h : RKV K W a b) (k : κ) {v : V} {d : D} (r : RD K W v d) : RKV K W (putK a k v) (putD b k d) := by
  unfold putK putD
  rw [rkv_any k h]
  split
  · exact rkv_map r k h
  · exact rkv_app h (.cons ⟨rfl, r⟩ .nil)
theorem rkv_len : ∀ {a : List (κ × V)} {b : List (κ × D)}, RKV K W a b → a.length = b.length
  | [], [], .nil => rfl
  | _ :: _, _ :: _, .cons _ t => by simp [rkv_len t]
end
section
variable {X : Cx} {EX : EXT} {o e f i : Expr} {do_ d de di : SE} {apos cpos pos : Pos}
def sDNew : SE := fun _ m => .ok (.ref m.length) (m ++ [.dic []])
theorem de_dnew : DE X EX (.Dict [] [] pos) sDNew := PE.imp pe_dnewK fun σ H Q ⟨W, ρ, m, rs, rm, h⟩ p hp => by
  obtain ⟨e1, rm1⟩ : Ex W H W (upd H p (.dK [])) ∧ RM X.K X.mg W (upd H p (.dK [])) m := put_new (o := .dK []) Ex.refl hp rm (rm.nin hp) (rm.nI hp)
  obtain ⟨le, rm2⟩ := adopt (c := .dic []) rm1 upd_same (rm.nI hp) (rm.nin hp) ⟨[], rfl, .nil⟩
  have h' : ∀ W' H', Ex W H W' H' → RM X.K X.mg W' H' (m ++ [.dic []]) → ∀ v, RD X.K W' v (.ref m.length) → Q v H' := h
  refine h' ⟨W.I, W.φ ++ [p]⟩ _ ⟨e1.I, ⟨[p], rfl, by simp [hp]⟩, e1.fr, e1.al, fun a o h => .inl h⟩ rm2 _ (.ref ?_)
  rw [← rm.len]
  simp
def dicOf (x : D) (m : M) : Option (List (Key × D)) := match x with
  | .ref n => match m[n]? with
    | some (.dic kvs) => some kvs
    | _ => none
  | _ => none
theorem dic_of {K : PySem.W.Frag} {mg : Str → Option Value} {W : Wd} {H : Hp} {m : M} {v : V} {x : D} {kvs : List (Key × D)} (rm : RM K mg W H m) (r : RD K W v x) (h : dicOf x m = some kvs) : ∃ n a vs, x = .ref n ∧ v = .ref a ∧ W.φ[n]? = some a ∧ m[n]? = some (.dic kvs) ∧ H a = some (.dK vs) ∧ RKV K W vs kvs := by
  unfold dicOf at h
  split at h
  · rename_i n
    split at h
    · rename_i kvs' hm
      cases h
      cases r with
      | @ref _ a q =>
        obtain ⟨u, hu, ⟨vs, rfl, rk⟩, _⟩ := rm.get q hm (by simp)
        exact ⟨n, a, vs, rfl, rfl, q, hm, hu, rk⟩
    · cases h
  · cases h
def sDGet (do_ di : SE) : SE := fun ρ m => (do_ ρ m).bind fun o m => (di ρ m).bind fun y m => match dicOf o m, keyD y with
  | some kvs, some k => match valD kvs k with
    | some x => .ok x m
    | none => .bad
  | _, _ => .bad
def sDGet2 (do_ di de : SE) : SE := fun ρ m => (do_ ρ m).bind fun o m => match dicOf o m with
  | some _ => (di ρ m).bind fun y m => (de ρ m).bind fun z m => match dicOf o m, keyD y with
    | some kvs, some k => .ok ((valD kvs k).getD z) m
    | _, _ => .bad
  | none => .bad
theorem de_dget2 (hu : X.A.units + 1 < cLine) (ho : DE X EX o do_) (hi : DE X EX i di) (he : DE X EX e de) (hm : M2 X o "get" apos i e cpos := by constructor <;> rfl) : DE X EX (.Call (.Attribute o "get" apos) [i, e] [] cpos) (sDGet2 do_ di de) :=
  PE.imp (pe_dget2 hu ho hi he hm) fun σ H Q ⟨W, ρ, m, rs, rm, h⟩ => ⟨W, ρ, m, rs, rm, post_mono (post_bind h) fun x W1 H1 m1 e1 rm1 h1 v rv => by
    split at h1
    · rename_i kvs0 hk0
      obtain ⟨n, a, vs, rfl, rfl, q1, q2, q3, q4⟩ := dic_of rm1 rv hk0
      refine ⟨a, rfl, .inl ⟨vs, .inl q3⟩, W1, ρ, m1, rs.mono e1.le, rm1, post_mono (post_bind h1) fun y W2 H2 m2 e2 rm2 h2 w rw' => ⟨W2, ρ, m2, rs.mono (e1.trans e2).le, rm2, post_mono (post_bind h2) fun z W3 H3 m3 e3 rm3 h3 u ru => ?_⟩⟩
      split at h3
      · rename_i kvs k hk hy
        obtain ⟨n', a', vs', en, ea, p1, p2, p3, p4⟩ := dic_of rm3 ((rv.mono e2.le).mono e3.le) hk
        cases ea
        have ek := keyD_of rw' hy
        rcases rkv_val k p4 with ⟨z1, z2⟩ | ⟨v', d', z1, z2, z3⟩
        · rw [z2] at h3
          refine ⟨none, ?_, post_ok h3 rm3 _ ru⟩
          rw [ek, ← z1]; exact .k p3
        · rw [z2] at h3
          refine ⟨some v', ?_, post_ok h3 rm3 _ z3⟩
          rw [ek, ← z1]; exact .k p3
      · exact h3.elim
    · exact h1.elim⟩
def gDSet (do_ di : SE) : SG := fun x ρ m => (do_ ρ m).bind fun o m => (di ρ m).bind fun y m => match o, dicOf o m, keyD y with
  | .ref n, some kvs, some k => if kvs.length < big then .ok ρ (m.set n (.dic (putD kvs k x))) else .bad
  | _, _, _ => .bad
theorem dg_dset (hu : X.A.units + 1 < cLine) (ho : DE X EX o do_) (hi : DE X EX i di)
    (ha : ∀ v, assign (.Subscript o i pos) X.env v = (do
      let ov ← holding [v] (eval o X.env)
      let iv ← holding [v, ov] (eval i X.env)
      standAt pos
      holding [v, ov, iv] (setItem ov iv v)
      release [v, ov, iv] []) := by intro _; rfl) : DG X EX RD (.Subscript o i pos) (gDSet do_ di) :=
  PG.imp (pg_sub ho hi (set_dict hu) ha) fun v σ H Q ⟨W, ρ, m, x, rs, rm, rv, h⟩ => ⟨W, ρ, m, rs, rm, post_mono (post_bind (post_ex (σ := σ) h)) fun ox W1 H1 m1 e1 rm1 h1 vo ro =>
    ⟨W1, ρ, m1, rs.mono e1.le, rm1, post_mono (post_bind h1) fun ix W2 H2 m2 e2 rm2 h2 vi ri => by
      split at h2
      · rename_i n kvs k hk hy
        split at h2
        · rename_i hz
          obtain ⟨n', a, vs, en, rfl, q1, q2, q3, q4⟩ := dic_of rm2 (ro.mono e2.le) hy
          cases en
          have ek := keyD_of ri hk
          refine ⟨a, _, rfl, .inl ⟨vs, k, q3, ek, by rw [rkv_len q4, big_eq]; exact hz, rfl⟩, ?_⟩
          obtain ⟨e3, rm3⟩ := set_cell (c' := .dic (putD kvs k x)) (o := .dK (putK vs k v)) rm2 q1 q2 (by simp) ⟨_, rfl, rkv_put q4 k (rv.mono (e1.trans e2).le)⟩
          exact h2 _ _ e3 rm3 σ (rs.mono ((e1.trans e2).trans e3).le)
        · exact h2.elim
      · exact h2.elim⟩⟩
end
end Vi
namespace Vi
open PySem PySem.Spec PyProof.Rows L2
section
variable {X : Cx}
end
end Vi
namespace Vi
open PySem PySem.Spec PyProof.Rows L2
abbrev Zs := List (Addr × Int × Int)
def encZ (z : Addr × Int × Int) : PyData := .tuple [.int z.2.1, .int z.2.2]
def leZ (x y : Addr × Int × Int) : Bool := decide (x.2.1 < y.2.1 ∨ (x.2.1 = y.2.1 ∧ x.2.2 ≤ y.2.2))
theorem encZ_le : PySem.W.dataLe false encZ = leZ := PySem.W.dataLe_ii (fun z : Addr × Int × Int => z.2.1) (fun z => z.2.2)
def rSortItems (x : V) (H : Hp) (Q : VK) : Prop := ∃ (d : Addr) (ps : List (Int × Int)), x = .ref d ∧ H d = some (.dK (ps.map fun q => (Sum.inl q.1, V.int q.2))) ∧
  ∀ (H' : Hp) (p : Addr) (zs : Zs), H p = none → zs.map (·.2) = ps → (∀ z ∈ zs, H z.1 = none) → (zs.map (·.1)).Nodup → p ∉ zs.map (·.1) → (∀ b, b ∉ zs.map (·.1) → b ≠ p → H' b = H b) →
    H' p = some (.lst ((zs.mergeSort leZ).map fun z => V.ref z.1)) → (∀ z ∈ zs, ∃ o, H' z.1 = some (.frz o (.tup [.int z.2.1, .int z.2.2])) ∧ o.dict = none) → Q (.ref p) H'
section
variable {X : Cx}
theorem takeF {pins : List (Addr × Obj)} {σ : L2.St} {H0 : Hp} {s : Shared} {h' : Heap} {tk : Nat} (I0 : Inv X pins σ H0 s) : ∀ (zs : Zs) (H1 : Hp), Inv X pins σ H1 { s with heap := h', toks := tk } → (zs.map (·.1)).Nodup →
    (∀ z ∈ zs, s.heap.objs.size ≤ z.1 ∧ H1 z.1 = none ∧ ∃ o, h'.get? z.1 = some o ∧ o.dict = none ∧ ∀ H2, ObjOk X.prog X.w H2 h' z.1 (.tup [.int z.2.1, .int z.2.2])) →
    ∃ H2, Inv X pins σ H2 { s with heap := h', toks := tk } ∧ (∀ b, b ∉ zs.map (·.1) → H2 b = H1 b) ∧ ∀ z ∈ zs, ∃ o, H2 z.1 = some (.frz o (.tup [.int z.2.1, .int z.2.2])) ∧ o.dict = none
  | [], H1, I1, _, _ => ⟨H1, I1, fun _ _ => rfl, fun _ h => nomatch h⟩
  | z :: zs, H1, I1, hn, h => by
    obtain ⟨hb, hnone, o, ho, hd, ok⟩ := h z (List.mem_cons_self ..)
    have I2 : Inv X pins σ (upd H1 z.1 (.frz o (.tup [.int z.2.1, .int z.2.2]))) { s with heap := h', toks := tk } := I1.take (h' := h') (t' := tk) (fun b ob _ e => e) (I0.fpOk hb hnone) ⟨ho, ok _⟩
    rw [List.map_cons, List.nodup_cons] at hn
    obtain ⟨H2, I3, g, q⟩ := takeF I0 zs _ I2 hn.2 fun c hc => by
      obtain ⟨c1, c2, c3⟩ := h c (List.mem_cons_of_mem _ hc)
      exact ⟨c1, by rw [upd_ne (fun e => hn.1 (by rw [← e]; exact List.mem_map.mpr ⟨c, hc, rfl⟩))]; exact c2, c3⟩
    refine ⟨H2, I3, fun b hb' => ?_, fun c hc => ?_⟩
    · rw [List.map_cons, List.mem_cons, not_or] at hb'
      rw [g b hb'.2, upd_ne hb'.1]
    · rcases List.mem_cons.mp hc with rfl | hc
      · exact ⟨o, by rw [g _ hn.1, upd_same], hd⟩
      · exact q c hc
theorem zip_fst {α β : Type} : ∀ (as : List α) (bs : List β), as.length = bs.length → (as.zip bs).map (·.1) = as ∧ (as.zip bs).map (·.2) = bs
  | [], [], _ => ⟨rfl, rfl⟩
  | [], _ :: _, h => by cases h
  | _ :: _, [], h => by cases h
  | a :: as, b :: bs, h => by
    obtain ⟨h1, h2⟩ := zip_fst as bs (Nat.succ.inj h)
    exact ⟨by rw [List.zip_cons_cons, List.map_cons, h1], by rw [List.zip_cons_cons, List.map_cons, h2]⟩
theorem eachZ : ∀ zs : Zs, PySem.W.EachIs (fun (v : Value) (z : Addr × Int × Int) => v = .ref z.1) (zs.map fun z => Value.ref z.1) zs
  | [] => .nil
  | z :: zs => .cons rfl (eachZ zs)
theorem eachZ_of : ∀ {out : List Value} {zs : Zs}, PySem.W.EachIs (fun (v : Value) (z : Addr × Int × Int) => v = .ref z.1) out zs → out = zs.map fun z => Value.ref z.1
  | _, _, .nil => rfl
  | _, _, .cons h t => by rw [List.map_cons, ← eachZ_of t, h]
theorem eachAll {R : Value → Addr × Int × Int → Prop} : ∀ (zs : Zs), (∀ z ∈ zs, R (.ref z.1) z) → PySem.W.EachIs R (zs.map fun z => Value.ref z.1) zs
  | [], _ => .nil
  | z :: zs, h => .cons (h z (List.mem_cons_self ..)) (eachAll zs fun y hy => h y (List.mem_cons_of_mem _ hy))
theorem kv_get : ∀ {ps : List (Int × Int)} {vs : List (Key × Value)}, KV (ps.map fun q => (Sum.inl q.1, V.int q.2)) vs → ∀ (j : Nat) (k : Key) (v : Value), vs[j]? = some (k, v) → ∃ q, ps[j]? = some q ∧ k = Sum.inl q.1 ∧ RelV (.int q.2) v
  | [], _, .nil, j, k, v, h => by simp at h
  | q :: ps, _, .cons h t, 0, k, v, e => by
    simp only [List.getElem?_cons_zero, Option.some.injEq] at e
    subst e
    exact ⟨q, rfl, h.1.symm, h.2⟩
  | q :: ps, _, .cons h t, j + 1, k, v, e => by
    obtain ⟨r, h1, h2⟩ := kv_get t j k v (by simpa using e)
    exact ⟨r, by simpa using h1, h2⟩
theorem pe_sortItems {e : Expr} {te : TE} {p apos cpos pos : Pos} (hu : X.A.units + 64 < cLine) (hc : X.calm = true) (he : PE X e te) (hg : Gl X "sorted") (hm : X.mg "sorted" = none) (hbase : attributeBase e "items" X.env (eval e X.env) = eval e X.env := by rfl) (hline : (apos.endLine == cpos.line) = true := by rfl)
    (hs : starEach [.Call (.Attribute e "items" apos) [] [] cpos] X.env = (false, eval (.Call (.Attribute e "items" apos) [] [] cpos) X.env) :: starEach [] X.env := by rfl) :
    PE X (.Call (.Name "sorted" p) [.Call (.Attribute e "items" apos) [] [] cpos] [] pos) (fun σ H Q => te σ H fun x H1 => rSortItems x H1 Q) := by
  have hv : bootBuiltins (Str.ofString "sorted") = some (.builtin "sorted") := by decide +kernel
  refine ⟨fun pins s σ H Q I hq => ?_⟩
  refine wpAny_Call_Name_kw (ld_blt I hg hm hv ?_)
  refine PyProof.Rows.callWith_builtin1 ?_ hs rfl
  rw [hs]
  show wpAny _ _ (spliced ((false, eval (.Call (.Attribute e "items" apos) [] [] cpos) X.env) :: backTo pos (starEach [] X.env))) _ _ s
  refine Calls.spliced_cons ?_
  refine wpAny_Call_method (T := "dict") (id := "dict.items") hbase rfl hline F.plainAttrs_dict F.slot_dict_items F.type_dict_items (thn (he.run pins s σ H _ I hq) fun u s1 ⟨x, H1, I1, rx, d, ps, ex, hd, q⟩ => ?_)
  subst ex
  obtain rfl : u = Value.ref d := rx
  obtain ⟨hz, hs0, vs, kv, hdo⟩ := I1.hok d _ hd
  obtain ⟨ep, hat⟩ := hdo.dictAt
  have lk : (ps.map fun q => ((Sum.inl q.1, V.int q.2) : Key × V)).length = vs.length := Paired.length kv
  rw [List.length_map] at lk hz
  refine ⟨hdo.typeIs, hdo.mapOf.noDict, ?_⟩
  show wpAny _ _ (callWith cpos (.builtin "dict.items") [.ref d] [] []) _ X.xe s1
  refine method_meetsIn F.slot_dict_items F.entry_dict_items rfl (PySem.evalArgs_none ⟨rfl, hdo.typeIs, F.args_dict_items_1 _, _, meets_dict_items (mixKind X.prog X.w) d hs0, ⟨vs, hdo⟩, ?_⟩)
  refine Calls.spliced_nil ?_
  have I2 : Inv X pins σ H1 { s1 with heap := s1.heap.push { cls := .type "dict_items", data := .fields #[.ref d] } } := I1.kept (t' := s1.toks) fun b ob q => Heap.get?_push_of_some _ q
  have hh : X.A.handled = none := I1.ok.hd hc
  obtain ⟨es, hraw, hsz, hent⟩ := (hat.push { cls := .type "dict_items", data := .fields #[.ref d] }).raw
  obtain ⟨ob, hob0, hex, hdat⟩ : DT.Raw (s1.heap.push { cls := .type "dict_items", data := .fields #[.ref d] }) d es ep := hraw
  have hview : (s1.heap.push { cls := .type "dict_items", data := .fields #[.ref d] }).IsItemsView s1.heap.objs.size d := ⟨_, Heap.get?_push_size _ rfl, rfl, rfl⟩
  have s2 : ∃ s2 : Shared, s2 = { s1 with heap := s1.heap.push { cls := .type "dict_items", data := .fields #[.ref d] } } := ⟨_, rfl⟩
  obtain ⟨s2, es2⟩ := s2
  have hh2 : s2.heap = s1.heap.push { cls := .type "dict_items", data := .fields #[.ref d] } := by rw [es2]
  show wpAny _ _ (call (.builtin "sorted") [.ref s1.heap.objs.size]) _ _ { s1 with heap := s1.heap.push { cls := .type "dict_items", data := .fields #[.ref d] } }
  rw [← es2] at I2 ⊢
  rw [← hh2] at hview hob0
  refine DT.sortedI (es := es) (ep := ep) hh hview ⟨ob, hob0, hex, hdat⟩ (by rw [hsz]; omega) fun h' tk as hk hlt hl hG => ?_
  have lap : as.length = ps.length := by omega
  obtain ⟨z1, z2⟩ := zip_fst as ps lap
  have nd : as.Nodup := List.Pairwise.imp (fun h => Nat.ne_of_lt h) hG.rise
  have ezs : ∃ zs : Zs, zs = as.zip ps := ⟨_, rfl⟩
  obtain ⟨zs, ezs⟩ := ezs
  rw [← ezs] at z1 z2
  have eas : as.map Value.ref = zs.map fun z => Value.ref z.1 := by rw [← z1, List.map_map]; rfl
  -- the pairs that were made
  have pr : ∀ z ∈ zs, ∃ (v1 v2 : Value), RelV (.int z.2.1) v1 ∧ RelV (.int z.2.2) v2 ∧ h'.get? z.1 = some { cls := .type "tuple", data := .seq #[v1, v2] } := by
    intro z hz'
    rw [ezs] at hz'
    obtain ⟨j, hj⟩ := List.mem_iff_getElem?.mp hz'
    obtain ⟨j1, j2⟩ := List.getElem?_zip_eq_some.mp hj
    obtain ⟨en, he, hg'⟩ := hG.pairs j z.1 j1
    have hjl : j < es.size := (Array.getElem?_eq_some_iff.mp he).1
    obtain ⟨kx, hkx⟩ : ∃ kx, vs[j]? = some kx := ⟨vs[j]'(by omega), List.getElem?_eq_getElem _⟩
    obtain ⟨f1, f2⟩ := hent j hjl kx.1 kx.2 hkx
    obtain ⟨qq, g1, g2, g3⟩ := kv_get kv j kx.1 kx.2 hkx
    rw [j2] at g1
    cases g1
    have een : es[j] = en := (Array.getElem?_eq_some_iff.mp he).2
    rw [een] at f1 f2
    refine ⟨en.key, en.val, ?_, by rw [f2]; exact g3, hg'⟩
    rw [g2] at f1
    exact relV_key (k := Sum.inl z.2.1) f1
  -- the heap of the sort
  have hob : (h'.push { cls := .type "list", data := .seq (as.map Value.ref).toArray }).get? h'.objs.size = some (seqObj "list" (as.map Value.ref).toArray 0) := Heap.get?_push_size _ rfl
  have kb : ∀ b o, s2.heap.get? b = some o → (h'.push { cls := .type "list", data := .seq (as.map Value.ref).toArray }).get? b = some o := fun b o e => Heap.get?_push_of_some _ (hk b o e)
  have ne0 : ∀ b o, h'.get? b = some o → b ≠ h'.objs.size := fun b o e => Nat.ne_of_lt (Heap.lt_size e)
  generalize hh3 : h'.push { cls := .type "list", data := .seq (as.map Value.ref).toArray } = h2 at hob kb ⊢
  have ka : ∀ b o, h'.get? b = some o → h2.get? b = some o := fun b o e => by rw [← hh3]; exact Heap.get?_push_of_some _ e
  rw [eas] at hob
  refine PySem.W.list_sort_data (s := { s2 with heap := h2, toks := tk }) (a := h'.objs.size) (n := 0) (bs := zs) (enc := encZ) (R := fun v z => v = .ref z.1) hob (eachZ zs) (eachAll zs fun z hz' => ?_) (PySem.W.AllAlike.of fun b b' => by simp [encZ, PySem.W.alike, PySem.W.alikeAll]) (PySem.W.Sortable.tuples fun b => ⟨_, _, rfl⟩) ?_ (fun b _ => ?_) fun out ol oe => ?_
  · obtain ⟨v1, v2, ⟨t1, rfl⟩, ⟨t2, rfl⟩, hg'⟩ := pr z hz'
    exact ⟨[], .tuple (ka _ _ hg') rfl rfl (.cons (.int _ _) (.cons (.int _ _) .nil)), by simp⟩
  · have : zs.length = ps.length := by rw [← z2, List.length_map]
    omega
  · show X.A.units + 1 + 1 + (encZ b).depth < cLine
    have : (encZ b).depth = 1 := rfl
    omega
  · rw [encZ_le] at oe
    have eo := eachZ_of oe
    show EP X pins σ Q (.ref h'.objs.size) { s2 with heap := sortedHeap h2 h'.objs.size (zs.map fun z => Value.ref z.1) out.toArray, toks := tk }
    have kF : ∀ b o, b ≠ h'.objs.size → h2.get? b = some o → (sortedHeap h2 h'.objs.size (zs.map fun z => Value.ref z.1) out.toArray).get? b = some o := fun b o hb e => (PyProof.Rows.sortedHeap_old hb (Heap.lt_size e)).trans e
    have kS : ∀ b o, s2.heap.get? b = some o → (sortedHeap h2 h'.objs.size (zs.map fun z => Value.ref z.1) out.toArray).get? b = some o := fun b o e => kF b o (ne0 _ _ (hk b o e)) (kb b o e)
    obtain ⟨eF, heF⟩ := PyProof.Rows.sortedHeap_at (vs := zs.map fun z => Value.ref z.1) (out := out.toArray) hob
    have J1 : Inv X pins σ H1 { s2 with heap := sortedHeap h2 h'.objs.size (zs.map fun z => Value.ref z.1) out.toArray, toks := tk } := I2.kept (t' := tk) kS
    have hn0 : H1 h'.objs.size = none := I2.hok.fresh (Nat.le_of_lt hlt)
    have lz : zs.length = ps.length := by rw [← z2, List.length_map]
    have hlen : ((zs.mergeSort leZ).map fun z => V.ref z.1).length ≤ sizeLine := by rw [List.length_map, List.length_mergeSort]; omega
    have rvo : Vals ((zs.mergeSort leZ).map fun z => V.ref z.1) out := by
      rw [eo]
      exact vals_maps (fun z : Addr × Int × Int => V.ref z.1) (fun z => Value.ref z.1) _ fun _ _ => rfl
    have okp : ObjOk X.prog X.w (upd H1 h'.objs.size (.lst ((zs.mergeSort leZ).map fun z => V.ref z.1))) (sortedHeap h2 h'.objs.size (zs.map fun z => Value.ref z.1) out.toArray) h'.objs.size (.lst ((zs.mergeSort leZ).map fun z => V.ref z.1)) := ⟨hlen, out, eF, rvo, heF⟩
    have J2 : Inv X pins σ (upd H1 h'.objs.size (.lst ((zs.mergeSort leZ).map fun z => V.ref z.1))) { s2 with heap := sortedHeap h2 h'.objs.size (zs.map fun z => Value.ref z.1) out.toArray, toks := tk } :=
      I2.laid (t' := tk) kS (Nat.le_of_lt hlt) okp
    have nh : ∀ z ∈ zs, s2.heap.objs.size ≤ z.1 ∧ z.1 ≠ h'.objs.size := fun z hz' => by
      obtain ⟨v1, v2, _, _, hg'⟩ := pr z hz'
      exact ⟨Nat.le_of_lt (hG.above z.1 (by rw [← z1]; exact List.mem_map.mpr ⟨z, hz', rfl⟩)), ne0 _ _ hg'⟩
    obtain ⟨H2, J3, g, qt⟩ := takeF I2 zs _ J2 (by rw [z1]; exact nd) fun z hz' => by
      obtain ⟨v1, v2, r1, r2, hg'⟩ := pr z hz'
      obtain ⟨n1, n2⟩ := nh z hz'
      refine ⟨n1, by rw [upd_ne n2]; exact I2.hok.fresh n1, _, kF _ _ n2 (ka _ _ hg'), rfl, fun H3 => ⟨by show 2 ≤ sizeLine; decide, [v1, v2], .cons r1 (.cons r2 .nil), ⟨_, kF _ _ n2 (ka _ _ hg'), rfl, 0, rfl⟩⟩⟩
    have pn : h'.objs.size ∉ zs.map (·.1) := fun hm' => by
      obtain ⟨z, hz', e⟩ := List.mem_map.mp hm'
      exact (nh z hz').2 e
    refine ⟨.ref h'.objs.size, H2, J3, rfl, q H2 h'.objs.size zs hn0 z2 (fun z hz' => I2.hok.fresh (nh z hz').1) (by rw [z1]; exact nd) pn (fun b hb1 hb2 => by rw [g b hb1, upd_ne hb2]) (by rw [g _ pn, upd_same]) qt⟩
end
end Vi
namespace Vi
open PySem PySem.Spec PyProof.Rows L2
def iiD : List (Key × D) → Option (List (Int × Int))
  | [] => some []
  | (.inl k, .int v) :: r => match iiD r with
    | some ps => some ((k, v) :: ps)
    | none => none
  | _ => none
def leP (x y : Int × Int) : Bool := decide (x.1 < y.1 ∨ (x.1 = y.1 ∧ x.2 ≤ y.2))
def sortPI (ps : List (Int × Int)) : List (Int × Int) := ps.mergeSort leP
def dII (q : Int × Int) : D := .tup [.int q.1, .int q.2]
def sSortItems (do_ : SE) : SA := fun ρ m => (do_ ρ m).bind fun o m => match dicOf o m with
  | some kvs => match iiD kvs with
    | some ps => .ok ((sortPI ps).map dII) m
    | none => .bad
  | none => .bad
theorem iiD_of {K : PySem.W.Frag} {W : Wd} : ∀ {kvs : List (Key × D)} {vs : List (Key × V)} {ps : List (Int × Int)}, RKV K W vs kvs → iiD kvs = some ps → vs = ps.map fun q => (Sum.inl q.1, V.int q.2)
  | [], _, _, .nil, h => by cases h; rfl
  | (k, d) :: kvs, (k', v) :: vs, ps, .cons h t, e => by
    unfold iiD at e
    split at e
    · rename_i h1; cases h1
    · rename_i k0 v0 r h1
      cases h1
      split at e
      · rename_i qs hq
        cases e
        obtain ⟨e1, r1⟩ := h
        have e1' : k' = Sum.inl k0 := e1
        have r1' : RD K W v (.int v0) := r1
        subst e1'
        cases r1'
        rw [iiD_of t hq, List.map_cons]
      · cases e
    · cases e
theorem new_imms {K : PySem.W.Frag} {mg : Str → Option Value} {W : Wd} {H H' : Hp} {m : M} (r : RM K mg W H m) {A : List Addr} {p : Addr} (hA : ∀ a ∈ A, H a = none) (hp : H p = none) (off : ∀ b, b ∉ A → b ≠ p → H' b = H b) (hs : ∀ a ∈ A, H' a ≠ none) (hps : H' p ≠ none) :
    Ex W H ⟨fun b => if b ∈ A then H' b else W.I b, W.φ⟩ H' ∧ RM K mg ⟨fun b => if b ∈ A then H' b else W.I b, W.φ⟩ H' m := by
  have same : Same W.I (fun b => if b ∈ A then H' b else W.I b) := fun a o e => by
    have : a ∉ A := fun h => by
      have q := hA a h
      rw [r.sub a o e] at q
      cases q
    show (if a ∈ A then H' a else W.I a) = some o
    rw [if_neg this]; exact e
  have le : Le W ⟨fun b => if b ∈ A then H' b else W.I b, W.φ⟩ := ⟨same, [], by simp⟩
  have kp : ∀ a o, H a = some o → H' a = some o := fun a o e => by
    rw [off a (fun h => by rw [hA a h] at e; cases e) (fun h => by rw [h, hp] at e; cases e)]
    exact e
  refine ⟨⟨same, ⟨[], by simp, by simp⟩, fun a o e _ => kp a o e, fun a h => ?_, fun a o e => ?_⟩, ⟨fun a o e => ?_, r.len, r.nd, fun a h => ?_, fun i a c h1 h2 h3 => ?_, fun i a c h1 h2 h3 => ?_⟩⟩
  · cases q : H a with
    | none => exact absurd q h
    | some o => rw [kp a o q]; simp
  · by_cases h : a ∈ A
    · exact .inr (.inl (hA a h))
    · have e' : (if a ∈ A then H' a else W.I a) = some o := e
      rw [if_neg h] at e'
      exact .inl e'
  · have e' : (if a ∈ A then H' a else W.I a) = some o := e
    split at e'
    · exact e'
    · exact kp a o (r.sub a o e')
  · cases q : H a with
    | none => exact absurd q (r.al a h)
    | some o => rw [kp a o q]; simp
  · obtain ⟨u, e, q⟩ := r.obj i a c h1 h2 h3
    exact ⟨u, kp a u e, q.mono le⟩
  · have hn : a ∉ A := fun h => r.al a (List.mem_of_getElem? h1) (hA a h)
    show (if a ∈ A then H' a else W.I a) = none
    rw [if_neg hn]
    exact r.off i a c h1 h2 h3
section
variable {X : Cx} {EX : EXT}
theorem dl_sortItems {e : Expr} {do_ : SE} {p apos cpos pos : Pos} (hu : X.A.units + 64 < cLine) (hc : X.calm = true) (hm : X.mg "sorted" = none) (he : DE X EX e do_) (hg : Gl X "sorted" := by rfl) (hbase : attributeBase e "items" X.env (eval e X.env) = eval e X.env := by rfl) (hline : (apos.endLine == cpos.line) = true := by rfl)
    (hs : starEach [.Call (.Attribute e "items" apos) [] [] cpos] X.env = (false, eval (.Call (.Attribute e "items" apos) [] [] cpos) X.env) :: starEach [] X.env := by rfl) :
    DL X EX (.Call (.Name "sorted" p) [.Call (.Attribute e "items" apos) [] [] cpos] [] pos) (sSortItems do_) :=
  PE.imp (pe_sortItems hu hc he hg hm hbase hline hs) fun σ H Q ⟨W, ρ, m, rs, rm, h⟩ => ⟨W, ρ, m, rs, rm, post_mono (post_bind h) fun x W1 H1 m1 e1 rm1 h1 v rv => by
    split at h1
    · rename_i kvs hk
      split at h1
      · rename_i ps hps
        obtain ⟨n, a, vs, ex, rfl, q1, q2, q3, q4⟩ := dic_of rm1 rv hk
        have ev := iiD_of q4 hps
        subst ev
        refine ⟨a, ps, rfl, q3, fun H' p zs hp hz2 hzn hnd hpz hoff hpl hzo => ?_⟩
        have hA : ∀ b ∈ zs.map (·.1), H1 b = none := fun b hb => by
          obtain ⟨z, hz, rfl⟩ := List.mem_map.mp hb
          exact hzn z hz
        obtain ⟨e2, rm2⟩ := new_imms rm1 (A := zs.map (·.1)) (p := p) hA hp hoff (fun b hb => by
          obtain ⟨z, hz, rfl⟩ := List.mem_map.mp hb
          obtain ⟨o, ho, _⟩ := hzo z hz
          rw [ho]; simp) (by rw [hpl]; simp)
        have h0 : H p = none := by
          cases q : H p with
          | none => rfl
          | some o => exact absurd hp (e1.al p (by rw [q]; simp))
        refine h1 _ _ e2 rm2 p _ h0 (rm1.nin hp) ?_ hpl ?_
        · show (if p ∈ zs.map (·.1) then H' p else W1.I p) = none
          rw [if_neg hpz]
          exact rm1.nI hp
        · have srt : (zs.mergeSort leZ).map (·.2) = sortPI ps := by
            rw [← hz2]
            exact PySem.W.sort_maps (fun z : Addr × Int × Int => z.2) fun a _ b _ => rfl
          rw [← srt, List.map_map]
          have hw : ∀ z ∈ zs, RD X.K ⟨fun b => if b ∈ zs.map (·.1) then H' b else W1.I b, W1.φ⟩ (.ref z.1) (dII z.2) := fun z hz => by
            obtain ⟨o, ho, hdo⟩ := hzo z hz
            have hi : (if z.1 ∈ zs.map (·.1) then H' z.1 else W1.I z.1) = some (.frz o (.tup [.int z.2.1, .int z.2.2])) := by
              rw [if_pos (List.mem_map.mpr ⟨z, hz, rfl⟩)]; exact ho
            exact .tup (.inl (.inr ⟨o, hi⟩)) (.inl ⟨o, _, hi, hdo⟩) (.cons (.int _) (.cons (.int _) .nil))
          have all : ∀ l : Zs, (∀ z ∈ l, z ∈ zs) → RDs X.K ⟨fun b => if b ∈ zs.map (·.1) then H' b else W1.I b, W1.φ⟩ (l.map fun z => V.ref z.1) (l.map (dII ∘ (·.2))) := by
            intro l
            induction l with
            | nil => exact fun _ => .nil
            | cons z l ih => exact fun h => .cons (hw z (h z (List.mem_cons_self ..))) (ih fun y hy => h y (List.mem_cons_of_mem _ hy))
          exact all _ fun z hz => List.mem_mergeSort.mp hz
      · exact h1.elim
    · exact h1.elim⟩
end
end Vi
namespace Vi
open PySem PySem.Spec PyProof.Rows L2
def sRem (do_ d : SE) : SE := fun ρ m => (do_ ρ m).bind fun o m => match o with
  | .ref n => match m[n]? with
    | some (.lst _) => (d ρ m).bind fun y m => match m[n]?, y with
      | some (.lst xs), .int k => match intsD xs with
        | some ns => if k ∈ ns then .ok .non (m.set n (.lst ((ns.erase k).map D.int))) else .bad
        | none => .bad
      | _, _ => .bad
    | _ => .bad
  | _ => .bad
theorem erase_ix : ∀ (ns : List Int) (k : Int), k ∈ ns → ∃ j : Nat, ns[j]? = some k ∧ (∀ m : Nat, m < j → ns[m]? ≠ some k) ∧ ns.eraseIdx j = ns.erase k
  | [], _, h => by cases h
  | n :: ns, k, h => by
    by_cases e : n = k
    · subst e
      exact ⟨0, rfl, fun m hm => by omega, by simp⟩
    · obtain ⟨j, h1, h2, h3⟩ := erase_ix ns k (by
        rcases List.mem_cons.mp h with q | q
        · exact absurd q.symm e
        · exact q)
      refine ⟨j + 1, by simpa using h1, fun m hm => ?_, ?_⟩
      · cases m with
        | zero => simpa using e
        | succ m => simpa using h2 m (by omega)
      · rw [List.eraseIdx_cons_succ, h3, List.erase_cons_tail (by simpa using e)]
section
variable {X : Cx} {EX : EXT} {o e : Expr} {do_ d : SE} {apos cpos : Pos}
theorem rds_ints {K : PySem.W.Frag} {W : Wd} : ∀ ns : List Int, RDs K W (ns.map V.int) (ns.map D.int)
  | [] => .nil
  | n :: ns => .cons (.int n) (rds_ints ns)
theorem de_rem (ho : DE X EX o do_) (he : DE X EX e d)
    (hbase : attributeBase o "remove" X.env (eval o X.env) = eval o X.env := by rfl)
    (hfew : ((backTo cpos (starEach [e] X.env)).all (fun x => !x.1) && (backToKw cpos (keywordEach [] X.env)).all (fun x => x.1.isSome)
      && decide ([e].length + ([] : List Keyword).length + (if ([] : List Keyword).isEmpty then 0 else 1) < 30)) = true := by rfl)
    (hline : (apos.endLine == cpos.line) = true := by rfl) (hs : starEach [e] X.env = (false, eval e X.env) :: starEach [] X.env := by rfl) :
    DE X EX (.Call (.Attribute o "remove" apos) [e] [] cpos) (sRem do_ d) :=
  PE.imp (pe_bm PySem.F.plainAttrs_list PySem.F.slot_list_remove PySem.F.type_list_remove mt_remove ho (pa_cons he pa_nil hs) hbase hfew hline hs) fun σ H Q ⟨W, ρ, m, rs, rm, h⟩ => ⟨W, ρ, m, rs, rm, post_mono (post_bind h) fun x W1 H1 m1 e1 rm1 h1 v rv => by
    cases x with
    | ref n =>
      dsimp only at h1
      split at h1
      · rename_i ys hy
        cases rv with
        | @ref _ a q =>
          obtain ⟨u, hu, ⟨vs, rfl, r⟩, _⟩ := rm1.get q hy (by simp)
          refine ⟨.inl ⟨rfl, vs, .inl (.inl hu)⟩, W1, ρ, m1, rs.mono e1.le, rm1, post_mono (post_bind h1) fun x W2 H2 m2 e2 rm2 h2 w rw' => ?_⟩
          split at h2
          · rename_i xs k hx
            split at h2
            · rename_i ns hns
              split at h2
              · rename_i hk
                have q2 := e2.le.get q
                obtain ⟨u, hu, ⟨vs, rfl, r⟩, _⟩ := rm2.get q2 hx (by simp)
                have ev := intsD_of r hns
                subst ev
                cases rw'
                obtain ⟨j, j1, j2, j3⟩ := erase_ix ns k hk
                refine ⟨a, ns, k, j, rfl, rfl, hu, j1, j2, ?_⟩
                rw [j3]
                obtain ⟨e3, rm3⟩ := set_cell (c' := .lst ((ns.erase k).map D.int)) (o := .lst ((ns.erase k).map V.int)) rm2 q2 hx (by simp) ⟨_, rfl, rds_ints _⟩
                exact h2 _ _ e3 rm3 _ .non
              · exact h2.elim
            · exact h2.elim
          · exact h2.elim
      · exact h1.elim
    | _ => exact h1.elim⟩
end
end Vi
namespace Vi
open PySem PySem.Spec PyProof.Rows L2
open PySem.W in
mutual
theorem reads_lt {h : Heap} : ∀ (d : PyData) (v : Value) (as : List Addr), alike d d = true → Reads h v d as → ∀ a ∈ as, a < h.objs.size
  | .none, _, _, _, r, _, ha => by cases r; cases ha
  | .bool _, _, _, _, r, _, ha => by cases r; cases ha
  | .int _, _, _, _, r, _, ha => by cases r; cases ha
  | .str _, _, _, _, r, _, ha => by cases r; cases ha
  | .list xs, _, _, hal, r, a, ha => by
    cases r with
    | list h1 h2 h3 h4 =>
      rcases List.mem_cons.mp ha with e | ha
      · subst e; exact Heap.lt_size h1
      · exact readsAll_lt xs _ _ (by simpa [alike] using hal) h4 a ha
  | .tuple xs, _, _, hal, r, a, ha => by
    cases r with
    | tuple h1 h2 h3 h4 => exact readsAll_lt xs _ _ (by simpa [alike] using hal) h4 a ha
  | .dict _, _, _, hal, _, _, _ => absurd hal (by simp [alike])
theorem readsAll_lt {h : Heap} : ∀ (ds : List PyData) (vs : List Value) (as : List Addr), alikeAll ds ds = true → ReadsAll h vs ds as → ∀ a ∈ as, a < h.objs.size
  | [], _, _, _, r, _, ha => by cases r; cases ha
  | d :: ds, _, _, hal, r, a, ha => by
    cases r with
    | cons h1 h2 =>
      rcases List.mem_append.mp ha with q | q
      · exact reads_lt d _ _ (alike_all_cons hal).1 h1 a q
      · exact readsAll_lt ds _ _ (alike_all_cons hal).2 h2 a q
end
section
variable {prog : Program} {w : World} {A : Around} {E : Value → Shared → Prop} {s : Shared}
abbrev nilL : Obj := { cls := .type "list", data := .seq ([] : List Value).toArray }
theorem collect_tup {R : List Value → Shared → Prop} (it : Addr) {o : Obj} {its : Array Value} {n : Nat} (ho : s.heap.get? it = some o) (hc : o.cls = .type "tuple") (hd : o.data = .seq its n) (hsz : its.size ≤ sizeLine)
    (hR : R its.toList { s with heap := (s.heap.push nilL).update s.heap.objs.size (Obj.mapSeq (· ++ its)) }) : wpAny (model prog w) A (collect (.ref it)) R E s := by
  have a1 : (s.heap.push nilL).get? s.heap.objs.size = some { cls := .type "list", data := .seq #[] 0 } := Heap.get?_push_size _ rfl
  have a2 := Heap.get?_update_self (Obj.mapSeq (· ++ its)) a1 rfl
  unfold collect
  refine wpAny_bind (wpAny_runValue (codeAny_builtin PySem.F.entry_proto_collect ?_))
  rw [Around.under_plainId PySem.F.plain_proto_collect _]
  show wpAny _ A.in1 (newList [] >>= fun l => again (.builtin "list.__iadd__" ⟨[l, .ref it], []⟩)) _ _ _
  refine wpAny_bind (wpAny_newObj_type (wpAny_pure ⟨plainId_quiet PySem.F.plain_list_iadd _, codeAny_builtin PySem.F.entry_list_iadd ?_⟩))
  rw [Around.under_plainId PySem.F.plain_list_iadd _]
  show wpAny _ A.in1 (Builtin.List.listExtendWith (.ref s.heap.objs.size) (.ref it) (.ref s.heap.objs.size)) _ _ { s with heap := s.heap.push nilL }
  have last : wpAny (model prog w) A (match Value.ref s.heap.objs.size with
      | Value.ref a => do match (← load a).data with
          | Data.seq xs _ => pure xs.toList
          | _ => unsupported "internal:collect"
      | _ => unsupported "internal:collect") R E { s with heap := (s.heap.push nilL).update s.heap.objs.size (Obj.mapSeq (· ++ its)) } := by
    show wpAny (model prog w) A (load s.heap.objs.size >>= _) R E _
    refine wpAny_bind (wpAny_load a2 (wpAny_pure ?_))
    have e : ((#[] : Array Value) ++ its).toList = its.toList := by simp
    show R ((#[] : Array Value) ++ its).toList _
    rw [e]; exact hR
  have ext := wpAny_extend_seq (hsz := hsz) (prog := prog) (w := w) (A := A) (R := fun r s' => r = .ok (.ret (.ref s.heap.objs.size)) ∧ s' = { s with heap := (s.heap.push nilL).update s.heap.objs.size (Obj.mapSeq (· ++ its)) })
    (s := { s with heap := s.heap.push nilL }) s.heap.objs.size it (.ref s.heap.objs.size) 0 (.inr rfl) a1 (Heap.get?_push_of_some _ ho) hc hd ⟨rfl, rfl⟩
  refine wpAny_mono ext (fun fin s' h => ?_) fun e s' h => absurd h.1 (by simp)
  cases fin with
  | done f =>
    obtain ⟨e, rfl⟩ := h
    cases e; exact last
  | again c' => exact ⟨h.1, codeAny_mono h.2 fun r s'' hr => by obtain ⟨rfl, rfl⟩ := hr; exact last⟩
end
section
variable {X : Cx}
def rSortsT (K : PySem.W.Frag) : List V → Hp → VK → Prop := fun vs H Q => ∃ (a : Addr) (qs : List (V × D × PyData)), vs = [.ref a] ∧ SqT K H a (qs.map (·.1)) ∧ (∀ q ∈ qs, Dp K H q.1 q.2.2) ∧ sortOk (qs.map (·.2.2)) = true ∧
  ∀ p, H p = none → Q (.ref p) (upd H p (.lst ((qs.mergeSort (PySem.W.dataLe false (·.2.2))).map (·.1))))
theorem call_sortsT (hu : X.A.units + 100 < cLine) : CallR X (.builtin "sorted") (rSortsT X.K) := by
  intro pins s σ H vs us Q I r ⟨a, qs, hv, hs, hd, ok, q⟩
  subst hv
  obtain ⟨its, rv, pl, hz⟩ := I.tuple hs
  rw [List.length_map] at hz
  rw [Vals.ref1 r]
  have ei := each_vals rv
  obtain ⟨o1, o2, o3⟩ := sortOk_of ok
  obtain ⟨o, ho, hc, n, hdat⟩ := pl
  have lz : its.length ≤ sizeLine := by rw [ei.length]; exact hz
  refine Calls.call_function_entry kind_sorted plain_sorted entry_sorted (args_sorted1 _) ?_
  unfold Builtin.«sorted»
  refine wpAny_bind (m := checkCount "sorted" 1 1 _) (wpAny_pure ?_)
  refine wpAny_bind (collect_tup a ho hc hdat (by rw [List.size_toArray]; exact lz) ?_)
  refine wpAny_bind (wpAny_newList ?_ lz)
  have hk : ∀ b o, s.heap.get? b = some o → ((s.heap.push nilL).update s.heap.objs.size (Obj.mapSeq (· ++ its.toArray))).get? b = some o := fun b o e =>
    (Heap.get?_update_other _ _ (Nat.ne_of_gt (Heap.lt_size e))).trans (Heap.get?_push_of_some _ e)
  have hsz : s.heap.objs.size < ((s.heap.push nilL).update s.heap.objs.size (Obj.mapSeq (· ++ its.toArray))).objs.size := by rw [Heap.size_update, size_push']; omega
  generalize (s.heap.push nilL).update s.heap.objs.size (Obj.mapSeq (· ++ its.toArray)) = h' at hk hsz ⊢
  show wpAny _ _ _ _ _ { s with heap := h'.push { cls := .type "list", data := .seq its.toArray } }
  have hob : (h'.push { cls := .type "list", data := .seq its.toArray }).get? h'.objs.size = some (seqObj "list" its.toArray 0) := Heap.get?_push_size _ rfl
  have kb : ∀ b o, s.heap.get? b = some o → (h'.push { cls := .type "list", data := .seq its.toArray }).get? b = some o := fun b o e => Heap.get?_push_of_some _ (hk b o e)
  have lt : ∀ b, b < s.heap.objs.size → b ≠ h'.objs.size := fun b hb => by omega
  have hge : s.heap.objs.size ≤ h'.objs.size := Nat.le_of_lt hsz
  generalize hh3 : h'.push { cls := .type "list", data := .seq its.toArray } = h2 at hob kb ⊢
  have base : wpAny (model X.prog X.w) X.A.in1 (call (.builtin "list.sort") [.ref h'.objs.size]) (fun _ s' => EP X pins σ Q (.ref h'.objs.size) s') X.xe { s with heap := h2 } := by
    have er : PySem.W.EachIs (fun u (q : V × D × PyData) => ∃ as, Reads h2 u q.2.2 as ∧ h'.objs.size ∉ as) its qs := (each_mem ei).mono fun u q ⟨h1, h2'⟩ => by
      obtain ⟨as, ra⟩ := Dp.reads I q.2.2 q.1 u (hd q h2') h1
      refine ⟨as, PyProof.Rows.Reads.keeps kb ra, fun hm => ?_⟩
      have hal := o1 q.2.2 (List.mem_map.mpr ⟨q, h2', rfl⟩) q.2.2 (List.mem_map.mpr ⟨q, h2', rfl⟩)
      exact lt _ (reads_lt q.2.2 u as hal ra _ hm) rfl
    refine PySem.W.list_sort_data (s := { s with heap := h2 }) (a := h'.objs.size) (n := 0) (bs := qs) (enc := fun q => q.2.2) (R := fun u q => L2.RelV q.1 u) hob ei er o1 o2 hz (fun b hb => ?_) fun out ol oe => ?_
    · have := o3 b.2.2 (List.mem_map.mpr ⟨b, hb, rfl⟩)
      show X.A.units + 1 + 1 + b.2.2.depth < cLine
      omega
    · obtain ⟨eF, heF⟩ := PyProof.Rows.sortedHeap_at (vs := its) (out := out.toArray) hob
      have kS : ∀ b o, s.heap.get? b = some o → (sortedHeap h2 h'.objs.size its out.toArray).get? b = some o := fun b o e => (PyProof.Rows.sortedHeap_old (lt b (Heap.lt_size e)) (Heap.lt_size (kb b o e))).trans (kb b o e)
      have J := I.laid (t' := s.toks) (o := .lst ((qs.mergeSort (PySem.W.dataLe false (·.2.2))).map (·.1))) kS hge ⟨by rw [List.length_map, List.length_mergeSort]; exact hz, out, eF, vals_each oe, heF⟩
      exact ⟨.ref _, _, J, rfl, q _ (I.hok.fresh hge)⟩
  refine wpAny_bind (wpAny_holding (wpAny_mono base (fun _ s' x => ?_) fun _ _ e => e))
  exact wpAny_pure ⟨_, rfl, x⟩
def gSortedT : List D → M → R (List D) := fun xs m => match xs with
  | [.tup ys] => match tagPy ys m with
    | some ps => if sortOk (ps.map Prod.snd) = true then .ok (sortD false ps) m else .bad
    | none => .bad
  | _ => .bad
theorem c_sortedT (hu : X.A.units + 100 < cLine) : CallL X (.builtin "sorted") gSortedT := ⟨_, call_sortsT hu, fun EX W0 W H0 H m vs xs Q e0 rm r hp => by
  unfold gSortedT at hp
  split at hp
  · obtain ⟨v, rfl, rv⟩ := RDs.inv1 r
    split at hp
    · rename_i ps hps
      split at hp
      · rename_i ok
        cases rv with
        | @tup a us ds hT hN r2 =>
          obtain ⟨qs, h1, h2, h3⟩ := tagPy_rel rm r2 hps
          have e2 : qs.map (·.2.2) = ps.map Prod.snd := by rw [← h2, List.map_map]; rfl
          have srt : ((qs.mergeSort (PySem.W.dataLe false (·.2.2))).map (·.2)) = ps.mergeSort (PySem.W.dataLe false Prod.snd) := by
            rw [← h2]
            exact PySem.W.sort_maps (fun q : V × D × PyData => q.2) fun a _ b _ => rfl
          refine ⟨a, qs, rfl, by rw [h1]; exact same_T rm.sub hT, fun q hq => (h3 q hq).2, by rw [e2]; exact ok, fun p hpn => ?_⟩
          refine fresh_post e0 rm hpn ?_ hp
          unfold sortD
          rw [← srt, List.map_map]
          have : ∀ l : List (V × D × PyData), (∀ q ∈ l, RD X.K W q.1 q.2.1) → RDs X.K W (l.map (·.1)) (l.map (Prod.fst ∘ (·.2))) := by
            intro l
            induction l with
            | nil => exact fun _ => .nil
            | cons q l ih => exact fun h => .cons (h q List.mem_cons_self) (ih fun z hz => h z (List.mem_cons_of_mem _ hz))
          exact this _ fun q hq => (h3 q (List.mem_mergeSort.mp hq)).1
      · exact hp.elim
    · exact hp.elim
  · exact hp.elim⟩
end
end Vi
namespace Vi
open PySem PySem.Spec PyProof.Rows L2
def chkM (n : Nat) (xs : List D) (m : M) : Bool := match m[n]? with
  | some (.lst ys) => eqDs ys xs
  | _ => false
theorem chkM_of {n : Nat} {xs : List D} {m : M} (h : chkM n xs m = true) : m[n]? = some (.lst xs) := by
  unfold chkM at h
  split at h
  · rename_i ys e
    rw [e, eqDs_to h]
  · cases h
theorem chkM_ok {n : Nat} {xs : List D} {m : M} (h : m[n]? = some (.lst xs)) : chkM n xs m = true := by
  unfold chkM
  rw [h]
  exact eqDs_refl xs
def compLM (n : Nat) (ys : List D) (g : SG) (t : SB) (el : SE) (ρw : En) : List D → M → R (List D)
  | [], m => if chkM n ys m = true then .ok [] m else .bad
  | x :: xs, m => if chkM n ys m = true then (g x ρw m).bind fun ρ m => (t ρ m).bind fun k m => if k = true then (el ρ m).bind fun y m => (compLM n ys g t el ρw xs m).bind fun zs m => .ok (y :: zs) m else compLM n ys g t el ρw xs m else .bad
def sCompM (own : List Nat) (d : SE) (g : SG) (t : SB) (el : SE) : SA := fun ρ m => (d ρ m).bind fun x m => match x with
  | .ref n => match m[n]? with
    | some (.lst xs) => if xs.length ≤ big then noexn (compLM n xs g t el (wipeE ρ own) xs m) else .bad
    | _ => .bad
  | _ => .bad
theorem compLM_cons {α : Type} {n : Nat} {ys : List D} (g : SG) (t : SB) (el : SE) (ρw : En) (x : D) (xs : List D) (m : M) (k : List D → M → R α) (h : chkM n ys m = true) : (compLM n ys g t el ρw (x :: xs) m).bind k =
    (g x ρw m).bind fun ρ m => (t ρ m).bind fun b m => if b = true then (el ρ m).bind fun y m => (compLM n ys g t el ρw xs m).bind fun zs m => k (y :: zs) m else (compLM n ys g t el ρw xs m).bind k := by
  rw [compLM, if_pos h]
  cases g x ρw m with
  | ok ρ m1 =>
    simp only [bind_ok]
    cases t ρ m1 with
    | ok b m2 =>
      simp only [bind_ok]
      cases b with
      | false => rfl
      | true =>
        simp only [if_true]
        cases el ρ m2 with
        | ok y m3 =>
          simp only [bind_ok]
          cases compLM n ys g t el ρw xs m3 <;> rfl
        | exn c m3 => rfl
        | bad => rfl
    | exn c m2 => rfl
    | bad => rfl
  | exn c m1 => rfl
  | bad => rfl
theorem compLM_chk {n : Nat} {ys : List D} {g : SG} {t : SB} {el : SE} {ρw : En} {K : PySem.W.Frag} {mg : Str → Option Value} {W : Wd} {H : Hp} {Q : List D → Wd → Hp → M → Prop} {EX : Str → Hp → Prop} {α : Type} {f : List D → M → R (List D)} (xs : List D) (m : M) (h : post K mg W H ((compLM n ys g t el ρw xs m).bind f) Q EX) : chkM n ys m = true := by
  cases q : chkM n ys m with
  | true => rfl
  | false =>
    exfalso
    cases xs with
    | nil => rw [compLM, if_neg (by simp [q])] at h; exact h
    | cons x xs => rw [compLM, if_neg (by simp [q])] at h; exact h
section
variable {X : Cx} {EX : EXT} {pos : Pos} {tg e : Expr} {g : SG} {own : List Nat}
theorem mem_at {W1 W : Wd} {H : Hp} {m : M} {n : Nat} {a : Addr} {xs : List D} (le : Le W1 W) (rm : RM X.K X.mg W H m) (ha : W1.φ[n]? = some a) (hc : chkM n xs m = true) : ∃ vs, H a = some (.lst vs) ∧ RDs X.K W vs xs := by
  obtain ⟨o, ho, ⟨vs, rfl, r⟩, _⟩ := rm.get (le.get ha) (chkM_of hc) (by simp)
  exact ⟨vs, ho, r⟩
theorem comp_impM {d : SE} {t : SB} {el : SE} {σ : L2.St} {H : Hp} {Q : VK} (h : tL X.K X.mg EX (sCompM own d g t el) σ H Q) :
    tLc (iList X.K (tE X.K X.mg EX d)) (tGo X.K X.mg RD own g) (tT X.K X.mg EX0 t) (tE X.K X.mg EX0 el) own σ H Q := by
  obtain ⟨W, ρ, m, rs, rm, h⟩ := h
  refine ⟨W, ρ, m, rs, rm, post_mono (post_bind h) fun x W1 H1 m1 e1 rm1 h1 v rv => ?_⟩
  cases x with
  | ref n =>
    dsimp only at h1
    split at h1
    · rename_i xs hx
      cases rv with
      | @ref _ a hφa =>
        obtain ⟨o, ho, ⟨vs0, rfl, r0⟩, _⟩ := rm1.get hφa hx (by simp)
        refine ⟨a, rfl, ⟨vs0, .inl (.inl ho)⟩, fun D0 hD => ?_⟩
        split at h1
        · rename_i hbig
          have h1 := noexn_post h1
          have hD0 : H D0 = none := by
            cases q : H D0 with
            | none => rfl
            | some o => exact absurd hD (e1.al D0 (by rw [q]; simp))
          refine ⟨fun i k H2 => ∃ W2 m2 acc vs, Ex W1 H1 W2 H2 ∧ RM X.K X.mg W2 H2 m2 ∧ H2 D0 = some (.lst vs) ∧ D0 ∉ W2.φ ∧ W2.I D0 = none ∧ RDs X.K W2 vs acc ∧ acc.length ≤ i ∧ i ≤ xs.length ∧ k = xs.length - i ∧
            post X.K X.mg W1 H1 ((compLM n xs g t el (wipeE ρ own) (xs.drop i) m2).bind fun ys m => .ok (acc ++ ys) m) (fun xs W' H' _ => ∀ p vs, H p = none → p ∉ W'.φ → W'.I p = none → H' p = some (.lst vs) → RDs X.K W' vs xs → Q (.ref p) H') EXN,
            ⟨xs.length, W1, m1, [], [], ?_⟩, ?_⟩
          · obtain ⟨eu, ru⟩ := put_new (o := .lst []) Ex.refl hD rm1 (rm1.nin hD) (rm1.nI hD)
            refine ⟨eu, ru, upd_same, rm1.nin hD, rm1.nI hD, .nil, Nat.zero_le _, Nat.zero_le _, rfl, ?_⟩
            rw [List.drop_zero]
            revert h1
            cases compLM n xs g t el (wipeE ρ own) xs m1 with
            | ok ys m2 => exact fun h1 => h1
            | exn c m2 => exact fun h1 => h1
            | bad => exact fun h1 => h1
          · rintro i k H2 ⟨W2, m2, acc, vs, e2, rm2, hl, hφ, hI, rv, hacc, hi, rfl, h2⟩
            have hchk := compLM_chk (α := Unit) _ _ h2
            obtain ⟨us, hus, ru2⟩ := mem_at e2.le rm2 hφa hchk
            by_cases hlt : i < xs.length
            · obtain ⟨u0, hu0, _⟩ := ru2.get (List.getElem?_eq_getElem hlt)
              refine .inr ⟨⟨us, u0, .inl (.inl hus), hu0⟩, fun H3 => ∃ W3 m3 acc vs, Ex W1 H1 W3 H3 ∧ RM X.K X.mg W3 H3 m3 ∧ H3 D0 = some (.lst vs) ∧ D0 ∉ W3.φ ∧ W3.I D0 = none ∧ RDs X.K W3 vs acc ∧ acc.length ≤ i + 1 ∧
                post X.K X.mg W1 H1 ((compLM n xs g t el (wipeE ρ own) (xs.drop (i + 1)) m3).bind fun ys m => .ok (acc ++ ys) m) (fun xs W' H' _ => ∀ p vs, H p = none → p ∉ W'.φ → W'.I p = none → H' p = some (.lst vs) → RDs X.K W' vs xs → Q (.ref p) H') EXN, ?_, ?_⟩
              · rintro H3 ⟨W3, m3, acc3, vs3, a1, a2, a3, a4, a5, a6, a7, a8⟩
                exact ⟨xs.length - (i + 1), by omega, W3, m3, acc3, vs3, a1, a2, a3, a4, a5, a6, a7, hlt, rfl, a8⟩
              · rintro v H3 ⟨eH, hy⟩
                subst eH
                obtain ⟨u, hu, rl⟩ := ru2.get (List.getElem?_eq_getElem hlt)
                have := hy us (.inl (.inl hus))
                rw [hu] at this
                cases this
                rw [List.drop_eq_getElem_cons hlt, compLM_cons _ _ _ _ _ _ _ _ hchk] at h2
                have h3 := post_shift (post_bind0 h2) e2
                have rsw : RS X.K W2 (wipe σ own) (wipeE ρ own) := (rs.mono (e1.trans e2).le).wipe own
                refine ⟨W2, wipeE ρ own, m2, xs[i], rsw, rm2, rl, post_mono h3 fun ρ4 W4 H4 m4 e4 rm4 h4 σ4 rs4 w4 => ⟨?_, ?_⟩⟩
                · rw [w4]
                  apply List.ext_getElem?
                  intro j
                  rw [wipe_get, wipe_get, wipe_length]
                  by_cases hj : j ∈ own ∧ j < σ.length <;> simp [hj]
                · obtain ⟨hl4, hφ4, hI4⟩ := stays e4 hl hφ hI
                  refine ⟨W4, ρ4, m4, rs4, rm4, post_mono (post_shift (post_bind0 h4) (e2.trans e4)) fun k W5 H5 m5 e5 rm5 h5 => ?_⟩
                  obtain ⟨hl5, hφ5, hI5⟩ := stays e5 hl4 hφ4 hI4
                  have E5 : Ex W1 H1 W5 H5 := e2.trans (e4.trans e5)
                  cases k with
                  | false => exact ⟨W5, m5, acc, vs, E5, rm5, hl5, hφ5, hI5, rv.mono (e4.trans e5).le, by omega, h5⟩
                  | true =>
                    rw [if_pos rfl] at h5 ⊢
                    refine ⟨W5, ρ4, m5, rs4.mono e5.le, rm5, post_mono (post_shift (post_bind0 h5) E5) fun y W6 H6 m6 e6 rm6 h6 u ru => ?_⟩
                    obtain ⟨hl6, hφ6, hI6⟩ := stays e6 hl5 hφ5 hI5
                    have rv6 := rv.mono (e4.trans (e5.trans e6)).le
                    refine ⟨vs, hl6, ?_, ?_⟩
                    · rw [rv6.length, big_eq]; omega
                    · obtain ⟨eu, ru6⟩ := put_new (o := .lst (vs ++ [u])) (E5.trans e6) hD rm6 hφ6 hI6
                      refine ⟨W6, m6, acc ++ [y], vs ++ [u], eu, ru6, upd_same, hφ6, hI6, rv6.append (.cons ru .nil), by simp; omega, ?_⟩
                      have : (fun (ys : List D) (m : M) => (R.ok (acc ++ [y] ++ ys) m : R (List D))) = fun ys m => R.ok (acc ++ y :: ys) m := by
                        funext ys m; rw [List.append_assoc]; rfl
                      rw [this]; exact h6
            · have hend : i = xs.length := by omega
              subst hend
              rw [List.drop_length, compLM, if_pos hchk] at h2
              refine .inl ⟨⟨us, .inl (.inl hus), Nat.le_of_eq ru2.length⟩, ?_⟩
              have := h2 W2 H2 e2 rm2 D0 vs hD0 hφ hI hl
              rw [List.append_nil] at this
              exact this rv
        · exact h1.elim
    · exact h1.elim
  | _ => exact h1.elim
theorem dl_compM {elt it : Expr} {ifs : List Expr} {scope : Scope} {ow : List (Str × Nat)} {d : SE} {t : SB} {el : SE} (hc : X.calm = true) (hN : X.N.Nodup) (hi : DE X EX it d) (ok : BlkOk X.N X.env.scope scope ow)
    (hg : ∀ (s : Shared) (H : Hp) (C : Addr) (cl : List (Str × Addr)) (fp : List Addr), DGo (X.blk s H scope (compEnvC scope cl C X.env) fp) RD (ow.map (·.2)) tg g)
    (ht : ∀ (s : Shared) (H : Hp) (C : Addr) (cl : List (Str × Addr)) (fp : List Addr), DTs (X.blk s H scope (compEnvC scope cl C X.env) fp) ifs t)
    (he : ∀ (s : Shared) (H : Hp) (C : Addr) (cl : List (Str × Addr)) (fp : List Addr), DE (X.blk s H scope (compEnvC scope cl C X.env) fp) EX0 elt el) (hs : ∀ x, foldedSetIterable it X.env x = pure x := by intro _; rfl) :
    DL X EX (.ListComp elt [⟨tg, it, ifs, 0⟩] scope pos) (sCompM (ow.map (·.2)) d g t el) :=
  PE.imp (pe_lc hc hN (pi_list hi) ok hg ht he hs) fun σ H Q h => comp_impM h
end
end Vi
namespace Vi
open PySem PySem.Spec PyProof.Rows L2
section
variable {K : PySem.W.Frag} {mg : Str → Option Value} {W : Wd} {H : Hp} {m : M}
end
theorem CallL.or {X : Cx} {fv : Value} {g g' : List D → M → R (List D)} (h : CallL X fv g) (h' : CallL X fv g') (p : List D → Bool) : CallL X fv (fun xs m => if p xs = true then g xs m else g' xs m) := by
  obtain ⟨r, hr, l⟩ := h
  obtain ⟨r', hr', l'⟩ := h'
  refine ⟨_, CallR.or' hr hr', fun EX W0 W H0 H m vs xs Q e0 rm rd hp => ?_⟩
  by_cases q : p xs = true
  · simp only [if_pos q] at hp
    exact .inl (l EX W0 W H0 H m vs xs Q e0 rm rd hp)
  · simp only [if_neg q] at hp
    exact .inr (l' EX W0 W H0 H m vs xs Q e0 rm rd hp)
end Vi
namespace Vi
open PySem PySem.Spec PyProof.Rows L2
section
variable {X : Cx} {EX : EXT} {tg it : Expr} {body : List Stmt} {d : SE} {g : SG} {b : SS} {pos : Pos}
end
end Vi
namespace Vi
open PySem PySem.Spec PyProof.Rows L2 PySem.W PySem.W.KIN
end Vi
namespace Vi
open PySem PySem.Spec PyProof.Rows L2
section
variable {X : Cx} {EX : EXT} {o e : Expr} {do_ d : SE} {apos cpos : Pos}
end
end Vi
namespace Vi
open PySem PySem.Spec PyProof.Rows L2
section
variable {X : Cx}
end
end Vi
namespace Vi
open PySem PySem.Spec PyProof.Rows L2
section
variable {X : Cx} {EX : EXT} {i : Expr} {di : SE} {x : Str} {p pos : Pos} {a : Addr} {tb : List (Int × D)}
end
section
variable {K : PySem.W.Frag}
end
section
variable {X : Cx} {EX : EXT} {x : Str} {p pos : Pos}
end
end Vi
namespace Vi
open PySem PySem.Spec PyProof.Rows L2
section
variable {X : Cx} {EX : EXT} {elts : List Expr} {kk : Nat}
variable {e e2 e3 : Expr} {p pos tpos : Pos} {ta : TA} {ds : SA}
end
end Vi
namespace Vi
open PySem PySem.Spec PyProof.Rows L2
section
variable {X : Cx} {EX : EXT} {a b c : Expr} {p p2 pos pos2 : Pos} {ta : TA} {ds : SA}
end
end Vi
namespace Vi
open PySem PySem.Spec PyProof.Rows L2
section
variable {X : Cx} {EX : EXT} {o e : Expr} {do_ d : SE} {apos pos : Pos}
end
section
variable {X : Cx} {EX : EXT} {k : Nat}
theorem loose {W : Wd} {H : Hp} {m : M} {p : Addr} {vs : List V} (rm : RM X.K X.mg W H m) (hp : H p = none) : Ex W H W (upd H p (.lst vs)) ∧ RM X.K X.mg W (upd H p (.lst vs)) m :=
  ⟨⟨Same.refl _, ⟨[], by simp, by simp⟩, fun b u e _ => upd_ne' hp e, fun b e => by
    unfold upd; split
    · simp
    · exact e, fun _ _ z => .inl z⟩, ⟨fun b u e => upd_ne' hp (rm.sub b u e), rm.len, rm.nd, fun b hb => by
    unfold upd; split
    · simp
    · exact rm.al b hb, fun i a c h1 h2 h3 => by
    obtain ⟨u, e, q⟩ := rm.obj i a c h1 h2 h3
    exact ⟨u, upd_ne' hp e, q⟩, rm.off⟩⟩
end
end Vi
namespace Vi
open PySem PySem.Spec PyProof.Rows L2
section
variable {X : Cx} {EX : EXT} {a b : Expr} {da db : SE} {rest : List Expr} {pos : Pos}
end
section
variable {X : Cx} {EX : EXT} {a : Expr} {da : SE} {pos : Pos}
end
end Vi
namespace HT
open PySem PySem.Spec PyProof.Rows
section
variable {prog : Program} {w : World} {A : Around} {E : Value → Shared → Prop} {s : Shared}
end
end HT
namespace Vi
open PySem PySem.Spec PyProof.Rows L2
section
variable {X : Cx} {EX : EXT} {a : Expr} {da : SE} {pos : Pos}
theorem op_isNotB : OpR X (compareOp .IsNot) (fun x y H Q => ∃ m n, x = .bl m ∧ y = .bl n ∧ Q (.bl (!decide (m = n))) H) := by
  intro pins s σ H x y v u Q I rx ry h
  obtain ⟨m, n, rfl, rfl, q⟩ := h
  cases (show v = Value.bool m from rx)
  cases (show u = Value.bool n from ry)
  by_cases e : m = n
  · subst e
    exact wpAny_isNot_self rfl ⟨.bl false, H, I, rfl, by simpa using q⟩
  · exact wpAny_isNot_other rfl (fun z => e (Value.bool.inj z)) ⟨.bl true, H, I, rfl, by simpa [e] using q⟩
def gIsQ : D → D → M → R Bool := fun x y m => match x, y with
  | .bl b, .bl c => .ok (decide (b = c)) m
  | _, _ => .bad
def gNotQ : D → D → M → R Bool := fun x y m => match x, y with
  | .bl b, .bl c => .ok (!decide (b = c)) m
  | _, _ => .bad
theorem o_notQ : Op2B X (compareOp .IsNot) gNotQ := ⟨_, op_isNotB, fun EX W H m vx vy x y Q rm rx ry hp => by
  unfold gNotQ at hp
  split at hp
  · cases rx; cases ry
    exact ⟨_, _, rfl, rfl, post_ok hp rm⟩
  · exact hp.elim⟩
end
end Vi
namespace Vi
open PySem PySem.Spec PyProof.Rows L2
section
variable {P : Program} {w : World} {A : Around} {E : Value → Shared → Prop} {s : Shared}
set_option maxRecDepth 100000 in
set_option maxHeartbeats 3200000 in
end
end Vi
namespace Vi
open PySem PySem.Spec PyProof.Rows L2
def dRows : List D → Option (List (List Int))
  | [] => some []
  | .tup xs :: ds => (intsD xs).bind fun r => (dRows ds).map (r :: ·)
  | _ :: _ => none
section
variable {X : Cx} {EX : EXT} {a : Expr} {ta : TE} {d : SE} {p p2 q pos : Pos}
end
end Vi
namespace Vi
open PySem PySem.Spec PyProof.Rows L2
section
variable {P : Program} {w : World} {A : Around} {E : Value → Shared → Prop} {s : Shared}
set_option maxRecDepth 100000 in
set_option maxHeartbeats 3200000 in
end
section
variable {X : Cx} {EX : EXT} {a : Expr} {ta : TE} {d : SE} {p p2 q pos : Pos}
end
end Vi
namespace Vi
open PySem PySem.Spec PyProof.Rows L2
section
variable {X : Cx} {EX : EXT} {a : Expr} {d : SE} {p p2 q pos : Pos}
theorem one_callL (g : List D → M → R (List D)) (d : SE) : sCallL g (sCons d sNil) = fun ρ m => (d ρ m).bind fun x m => g [x] m := by
  funext ρ m
  unfold sCallL sCons sNil
  cases d ρ m <;> rfl
end
end Vi
namespace Vi
open PySem PySem.Spec PyProof.Rows L2
section
variable {X : Cx} {EX : EXT} {a : Expr} {ta : TE} {d : SE} {p p2 q pos : Pos}
end
end Vi
namespace Vi
open PySem PySem.Spec PyProof.Rows L2
def MaskN (m : Nat) : Prop := ∃ K, 3 ≤ K ∧ m + 1 = 2 ^ K
def bN : Nat → Nat
  | 0 => 0
  | k + 1 => 5 * bN k + 1
theorem lcg_lin (m i : Nat) : ∀ k, lcgI m i k % (m + 1) = (5 ^ k * i + bN k) % (m + 1)
  | 0 => by simp [lcgI, bN]
  | k + 1 => by
    show (lcgI m i k * 5 + 1) % (m + 1) % (m + 1) = _
    rw [Nat.mod_mod, Nat.add_mod, Nat.mul_mod, lcg_lin m i k, ← Nat.mul_mod, ← Nat.add_mod]
    congr 1
    rw [bN, Nat.pow_succ, Nat.add_mul, Nat.mul_assoc, Nat.mul_assoc, Nat.mul_comm i 5, Nat.mul_comm (bN k) 5]
    omega
theorem bN_add (a : Nat) : ∀ b, bN (a + b) = 5 ^ b * bN a + bN b
  | 0 => by simp [bN]
  | b + 1 => by
    rw [← Nat.add_assoc, bN, bN_add a b, bN, Nat.pow_succ, Nat.mul_add, ← Nat.mul_assoc, Nat.mul_comm 5 (5 ^ b)]
    omega
theorem two_steps : ∀ K, (∃ a, 5 ^ 2 ^ K = 1 + 2 ^ (K + 2) * a) ∧ ∃ b, bN (2 ^ K) = 2 ^ K * (1 + 2 * b)
  | 0 => ⟨⟨1, rfl⟩, ⟨0, rfl⟩⟩
  | K + 1 => by
    obtain ⟨⟨a, ha⟩, b, hb⟩ := two_steps K
    have e2 : 2 ^ (K + 1) = 2 ^ K + 2 ^ K := by rw [Nat.pow_succ]; omega
    refine ⟨⟨a + 2 ^ (K + 1) * (a * a), ?_⟩, ?_⟩
    · rw [e2, Nat.pow_add, ha]
      have e3 : 2 ^ (K + 1 + 2) = 2 * 2 ^ (K + 2) := by rw [Nat.pow_succ 2 (K + 2), Nat.mul_comm]
      have e4 : 2 ^ (K + 2) = 2 * 2 ^ (K + 1) := by rw [Nat.pow_succ 2 (K + 1), Nat.mul_comm]
      rw [← e2, e3, e4]
      generalize 2 ^ (K + 1) = x
      grind
    · refine ⟨b + 2 ^ K * a * (1 + 2 * b), ?_⟩
      rw [e2, bN_add, hb, ha]
      have e4 : 2 ^ (K + 2) = 4 * 2 ^ K := by rw [Nat.pow_succ, Nat.pow_succ]; omega
      rw [e4]
      generalize 2 ^ K = x
      grind
theorem cyc : ∀ (K i j : Nat), ∃ n, n < 2 ^ K ∧ (5 ^ n * i + bN n) % 2 ^ K = j % 2 ^ K
  | 0, i, j => ⟨0, by simp, by simp [Nat.mod_one]⟩
  | K + 1, i, j => by
    obtain ⟨n, hn, e⟩ := cyc K i j
    have e2 : 2 ^ (K + 1) = 2 * 2 ^ K := by rw [Nat.pow_succ, Nat.mul_comm]
    generalize hX : 5 ^ n * i + bN n = X at e
    by_cases q : X % 2 ^ (K + 1) = j % 2 ^ (K + 1)
    · exact ⟨n, by omega, by rw [hX]; exact q⟩
    · refine ⟨n + 2 ^ K, by omega, ?_⟩
      obtain ⟨⟨a, ha⟩, b, hb⟩ := two_steps K
      have e3 : 5 ^ (n + 2 ^ K) * i + bN (n + 2 ^ K) = X + 2 ^ K + 2 ^ (K + 1) * (2 * (a * X) + b) := by
        rw [bN_add, Nat.pow_add, ha, hb, ← hX, e2]
        have e4 : 2 ^ (K + 2) = 4 * 2 ^ K := by rw [Nat.pow_succ, Nat.pow_succ]; omega
        rw [e4]
        generalize 2 ^ K = x
        generalize 5 ^ n = y
        grind
      rw [e3, Nat.add_mul_mod_self_left, e2]
      rw [e2] at q
      have p : 0 < 2 ^ K := Nat.two_pow_pos K
      generalize 2 ^ K = x at *
      have h1 := Nat.mod_mul_left_mod X 2 x
      have h2 := Nat.mod_mul_left_mod j 2 x
      have b1 := Nat.mod_lt X (show 0 < 2 * x by omega)
      have b2 := Nat.mod_lt j (show 0 < 2 * x by omega)
      have b3 := Nat.mod_lt X p
      have c1 : X % (2 * x) = X % x ∨ X % (2 * x) = X % x + x := by
        rw [← h1]
        generalize X % (2 * x) = y at *
        rcases Nat.lt_or_ge y x with c | c
        · left; rw [Nat.mod_eq_of_lt c]
        · right; rw [Nat.mod_eq_sub_mod c, Nat.mod_eq_of_lt (by omega)]; omega
      have c2 : j % (2 * x) = j % x ∨ j % (2 * x) = j % x + x := by
        rw [← h2]
        generalize j % (2 * x) = y at *
        rcases Nat.lt_or_ge y x with c | c
        · left; rw [Nat.mod_eq_of_lt c]
        · right; rw [Nat.mod_eq_sub_mod c, Nat.mod_eq_of_lt (by omega)]; omega
      rw [Nat.add_mod]
      have c3 : x % (2 * x) = x := Nat.mod_eq_of_lt (by omega)
      rw [c3]
      rcases c1 with c1 | c1 <;> rcases c2 with c2 | c2
      · omega
      · rw [c1, Nat.mod_eq_of_lt (by omega)]; omega
      · rw [c1, Nat.mod_eq_sub_mod (by omega), Nat.mod_eq_of_lt (by omega)]; omega
      · omega
theorem lcg_bd {m i : Nat} (hi : i ≤ m) : ∀ k, lcgI m i k ≤ m
  | 0 => hi
  | k + 1 => Nat.le_of_lt_succ (Nat.mod_lt _ (Nat.succ_pos _))
theorem cyc_all {m : Nat} (hm : MaskN m) {i j : Nat} (hi : i ≤ m) (hj : j ≤ m) : ∃ k, k ≤ m ∧ lcgI m i k = j := by
  obtain ⟨K, _, e⟩ := hm
  obtain ⟨n, hn, q⟩ := cyc K i j
  rw [← e] at hn q
  refine ⟨n, by omega, ?_⟩
  have := lcg_lin m i n
  have b := lcg_bd hi n
  rw [Nat.mod_eq_of_lt (show lcgI m i n < m + 1 by omega), q, Nat.mod_eq_of_lt (show j < m + 1 by omega)] at this
  exact this
theorem way_bd {m : Nat} {h : Int} {k : Nat} : way m h k ≤ m := by
  have hi : SetTable.bits h % (m + 1) ≤ m := Nat.le_of_lt_succ (Nat.mod_lt _ (Nat.succ_pos _))
  have r := runEnd_bd hi
  have q := nth_in (m := m) k (runAt m (SetTable.bits h % (m + 1)) (SetTable.bits h)) (by
    show SetTable.bits h % (m + 1) + (SetTable.runEnd m (SetTable.bits h % (m + 1)) - SetTable.bits h % (m + 1)) ≤ m
    omega)
  show (nth m _ k).j ≤ m
  omega
theorem steps_nd {m i : Nat} (hm : MaskN m) (hi : i ≤ m) : ((List.range (m + 1)).map (lcgI m i)).Nodup := by
  have p := perm_range (m + 1) ((List.range (m + 1)).map (lcgI m i)) (by simp) fun j hj => by
    obtain ⟨k, hk, e⟩ := cyc_all hm hi (Nat.le_of_lt_succ hj)
    exact List.mem_map.mpr ⟨k, List.mem_range.mpr (by omega), e⟩
  exact p.nodup_iff.mpr List.nodup_range
theorem near_free {m : Nat} (hm : MaskN m) {l : List Nat} (hl : l.length ≤ m) (h : Int) : ∃ K, K ≤ 10 * (l.length + 12) ∧ way m h K ∉ l ∧ ∀ k, k < K → way m h k ∈ l := by
  obtain ⟨k, hk, hn⟩ : ∃ k, k ≤ l.length ∧ lcgI m (runI m (SetTable.bits h) 12) k ∉ l := by
    apply Classical.byContradiction
    intro no
    have all : ∀ x ∈ (List.range (l.length + 1)).map (lcgI m (runI m (SetTable.bits h) 12)), x ∈ l := fun x hx => by
      obtain ⟨k, hk, rfl⟩ := List.mem_map.mp hx
      have := List.mem_range.mp hk
      exact Classical.byContradiction fun c => no ⟨k, by omega, c⟩
    have nd : ((List.range (l.length + 1)).map (lcgI m (runI m (SetTable.bits h) 12))).Nodup := by
      refine (steps_nd hm (runI_le m (SetTable.bits h) 12)).sublist (List.Sublist.map _ ?_)
      have e : List.range (m + 1) = List.range (l.length + 1) ++ (List.range (m - l.length)).map (fun x => l.length + 1 + x) := by
        rw [← List.range_add]; congr 1; omega
      rw [e]
      exact List.sublist_append_left _ _
    have := nat_nodup_len _ _ nd all
    simp at this
    omega
  obtain ⟨n, b, e⟩ := run_nth m (SetTable.bits h) (12 + k)
  have ew : way m h n = lcgI m (runI m (SetTable.bits h) 12) k := by
    show (nth m (runAt m (SetTable.bits h % (m + 1)) (SetTable.bits h)) n).j = _
    rw [e]
    exact runI_tail (bits_lt h) k
  obtain ⟨K, h1, h2, h3⟩ := st_least (p := fun k => way m h k ∉ l) n (by show way m h n ∉ l; rw [ew]; exact hn)
  exact ⟨K, by omega, h2, fun q hq => Classical.byContradiction fun c => h3 q hq c⟩
abbrev RowT := Addr × List Int
structure SetN (P : Program) (w : World) (h : Heap) (S : Addr) (L : List RowT) (es : Array (Int × Value)) (ep : Nat) (t : SetTable) : Prop where
  obj : ∃ z, h.get? S = some z ∧ z.ExactSet ∧ z.data = .set es ep t
  rws : es.toList = rowsOf P w L
  asc : Ris t.place.toList
  nod : t.dummies = #[]
  cnt : t.place.size = L.length
  msk : MaskN t.mask
  ins : ∀ x ∈ t.place.toList, x ≤ t.mask
  unl : (L.map (·.2)).Nodup
  tps : ∀ p ∈ L, IsT P w h p.2 p.1
  pln : t.plain = true
  lds : w.params.followText "set-order" = true ∨ t.led = true
  few : L.length * 5 < t.mask * 3
  cap : L.length ≤ 9000
section
variable {P : Program} {w : World} {A : Around} {E : Value → Shared → Prop} {s : Shared} {S : Addr} {L : List RowT} {es : Array (Int × Value)} {ep : Nat} {t : SetTable}
theorem SetN.len (R : SetN P w s.heap S L es ep t) : es.size = L.length := by
  have q := congrArg List.length R.rws
  simpa [rowsOf] using q
theorem mask_1 {m : Nat} (h : MaskN m) : m % 2 = 1 ∧ 7 ≤ m := by
  obtain ⟨K, h3, e⟩ := h
  have e2 : 2 ^ K = 8 * 2 ^ (K - 3) := by
    rw [show K = (K - 3) + 3 by omega, Nat.pow_add, Nat.add_sub_cancel]; omega
  have := Nat.two_pow_pos (K - 3)
  omega
theorem SetN.goes (R : SetN P w s.heap S L es ep t) : t.fits es.size = true ∧ ¬ t.gaveWay = true := by
  have a := R.cnt
  have b := R.len
  have c := R.few
  have d := mask_1 R.msk
  constructor
  · unfold SetTable.fits SetTable.fill
    rw [R.nod]
    simp
    omega
  · unfold SetTable.gaveWay
    rw [d.1]
    decide
theorem SetN.row (R : SetN P w s.heap S L es ep t) {i : Nat} {p : RowT} (e : L[i]? = some p) : es[i]? = some (thash P w p.2, Value.ref p.1) := by
  rw [← Array.getElem?_toList, R.rws]
  simp [rowsOf, e]
theorem SetN.freeAt (R : SetN P w s.heap S L es ep t) (hs : Int) : ∃ K, K < 99000 ∧ K < 10 * SetTable.turns t.mask ∧ way t.mask hs K ∉ t.place.toList ∧ ∀ c, c < K → way t.mask hs c ∈ t.place.toList := by
  have a := R.cnt
  have c := R.few
  have d := R.cap
  have l : t.place.toList.length = L.length := by rw [Array.length_toList]; exact a
  obtain ⟨K, k1, k2, k3⟩ := near_free R.msk (l := t.place.toList) (by omega) hs
  refine ⟨K, by omega, ?_, k2, k3⟩
  unfold SetTable.turns
  omega
theorem seek (R : SetN P w s.heap S L es ep t) {b : Addr} {q : List Int} (hb : IsT P w s.heap q b) (hu : A.units < cLine) (new : ∀ p ∈ L, p.2 ≠ q) {K : Nat} (kf : K < 10 * SetTable.turns t.mask) (k1 : way t.mask (thash P w q) K ∉ t.place.toList)
    (k2 : ∀ c, c < K → way t.mask (thash P w q) c ∈ t.place.toList) {Q : SetFound → Shared → Prop} (done : Q (.free (way t.mask (thash P w q) K) false) s) :
    ∀ (f c : Nat) (st : Option SetTable.Probe), st.getD (t.probeStart (thash P w q)) = nth t.mask (t.probeStart (thash P w q)) c → c ≤ K → K < f + c → wpAny (model P w) A (setSearchFrom S (.ref b) (thash P w q) true f st) Q E s
  | 0, c, st, _, g1, g2 => absurd g1 (by omega)
  | f + 1, c, st, g0, g1, g2 => by
    obtain ⟨z, hz, hx, hdat⟩ := R.obj
    have G := R.goes
    rw [setSearchFrom_succ]
    refine wpAny_bind (wpAny_setState_of hz hdat G.1 ?_)
    dsimp only
    refine wp_if_neg G.2 ?_
    try refine wpAny_bind (wpAny_pure ?_)
    have nod : ∀ (n : Nat) (p : SetTable.Probe), p.dummy = none → (nth t.mask p n).dummy = none := fun n => by
      induction n with
      | zero => exact fun p e => e
      | succ n ih => exact fun p e => ih _ (by unfold adv; split <;> exact e)
    have wy : ∀ d, (nth t.mask (nth t.mask (t.probeStart (thash P w q)) c) d).j = way t.mask (thash P w q) (c + d) := fun d => by rw [← nth_add]; rfl
    rw [g0]
    rcases go_spec t R.asc R.nod (fun i => (es[i]?.map (·.1)).getD 0) (thash P w q) (10 * SetTable.turns t.mask) (K - c) (nth t.mask (t.probeStart (thash P w q)) c) (nod c _ rfl) (by omega) (fun d hd => by rw [wy]; exact k2 _ (by omega)) (by rw [wy, show c + (K - c) = K by omega]; exact k1) with ⟨d, i, u1, u2, u3, u4, u5⟩ | ⟨_, u5⟩
    · have u6 : t.probe (fun i => (es[i]?.map (·.1)).getD 0) (thash P w q) (nth t.mask (t.probeStart (thash P w q)) c) = some (.candidate (way t.mask (thash P w q) (c + d)) i (nth t.mask (t.probeStart (thash P w q)) (c + (d + 1)))) := by
        rw [← wy, nth_add]
        exact u5
      rw [u6]
      dsimp only
      rw [wy] at u2
      have il : i < L.length := by
        have := (List.getElem?_eq_some_iff.mp u2).1
        rw [Array.length_toList, R.cnt] at this
        exact this
      have er := R.row (List.getElem?_eq_getElem il)
      have hm := List.getElem_mem il
      have ne := new _ hm
      have after : wpAny (model P w) A (searchRest S (.ref b) (thash P w q) true f es t (way t.mask (thash P w q) (c + d)) i (nth t.mask (t.probeStart (thash P w q)) (c + (d + 1)))) Q E s := by
        unfold searchRest
        rw [er]
        dsimp only
        refine wpAny_bind (wpAny_holding (wpAny_eqBool_tuple hu (R.tps _ hm) hb ?_))
        refine wpAny_bind (wpAny_setState_of hz hdat G.1 ?_)
        dsimp only
        refine wp_if_neg (by simp [ne]) ?_
        try refine wpAny_bind (wpAny_pure ?_)
        rw [sameMem]
        dsimp only
        simp only [if_true, slot_live R.asc u2, er]
        refine wpAny_bind (wpAny_isSame_ref_self (wpAny_bind (wpAny_pure ?_)))
        simp only [if_true]
        refine wp_if_neg (by simp [ne]) ?_
        exact seek R hb hu new kf k1 k2 done f (c + (d + 1)) _ rfl (by omega) (by omega)
      by_cases ld : t.led = true
      · refine wp_if_neg (by simp [ld]) ?_
        try refine wpAny_bind (wpAny_pure ?_)
        exact after
      · refine wp_if_pos (by simp [ld]) ?_
        refine wpAny_bind (seen_tup hb (fun y hy => ?_) ?_)
        · obtain ⟨e, he, rfl⟩ := List.mem_map.mp hy
          have he2 : e ∈ es.toList := by
            have : e ∈ es ∧ e.1 = thash P w q := by simpa using he
            simpa using this.1
          rw [R.rws] at he2
          obtain ⟨p2, hp2, rfl⟩ := List.mem_map.mp he2
          exact ⟨p2.2, p2.1, rfl, R.tps p2 hp2⟩
        · refine wp_if_neg (by decide) ?_
          try refine wpAny_bind (wpAny_pure ?_)
          exact after
    · have u6 : t.probe (fun i => (es[i]?.map (·.1)).getD 0) (thash P w q) (nth t.mask (t.probeStart (thash P w q)) c) = some (.empty (way t.mask (thash P w q) K) none) := by
        have e := wy (K - c)
        rw [show c + (K - c) = K by omega] at e
        rw [← e]
        exact u5
      rw [u6]
      exact wpAny_pure done
end
structure OwnN (m n : Nat) (ow : Array (Option Nat)) : Prop where
  big : ow.size = m + 1
  has : ∀ k, k < n → ∃ j, j ≤ m ∧ oAt ow j = some k
  few : ∃ ps : List Nat, ps.length = n ∧ ∀ j, j ≤ m → oAt ow j ≠ none → j ∈ ps
theorem own_0 (m : Nat) : OwnN m 0 (Array.replicate (m + 1) none) := ⟨by simp, fun k hk => by omega, [], rfl, fun j hj e => absurd (oAt_init hj) e⟩
theorem free_at {m : Nat} (hm : MaskN m) (ow : Array (Option Nat)) (h : Int) {j : Nat} (hj : j ≤ m) (hf : oAt ow j = none) : ∃ i, SetTable.layClean.free m ow (SetTable.turns m) (SetTable.bits h % (m + 1)) (SetTable.bits h) = some i ∧ i ≤ m ∧ oAt ow i = none := by
  obtain ⟨k, hk, e⟩ := cyc_all hm (runI_le m (SetTable.bits h) 12) hj
  have e1 : runI m (SetTable.bits h) (12 + k) = j := by rw [runI_tail (bits_lt h), e]
  have e2 : way m h (off m (SetTable.bits h % (m + 1)) (SetTable.bits h) (12 + k)) = j := by
    show (nth m (runAt m (SetTable.bits h % (m + 1)) (SetTable.bits h)) _).j = j
    rw [nth_off, itL_run]
    exact e1
  obtain ⟨K, k1, k2, k3⟩ := st_least (p := fun c => oAt ow (way m h c) = none) (off m (SetTable.bits h % (m + 1)) (SetTable.bits h) (12 + k)) (by show oAt ow (way m h _) = none; rw [e2]; exact hf)
  refine ⟨way m h K, ?_, way_bd, k2⟩
  have lt : 12 + k < SetTable.turns m := by unfold SetTable.turns; omega
  refine free_spec m ow (SetTable.turns m) (12 + k) _ _ K lt k1 (fun c hc => ?_) (by rw [show oAt ow _ = none from k2]; rfl)
  have ne := k3 c hc
  cases q : oAt ow (way m h c) with
  | none => exact absurd q ne
  | some v => rfl
theorem own_step {m n : Nat} (hm : MaskN m) {ow : Array (Option Nat)} (W : OwnN m n ow) (hn : n ≤ m) (h : Int) : ∃ ow', stepF m (some (ow, n)) h = some (ow', n + 1) ∧ OwnN m (n + 1) ow' := by
  obtain ⟨ps, p1, p2⟩ := W.few
  obtain ⟨j, hj, hf⟩ : ∃ j, j ≤ m ∧ oAt ow j = none := by
    apply Classical.byContradiction
    intro no
    have := nat_nodup_len (List.range (m + 1)) ps List.nodup_range fun j hj => p2 j (by have := List.mem_range.mp hj; omega) fun e => no ⟨j, by have := List.mem_range.mp hj; omega, e⟩
    simp at this
    omega
  obtain ⟨i, e, hi, fi⟩ := free_at hm ow h hj hf
  have lt : i < ow.size := by rw [W.big]; omega
  refine ⟨_, stepF_some e, by simp [W.big], fun k hk => ?_, i :: ps, by simp [p1], fun y hy ne => ?_⟩
  · by_cases q : k = n
    · subst q
      exact ⟨i, hi, oAt_set_self _ lt⟩
    · obtain ⟨y, hy, ey⟩ := W.has k (by omega)
      have d : y ≠ i := fun z => by rw [z, fi] at ey; cases ey
      exact ⟨y, hy, by rw [oAt_set_ne _ d]; exact ey⟩
  · by_cases q : y = i
    · rw [q]; exact List.mem_cons_self ..
    · rw [oAt_set_ne _ q] at ne
      exact List.mem_cons_of_mem _ (p2 y hy ne)
theorem own_all {m : Nat} (hm : MaskN m) : ∀ (hs : List Int) (n : Nat) (ow : Array (Option Nat)), OwnN m n ow → n + hs.length ≤ m → ∃ ow', hs.foldl (stepF m) (some (ow, n)) = some (ow', n + hs.length) ∧ OwnN m (n + hs.length) ow'
  | [], n, ow, W, _ => ⟨ow, rfl, W⟩
  | h :: hs, n, ow, W, hl => by
    rw [List.length_cons] at hl
    obtain ⟨o1, e1, W1⟩ := own_step hm W (by omega) h
    obtain ⟨o2, e2, W2⟩ := own_all hm hs (n + 1) o1 W1 (by omega)
    have en : n + 1 + hs.length = n + (h :: hs).length := by rw [List.length_cons]; omega
    rw [en] at e2 W2
    exact ⟨o2, by rw [List.foldl_cons, e1]; exact e2, W2⟩
theorem laid_anew (t : SetTable) {hs : Array Int} {wanted M : Nat} (hw : SetTable.sizeAbove wanted - 1 = M) (hM : MaskN M) (hn : hs.size ≤ M) :
    ∃ t' ord, t.relaid hs wanted = some (t', ord) ∧ ord.toList.Perm (List.range hs.size) ∧ Ris t'.place.toList ∧ t'.place.size = hs.size ∧ (∀ x ∈ t'.place.toList, x ≤ M) ∧ t'.mask = M ∧ t'.led = t.led ∧ t'.plain = t.plain ∧ t'.dummies = #[] := by
  obtain ⟨ow, e, W⟩ : ∃ ow, SetTable.layClean M hs = some ow ∧ OwnN M hs.size ow := by
    obtain ⟨ow, e, W⟩ := own_all hM hs.toList 0 _ (own_0 M) (by simpa using hn)
    refine ⟨ow, by rw [layClean_eq, e]; rfl, by simpa using W⟩
  have er : t.relaid hs wanted = some (tabOf t M ow, ((liveOf M ow).map (·.2)).toArray) := by
    rw [relaid_eq, hw, e] <;> rfl
  obtain ⟨r1, r2⟩ := ris_live (fun j => ow.getD j none) (List.range (M + 1)) (by unfold Ris; exact List.pairwise_lt_range)
  have r1 : Ris ((liveOf M ow).map (·.1)) := r1
  have r2 : ∀ x ∈ (liveOf M ow).map (·.1), x ∈ List.range (M + 1) := r2
  have nd : ((liveOf M ow).map (·.1)).Nodup := List.Pairwise.imp (fun h => Nat.ne_of_lt h) r1
  obtain ⟨ps, p1, p2⟩ := W.few
  have ml : ∀ k, k < hs.size → k ∈ (liveOf M ow).map (·.2) := fun k hk => by
    obtain ⟨j, hj, ej⟩ := W.has k hk
    exact List.mem_map.mpr ⟨(j, k), (mem_live W.big).mpr ⟨hj, ej⟩, rfl⟩
  have a := nat_nodup_len _ ps nd fun x hx => by
    obtain ⟨⟨j, v⟩, hv, rfl⟩ := List.mem_map.mp hx
    obtain ⟨h1, h2⟩ := (mem_live W.big).mp hv
    exact p2 j h1 (by rw [h2]; simp)
  have b := nat_nodup_len (List.range hs.size) ((liveOf M ow).map (·.2)) List.nodup_range fun k hk => ml k (List.mem_range.mp hk)
  simp only [List.length_map, List.length_range] at a b
  have hl : (liveOf M ow).length = hs.size := by omega
  refine ⟨_, _, er, ?_, ?_, ?_, fun x hx => ?_, rfl, rfl, rfl, rfl⟩
  · simpa using perm_range hs.size ((liveOf M ow).map (·.2)) (by simp [hl]) ml
  · show Ris ((liveOf M ow).map (·.1)).toArray.toList
    simpa using r1
  · show ((liveOf M ow).map (·.1)).toArray.size = _
    simp [hl]
  · have hx : x ∈ ((liveOf M ow).map (·.1)).toArray.toList := hx
    have := List.mem_range.mp (r2 x (by simpa using hx))
    omega
theorem above_go (n : Nat) : ∀ f a : Nat, n < 2 ^ (a + f) → ∃ b, SetTable.sizeAbove.go n f (2 ^ a) = 2 ^ b ∧ a ≤ b ∧ n < 2 ^ b ∧ (b = a ∨ 2 ^ b ≤ 2 * n)
  | 0, a, h => ⟨a, rfl, Nat.le_refl _, by simpa using h, .inl rfl⟩
  | f + 1, a, h => by
    unfold SetTable.sizeAbove.go
    by_cases q : 2 ^ a ≤ n
    · rw [if_pos q, ← Nat.pow_succ]
      obtain ⟨b, e, h1, h2, h3⟩ := above_go n f (a + 1) (by rw [show a + 1 + f = a + (f + 1) by omega]; exact h)
      refine ⟨b, e, by omega, h2, .inr ?_⟩
      rcases h3 with h3 | h3
      · rw [h3, Nat.pow_succ]; omega
      · exact h3
    · rw [if_neg q]
      exact ⟨a, rfl, Nat.le_refl _, by omega, .inl rfl⟩
theorem above_ok {n : Nat} (h1 : 1 ≤ n) (h9 : n ≤ 9000) : ∃ M, SetTable.sizeAbove (SetTable.grown n) - 1 = M ∧ MaskN M ∧ n * 4 ≤ M ∧ SetTable.sizeAbove (SetTable.grown n) ≤ 80000 := by
  have g : SetTable.grown n = n * 4 := by
    unfold SetTable.grown
    rw [if_neg (by omega)]
  rw [g]
  have big : (36000 : Nat) < 2 ^ (3 + 64) := by decide
  obtain ⟨b, e, b3, lt, up⟩ := above_go (n * 4) 64 3 (by omega)
  have e' : SetTable.sizeAbove (n * 4) = 2 ^ b := e
  rw [e']
  refine ⟨2 ^ b - 1, rfl, ⟨b, b3, by have := Nat.two_pow_pos b; omega⟩, by omega, ?_⟩
  rcases up with h | h
  · rw [h]; decide
  · omega
section
variable {P : Program} {w : World} {A : Around} {E : Value → Shared → Prop} {s : Shared} {S : Addr} {L : List RowT} {es : Array (Int × Value)} {ep : Nat} {t : SetTable}
theorem rows_len {es : Array (Int × Value)} {L : List RowT} (h : es.toList = rowsOf P w L) : es.size = L.length := by
  have q := congrArg List.length h
  simpa [rowsOf] using q
theorem anew {z : Obj} (at_ : s.heap.get? S = some z) (ex : z.ExactSet) (dat : z.data = .set es ep t) (rws : es.toList = rowsOf P w L) (cnt : t.place.size = L.length) (nod : t.dummies = #[]) (room : L.length ≤ t.mask)
    (unl : (L.map (·.2)).Nodup) (tps : ∀ p ∈ L, IsT P w s.heap p.2 p.1) (pln : t.plain = true) (lds : w.params.followText "set-order" = true ∨ t.led = true) (h1 : 1 ≤ L.length) (h9 : L.length ≤ 9000) {Q : Unit → Shared → Prop}
    (done : ∀ h' L' es' ep' t', Heap.SameBut S s.heap h' → SetN P w h' S L' es' ep' t' → L'.Perm L → Q () { s with heap := h' }) : wpAny (model P w) A (setRelay S (SetTable.grown L.length)) Q E s := by
  obtain ⟨M, hw, hM, hm4, hs⟩ := above_ok h1 h9
  have el := rows_len rws
  have fit : t.fits es.size = true := by
    unfold SetTable.fits SetTable.fill
    rw [nod]
    simp
    omega
  obtain ⟨t', ord, e, pm, ris, sz, ins, mk, ld, pl, dm⟩ := laid_anew t (hs := es.map (·.1)) hw hM (by rw [Array.size_map, el]; omega)
  rw [Array.size_map, el] at pm sz
  obtain ⟨L', r1, r2, _⟩ := order_rows L es ord rws pm
  have l2 := rows_len r1
  rw [setRelay_eq]
  refine wpAny_bind (wpAny_setState_of at_ dat fit ?_)
  dsimp only
  refine wp_if_neg (by rw [sizeLine_eq]; omega) ?_
  try refine wpAny_bind (wpAny_pure ?_)
  rw [e]
  dsimp only
  refine wpAny_bind ?_
  refine wp_if_neg (by rw [l2, el, r2.length_eq]; simp) ?_
  try refine wpAny_bind (wpAny_pure ?_)
  refine wpAny_pure ?_
  dsimp only
  refine wpAny_storeSet_of at_ dat ?_ (by rw [l2, r2.length_eq, sizeLine_eq]; omega)
  have sb : Heap.SameBut S s.heap (s.heap.update S (Obj.putSet (ord.filterMap (es[·]?)) t')) := Heap.SameBut.update ..
  refine done _ L' (ord.filterMap (es[·]?)) (ep + 1) t' sb ?_ r2
  have few' : L'.length * 5 < t'.mask * 3 := by rw [r2.length_eq, mk]; omega
  have cap' : L'.length ≤ 9000 := by rw [r2.length_eq]; exact h9
  have cnt' : t'.place.size = L'.length := by rw [sz, r2.length_eq]
  have msk' : MaskN t'.mask := by rw [mk]; exact hM
  have ins' : ∀ x ∈ t'.place.toList, x ≤ t'.mask := fun x hx => by rw [mk]; exact ins x hx
  have pln' : t'.plain = true := by rw [pl]; exact pln
  have lds' : w.params.followText "set-order" = true ∨ t'.led = true := by rw [ld]; exact lds
  exact ⟨⟨_, store_at at_ dat, ⟨ex.1, ex.2.1, ex.2.2⟩, rfl⟩, r1, ris, dm, cnt', msk', ins', (r2.map (·.2)).nodup_iff.mpr unl, fun p hp => isT_same (tps p (r2.mem_iff.mp hp)) at_ dat sb, pln', lds', few', cap'⟩
theorem add_new (R : SetN P w s.heap S L es ep t) {b : Addr} {q : List Int} (hb : IsT P w s.heap q b) (hu : A.units < cLine) (new : ∀ p ∈ L, p.2 ≠ q) (cap : L.length + 1 ≤ 9000) {Q : Bool → Shared → Prop}
    (done : ∀ h' L' es' ep' t', Heap.SameBut S s.heap h' → SetN P w h' S L' es' ep' t' → L'.Perm ((b, q) :: L) → Q true { s with heap := h' }) : wpAny (model P w) A (setAddHashed S (.ref b) (thash P w q)) Q E s := by
  obtain ⟨z, at_, ex, dat⟩ := R.obj
  have el := R.len
  have G := R.goes
  obtain ⟨K, kb, kf, k1, k2⟩ := R.freeAt (thash P w q)
  unfold setAddHashed
  refine wpAny_holding ?_
  rw [show (100000 : Nat) = 99999 + 1 from rfl, setAddHashedIn_succ]
  refine wpAny_bind (wpAny_setState_of at_ dat G.1 ?_)
  dsimp only
  refine wp_if_neg (by simp [byScan, Value.scannable]) ?_
  try refine wpAny_bind (wpAny_pure ?_)
  unfold setSearch
  refine wpAny_bind (seek R hb hu new kf k1 k2 ?_ 100000 0 none rfl (Nat.zero_le _) (by omega))
  dsimp only
  refine wpAny_bind (wpAny_setState_of at_ dat G.1 ?_)
  dsimp only
  have jm : way t.mask (thash P w q) K ≤ t.mask := way_bd
  generalize way t.mask (thash P w q) K = j at k1 jm ⊢
  have c1 : SetTable.below t.place j ≤ t.place.toList.length := by
    rw [Array.length_toList]
    exact (below_cut R.asc j).1
  have pp := put_place t j
  have pd := put_dm R.nod j
  have pr : Ris (t.put j).1.place.toList := by
    show Ris (SetTable.insertAt t.place (SetTable.below t.place j) j).toList
    exact ris_insert R.asc fun e => k1 (List.mem_of_getElem? (by rw [Array.getElem?_toList]; exact e))
  have pmk : (t.put j).1.mask = t.mask := rfl
  have pld : (t.put j).1.led = t.led := rfl
  have ppl : (t.put j).1.plain = t.plain := rfl
  have pp2 : (t.put j).2 = SetTable.below t.place j := rfl
  have psz : (t.put j).1.place.size = L.length + 1 := by
    have := congrArg List.length pp
    rw [len_ins _ c1, Array.length_toList, Array.length_toList, R.cnt] at this
    exact this
  have pin : ∀ x ∈ (t.put j).1.place.toList, x ≤ t.mask := fun x hx => by
    rw [pp] at hx
    rcases mem_ins.mp hx with e | e
    · rw [e]; exact jm
    · exact R.ins x e
  generalize hpt : t.put j = pt at pp pd pr pmk pld ppl pp2 psz pin ⊢
  obtain ⟨t1, p⟩ := pt
  dsimp only at pp pd pr pmk pld ppl pp2 psz pin ⊢
  have pl1 : t1.plain = true := by rw [ppl]; exact R.pln
  first
    | (refine wpAny_bind ?_; refine wp_if_pos pl1 ?_; refine hashBy_tup hb ?_)
    | refine wp_if_pos pl1 (wpAny_bind (hashBy_tup hb ?_))
  simp only [if_true]
  have rw1 : (SetTable.insertAt es p (thash P w q, Value.ref b)).toList = rowsOf P w (L.take p ++ (b, q) :: L.drop p) := by
    rw [SetTable.toList_insertAt, rows_put, R.rws]
  have pm := put_perm L p (b, q)
  generalize SetTable.insertAt es p (thash P w q, Value.ref b) = es1 at rw1 ⊢
  generalize L.take p ++ (b, q) :: L.drop p = L1 at rw1 pm
  have ln : L1.length = L.length + 1 := pm.length_eq
  have sz1 := rows_len rw1
  have unl1 : (L1.map (·.2)).Nodup := by
    refine (pm.map (·.2)).nodup_iff.mpr ?_
    rw [List.map_cons]
    refine List.nodup_cons.mpr ⟨fun h => ?_, R.unl⟩
    obtain ⟨p', h1, h2⟩ := List.mem_map.mp h
    exact new p' h1 h2
  refine wpAny_bind (wpAny_storeSet_of at_ dat ?_ (by rw [sz1, ln, sizeLine_eq]; omega))
  have sb : Heap.SameBut S s.heap (s.heap.update S (Obj.putSet es1 t1)) := Heap.SameBut.update ..
  have at1 := store_at (es' := es1) (t' := t1) at_ dat
  generalize s.heap.update S (Obj.putSet es1 t1) = h1 at sb at1 ⊢
  have tps1 : ∀ p' ∈ L1, IsT P w h1 p'.2 p'.1 := fun p' hp => by
    rcases List.mem_cons.mp (pm.mem_iff.mp hp) with e | hp
    · rw [e]; exact isT_same hb at_ dat sb
    · exact isT_same (R.tps p' hp) at_ dat sb
  have lds1 : w.params.followText "set-order" = true ∨ t1.led = true := by rw [pld]; exact R.lds
  have fill1 : t1.fill = L.length + 1 := by
    unfold SetTable.fill
    rw [pd, psz]
    rfl
  have R5 := R.few
  have R7 := mask_1 R.msk
  by_cases hf : t1.tooFull = true
  · first
      | (refine wpAny_bind ?_; refine wp_if_pos (by simp [hf]) ?_)
      | (refine wp_if_pos (by simp [hf]) ?_; refine wpAny_bind ?_)
    rw [el, ← ln]
    refine anew (s := { s with heap := h1 }) (L := L1) at1 ⟨ex.1, ex.2.1, ex.2.2⟩ rfl rw1 (by rw [psz, ln]) pd (by rw [ln, pmk]; omega) unl1 tps1 pl1 lds1 (by omega) (by omega) fun h2 L2 es2 ep2 t2 sb2 R2 pm2 => ?_
    exact wpAny_pure (done h2 L2 es2 ep2 t2 (sb.trans sb2) R2 (pm2.trans pm))
  · first
      | refine wp_if_neg (by simp [hf]) ?_
      | (refine wpAny_bind ?_; refine wp_if_neg (by simp [hf]) ?_; refine wpAny_pure ?_)
    have nf : ¬ ((L.length + 1) * 5 ≥ t.mask * 3) := fun h => hf (by
      unfold SetTable.tooFull
      rw [fill1, pmk]
      exact decide_eq_true h)
    refine wpAny_pure (done h1 L1 es1 (ep + 1) t1 sb ?_ pm)
    have few' : L1.length * 5 < t1.mask * 3 := by rw [ln, pmk]; omega
    have cap' : L1.length ≤ 9000 := by rw [ln]; exact cap
    have cnt' : t1.place.size = L1.length := by rw [psz, ln]
    have msk' : MaskN t1.mask := by rw [pmk]; exact R.msk
    have ins' : ∀ x ∈ t1.place.toList, x ≤ t1.mask := fun x hx => by rw [pmk]; exact pin x hx
    exact ⟨⟨_, at1, ⟨ex.1, ex.2.1, ex.2.2⟩, rfl⟩, rw1, pr, pd, cnt', msk', ins', unl1, tps1, pl1, lds1, few', cap'⟩
end
section
variable {P : Program} {w : World} {A : Around} {E : Value → Shared → Prop} {s : Shared}
theorem SetN.later {h h' : Heap} {S : Addr} {L : List RowT} {es : Array (Int × Value)} {ep : Nat} {t : SetTable} (R : SetN P w h S L es ep t) (ho : ∀ o, h.get? S = some o → h'.get? S = some o) (ht : ∀ p ∈ L, IsT P w h' p.2 p.1) : SetN P w h' S L es ep t :=
  ⟨let ⟨z, hz, r⟩ := R.obj; ⟨z, ho z hz, r⟩, R.rws, R.asc, R.nod, R.cnt, R.msk, R.ins, R.unl, ht, R.pln, R.lds, R.few, R.cap⟩
theorem setN_0 {h : Heap} {S : Addr} (ho : h.get? S = some { cls := .type "set", dict := none, data := .set #[] 0 (.fresh 0 0 (!w.params.followText "set-order")) }) : SetN P w h S [] #[] 0 (.fresh 0 0 (!w.params.followText "set-order")) :=
  ⟨⟨_, ho, ⟨rfl, rfl, rfl⟩, rfl⟩, rfl, List.Pairwise.nil, rfl, rfl, ⟨3, Nat.le_refl _, rfl⟩, fun x hx => (by cases hx), List.nodup_nil, fun p hp => (by cases hp), rfl, (by
    show _ ∨ (!w.params.followText "set-order") = true
    cases w.params.followText "set-order"
    · exact .inr rfl
    · exact .inl rfl), (by show 0 * 5 < 7 * 3; decide), Nat.zero_le _⟩
theorem upd_rows {I : Addr} {fp wr : List Addr} {G : Array GenState → Array GenState → Prop} {n : Nat} {Pv : Nat → Value → Prop} {St : Nat → Shared → Prop} {R : Result → Shared → Prop} (W : WalksS P w A.in1 I fp wr G n Pv St) (S : Addr) (out : S ∉ fp)
    (rows : List RowT) (size_is : n = rows.length) (cap : rows.length ≤ 9000) (unl : (rows.map (·.2)).Nodup) (item_is : ∀ i v, Pv i v → ∃ p, rows[i]? = some p ∧ v = .ref p.1) (h0 : Heap) (each : ∀ p ∈ rows, IsT P w h0 p.2 p.1) (noS : h0.get? S = none)
    (noW : ∀ b ∈ wr, h0.get? b = none) (hu : A.in1.units < cLine) :
    ∀ (left i : Nat) (s : Shared), n - i = left → i ≤ n → St i s → (∀ b o, h0.get? b = some o → s.heap.get? b = some o) → (∃ L es ep t, SetN P w s.heap S L es ep t ∧ L.Perm (rows.take i)) →
      (∀ z L es ep t, Moved (S :: wr) G s z → SetN P w z.heap S L es ep t → L.Perm rows → (∀ b o, h0.get? b = some o → z.heap.get? b = some o) → R (.ok (.ret .none)) z) →
      codeAny (model P w) A (.builtin "set.update.loop" ⟨[.ref S, .ref I], []⟩) R s := by
  have more : ∀ b ∈ wr, b ∈ S :: wr := fun b hb => List.mem_cons_of_mem _ hb
  have out2 : S ∉ wr := fun h => out (W.sub _ h)
  have stay : ∀ {x y : Shared}, Moved wr G x y → (∀ b o, h0.get? b = some o → x.heap.get? b = some o) → ∀ b o, h0.get? b = some o → y.heap.get? b = some o := fun mv k b o e =>
    mv.heap b o (fun hb => by rw [noW b hb] at e; cases e) (k b o e)
  have below : ∀ {L : List RowT} {i : Nat}, L.Perm (rows.take i) → ∀ p ∈ L, p ∈ rows := fun pm p hp => List.mem_of_mem_take (pm.mem_iff.mp hp)
  intro left
  induction left with
  | zero =>
    rintro i s he hi hst keep ⟨L, es, ep, t, Rs, pm⟩ fin
    have ein : i = n := by omega
    subst ein
    refine codeAny_builtin F.entry_set_update_loop ?_
    rw [Around.under_plainId F.plain_set_update_loop _]
    show wpAny _ A.in1 (pyNext (.ref I) >>= _) _ _ s
    refine wpAny_bind (W.done s _ _ hst fun z mv => ?_)
    show wpAny _ A.in1 (ret Value.none) _ _ z
    have keep2 := stay mv keep
    have pm2 : L.Perm rows := by rw [size_is, List.take_length] at pm; exact pm
    exact wpAny_pure (fin z L es ep t (mv.mono more) (Rs.later (fun o e => mv.heap S o out2 e) fun p hp => isT_keep (each p (below pm p hp)) keep2) pm2 keep2)
  | succ left ih =>
    rintro i s he hi hst keep ⟨L, es, ep, t, Rs, pm⟩ fin
    have lt : i < n := by omega
    refine codeAny_builtin F.entry_set_update_loop ?_
    rw [Around.under_plainId F.plain_set_update_loop _]
    show wpAny _ A.in1 (pyNext (.ref I) >>= _) _ _ s
    refine wpAny_bind (W.item i s _ _ lt hst fun v z hv hst2 mv => ?_)
    obtain ⟨p, hp, rfl⟩ := item_is i v hv
    have keep2 := stay mv keep
    have Rz : SetN P w z.heap S L es ep t := Rs.later (fun o e => mv.heap S o out2 e) fun q hq => isT_keep (each q (below pm q hq)) keep2
    have hx : IsT P w z.heap p.2 p.1 := isT_keep (each p (List.mem_of_getElem? hp)) keep2
    have tk1 : rows.take (i + 1) = rows.take i ++ [p] := by rw [List.take_succ, hp]; rfl
    have nd1 : ((rows.take (i + 1)).map (·.2)).Nodup := unl.sublist (List.Sublist.map _ (List.take_sublist _ _))
    have new : ∀ q ∈ L, q.2 ≠ p.2 := fun q hq e => by
      rw [tk1, List.map_append] at nd1
      exact (List.nodup_append.mp nd1).2.2 q.2 (List.mem_map.mpr ⟨q, pm.mem_iff.mp hq, rfl⟩) p.2 (List.mem_singleton.mpr rfl) e
    have ll : L.length ≤ i := by
      have := pm.length_eq
      rw [List.length_take] at this
      omega
    show wpAny _ A.in1 (holding [Value.ref p.1] (setAdd S (.ref p.1)) >>= _) _ _ z
    refine wpAny_bind (wpAny_holding ?_)
    unfold setAdd
    refine wpAny_holding ?_
    refine wpAny_bind (wpAny_pyHash_tuple hu hx ?_)
    refine add_new (s := { z with toks := z.toks + (p.2.length + 1) }) Rz hx hu new (by omega) fun h' L' es' ep' t' sb R2 pm2 => ?_
    have pm3 : L'.Perm (rows.take (i + 1)) := by
      rw [tk1]
      exact pm2.trans ((List.Perm.cons _ pm).trans (List.perm_append_singleton _ _).symm)
    have keep3 : ∀ b o, h0.get? b = some o → h'.get? b = some o := fun b o e => (sb.2 b (fun q => by rw [q, noS] at e; cases e)).trans (keep2 b o e)
    refine wpAny_pure ⟨plainId_quiet F.plain_set_update_loop _, ih (i + 1) _ (by omega) lt (W.frame _ z _ _ hst2 (Nat.le_add_right _ _) fun b hb o e => ?_) keep3 ⟨L', es', ep', t', R2, pm3⟩ fun y L2 es2 ep2 t2 mv2 R3 pm4 keep4 => ?_⟩
    · rw [sb.2 b (fun q : b = S => out (by rw [← q]; exact hb))]; exact e
    · refine fin y L2 es2 ep2 t2 (Moved.trans W.gtrans ((mv.mono more).then_heap (Nat.le_add_right _ _) fun b o hb e => ?_) mv2) R3 pm4 keep4
      rw [sb.2 b (fun q : b = S => hb (by rw [q]; exact List.mem_cons_self))]; exact e
set_option maxRecDepth 100000 in
set_option maxHeartbeats 3200000 in
theorem set_of_tupN {b : Addr} {vs : Array Value} (rows : List (Addr × List Int)) {Q : Value → Shared → Prop} (noh : A.handled = none) (tup : s.heap.IsTuple b vs) (ev : vs.toList = rows.map fun p => Value.ref p.1)
    (each : ∀ p ∈ rows, IsT P w s.heap p.2 p.1) (cap : rows.length ≤ 9000) (unl : (rows.map (·.2)).Nodup) (room : A.units + 3 < cLine)
    (then_ : ∀ (h' : Heap) (tk : Nat) L es ep t, SetN P w h' s.heap.objs.size L es ep t → L.Perm rows → (∀ c o, s.heap.get? c = some o → h'.get? c = some o) → Q (.ref s.heap.objs.size) { s with heap := h', toks := tk }) :
    wpAny (model P w) A (call (.type "set") [.ref b]) Q E s := by
  have size_is : vs.size = rows.length := by
    have := congrArg List.length ev
    simpa using this
  obtain ⟨mc, mt, mro⟩ := F.called_set.mro
  have made := F.called_set.made
  have subs := F.called_set.sub
  refine wpAny_call (codeAny_of_tree (?_ : wpAny _ _ (callAny (.type "set") _) _ _ _))
  refine wpAny_pure ⟨Code.quiet_builtin _ (by decide +kernel), codeAny_builtin F.entry_type_call (?_)⟩
  rw [Around.under_plain (weight_type_call_type "set" [.ref b] []) rfl]
  have t1 := F.called_set.notType
  have t2 := F.called_set.canCreate
  have t3 := F.typeCall_set_1 (.ref b)
  repeat (any_goals (first | wp_step | assumption))
  refine codeAny_mono (code_set_led1 (.ref b) (E := E) (Q₁ := fun x z => x = .ref s.heap.objs.size ∧ z = { s with heap := s.heap.push ({ cls := .type "set", dict := none, data := .set #[] 0 (.fresh 0 0 (!w.params.followText "set-order")) } : Obj) }) ⟨rfl, rfl⟩) fun res z hz => ?_
  cases res with
  | error e => exact hz
  | ok out =>
    cases out with
    | ret x =>
      obtain ⟨rfl, rfl⟩ := hz
      have at0 : (s.heap.push ({ cls := .type "set", dict := none, data := .set #[] 0 (.fresh 0 0 (!w.params.followText "set-order")) } : Obj)).get? s.heap.objs.size = some ({ cls := .type "set", dict := none, data := .set #[] 0 (.fresh 0 0 (!w.params.followText "set-order")) } : Obj) := Heap.get?_push_size _ rfl
      have ty0 : Shared.TypeIs { s with heap := s.heap.push ({ cls := .type "set", dict := none, data := .set #[] 0 (.fresh 0 0 (!w.params.followText "set-order")) } : Obj) } (.ref s.heap.objs.size) "set" := ⟨_, at0, rfl⟩
      have i1 := F.called_set.init.lookup
      have i2 := F.called_set.init.bind (.ref s.heap.objs.size)
      repeat (any_goals (first | wp_step | assumption))
      refine codeAny_mono (codeAny_call_builtin (R := wants (fun r z => r = .none ∧ ∃ h' tk L es ep t, z = { s with heap := h', toks := tk } ∧ SetN P w h' s.heap.objs.size L es ep t ∧ L.Perm rows ∧
          (∀ c o, s.heap.get? c = some o → h'.get? c = some o)) E) F.called_set.init.plain F.entry_set_init (check_set_init_1 ty0 (?_))) fun res2 z2 hz2 => ?_
      · obtain ⟨⟨oc, od, odt, osl⟩, ho, e1, nn, e2⟩ := tup
        dsimp only at e1 e2
        subst e1; subst e2
        have ho2 : (s.heap.push ({ cls := .type "set", dict := none, data := .set #[] 0 (.fresh 0 0 (!w.params.followText "set-order")) } : Obj)).get? b = some { cls := .type "tuple", dict := od, data := .seq vs nn, slots := osl } := Heap.get?_push_of_some _ ho
        have ts1 := F.sub_tuple_set
        have ts2 := F.sub_tuple_frozenset
        have nd : (Value.type "tuple" == Value.type "dict") = false := by decide
        have tup2 : (s.heap.push ({ cls := .type "set", dict := none, data := .set #[] 0 (.fresh 0 0 (!w.params.followText "set-order")) } : Obj)).IsTuple b vs := ⟨_, ho2, rfl, nn, rfl⟩
        unfold Builtin.«set.__init__» noKeywords Builtin.Frozenset.updateFrom
        generalize eIter : pyIter = IT
        wp_walk
        subst eIter
        refine wpAny_pyIter_tuple tup2 (wpAny_bind (wpAny_runValue (?_)))
        have lt0 : b < s.heap.objs.size := Heap.lt_size ho
        have noh3 : A.in1.in1.in1.handled = none := by simp [noh]
        have size1 : (s.heap.push ({ cls := .type "set", dict := none, data := .set #[] 0 (.fresh 0 0 (!w.params.followText "set-order")) } : Obj)).objs.size = s.heap.objs.size + 1 := Heap.size_push ..
        have ne1 : b ≠ (s.heap.push ({ cls := .type "set", dict := none, data := .set #[] 0 (.fresh 0 0 (!w.params.followText "set-order")) } : Obj)).objs.size := by
          rw [size1]
          exact Nat.ne_of_lt (Nat.lt_succ_of_lt lt0)
        have out1 : s.heap.objs.size ∉ [(s.heap.push ({ cls := .type "set", dict := none, data := .set #[] 0 (.fresh 0 0 (!w.params.followText "set-order")) } : Obj)).objs.size, b] := by
          intro h
          rcases List.mem_cons.mp h with q | q
          · rw [size1] at q
            exact absurd q (Nat.ne_of_lt (Nat.lt_succ_self _))
          · exact absurd (List.mem_singleton.mp q) (Nat.ne_of_gt lt0)
        have item_is : ∀ (i : Nat) (v : Value), vs[i]? = some v → ∃ p, rows[i]? = some p ∧ v = .ref p.1 := fun i v hv => by
          have q : (rows.map fun p => Value.ref p.1)[i]? = some v := by rw [← ev, Array.getElem?_toList]; exact hv
          rw [List.getElem?_map] at q
          obtain ⟨p, q1, q2⟩ := Option.map_eq_some_iff.mp q
          exact ⟨p, q1, q2.symm⟩
        have free : ∀ c, s.heap.objs.size ≤ c → s.heap.get? c = none := fun c hc => by
          cases q : s.heap.get? c with
          | none => rfl
          | some o => exact absurd (Heap.lt_size q) (Nat.not_lt.mpr hc)
        refine upd_rows ((Walks.tuple noh3 _ b ne1 vs).toS) s.heap.objs.size out1 rows size_is cap unl item_is s.heap each (free _ (Nat.le_refl _)) (fun c hc => free _ (by rw [List.mem_singleton.mp hc, size1]; omega)) room (vs.size - 0) 0 _ (by omega) (Nat.zero_le _)
          ⟨⟨_, Heap.get?_push_size _ rfl, rfl, rfl⟩, (tup2.push _)⟩ (fun c o e => Heap.get?_push_of_some _ (Heap.get?_push_of_some _ e)) ?begin ?finish
        case begin =>
          refine ⟨[], #[], 0, _, setN_0 (?_ : ((s.heap.push ({ cls := .type "set", dict := none, data := .set #[] 0 (.fresh 0 0 (!w.params.followText "set-order")) } : Obj)).push { cls := .type "tuple_iterator", data := .fields #[.ref b, .int 0 0] }).get? s.heap.objs.size = some ({ cls := .type "set", dict := none, data := .set #[] 0 (.fresh 0 0 (!w.params.followText "set-order")) } : Obj)), List.Perm.refl _⟩
          exact Heap.get?_push_of_some _ at0
        case finish =>
          intro z L es ep t mv R g keep
          obtain ⟨hz, gz, dz, tz, oz⟩ := z
          have e3 : gz = s.gens := mv.gens
          have e4 : dz = s.drawn := mv.drawn
          have e5 : oz = s.os := mv.os
          subst e3; subst e4; subst e5
          show wpAny _ _ _ _ _ _
          refine wpAny_pure (?_)
          show wpAny _ _ (ret Value.none) _ _ _
          exact wpAny_pure ⟨rfl, hz, tz, L, es, ep, t, rfl, R, g, keep⟩
      · cases res2 with
        | error e => exact hz2
        | ok out2 =>
          cases out2 with
          | ret r =>
            obtain ⟨rfl, h', tk, L, es, ep, t, rfl, R, g, keep⟩ := hz2
            repeat (any_goals (first | wp_step | assumption))
            exact then_ _ _ _ _ _ _ R g keep
          | _ => exact hz2.elim
    | _ => exact hz.elim
set_option maxRecDepth 100000 in
set_option maxHeartbeats 3200000 in
end
end Vi
namespace Vi
open PySem PySem.Spec PyProof.Rows L2
section
variable {X : Cx} {EX : EXT} {a : Expr} {ta : TE} {d : SE} {p p2 q pos : Pos}
end
end Vi
namespace Vi
open PySem PySem.Spec PyProof.Rows L2
theorem perm_back {α β : Type} {f : α → β} {vs ws : List β} (h : vs.Perm ws) : ∀ L : List α, ws = L.map f → ∃ L1 : List α, L1.Perm L ∧ vs = L1.map f := by
  induction h with
  | nil =>
    intro L e
    cases L with
    | nil => exact ⟨[], .refl _, rfl⟩
    | cons a L => cases e
  | cons x h ih =>
    intro L e
    cases L with
    | nil => cases e
    | cons a L =>
      rw [List.map_cons] at e
      obtain ⟨e1, e2⟩ := List.cons.inj e
      obtain ⟨L1, p, q⟩ := ih L e2
      exact ⟨a :: L1, p.cons a, by rw [List.map_cons, q, e1]⟩
  | swap x y l =>
    intro L e
    match L, e with
    | a :: b :: L, e =>
      rw [List.map_cons, List.map_cons] at e
      obtain ⟨e1, e2⟩ := List.cons.inj e
      obtain ⟨e3, e4⟩ := List.cons.inj e2
      exact ⟨b :: a :: L, List.Perm.swap _ _ _, by rw [List.map_cons, List.map_cons, e1, e3, e4]⟩
  | trans h1 h2 ih1 ih2 =>
    intro L e
    obtain ⟨L2, p2, q2⟩ := ih2 L e
    obtain ⟨L1, p1, q1⟩ := ih1 L2 q2
    exact ⟨L1, p1.trans p2, q1⟩
def rowE (r : List Int) : PyData := .tuple (r.map PyData.int)
def leW (a b : List Int) : Bool := decide (a ≤ b)
theorem leW_data (a b : RowT) : PySem.W.dataLe false (fun p : RowT => rowE p.2) a b = leW a.2 b.2 := by
  rw [PySem.W.dataLe_eq]
  show (!PySem.W.dataLt (.tuple (b.2.map .int)) (.tuple (a.2.map .int))) = _
  rw [PySem.W.dataLt_tuple]
  show (!PySem.W.rowLt (b.2.map .int) (a.2.map .int)) = _
  rw [PySem.W.dataLt_ints]
  unfold leW
  by_cases h : b.2 < a.2
  · have h' : ¬ a.2 ≤ b.2 := fun r => List.not_lt.mpr r h
    simp [h, h']
  · have h' : a.2 ≤ b.2 := List.not_lt.mp h
    simp [h, h']
theorem alike_rows : ∀ r s : List Int, PySem.W.alikeAll (r.map PyData.int) (s.map PyData.int) = true
  | [], _ => by simp [PySem.W.alikeAll]
  | _ :: _, [] => by simp [PySem.W.alikeAll]
  | x :: r, y :: s => by simp [PySem.W.alikeAll, PySem.W.alike, alike_rows r s]
theorem rowE_depth (r : List Int) : (rowE r).depth ≤ 1 := by
  have : PyData.depthAll (r.map PyData.int) = 0 := by
    induction r with
    | nil => rfl
    | cons x r ih => simp [PyData.depthAll, PyData.depth, ih]
  simp [rowE, PyData.depth, this]
theorem ints_read {h : Heap} {vs : List Value} {k : List Int} (x : IntsAre vs k) : ReadsAll h vs (k.map PyData.int) [] := by
  induction x with
  | nil => exact .nil
  | cons n t _ ih => exact ReadsAll.cons (as := []) (bs := []) (Reads.int n t) ih
theorem each_refs {out : List Value} {L : List RowT} (e : PySem.W.EachIs (fun v (p : RowT) => v = Value.ref p.1) out L) : out = L.map fun p => Value.ref p.1 := by
  induction e with
  | nil => rfl
  | cons h _ ih => rw [List.map_cons, ih, h]
theorem refs_each {R : Value → RowT → Prop} : ∀ (L : List RowT), (∀ p ∈ L, R (.ref p.1) p) → PySem.W.EachIs R (L.map fun p => Value.ref p.1) L
  | [], _ => .nil
  | p :: L, h => .cons (h p (List.mem_cons_self ..)) (refs_each L fun q hq => h q (List.mem_cons_of_mem _ hq))
section
variable {P : Program} {w : World} {A : Around} {E : Value → Shared → Prop} {s : Shared}
theorem isT_reads {h : Heap} {k : List Int} {b : Addr} (x : IsT P w h k b) : Reads h (.ref b) (rowE k) [] := by
  obtain ⟨o, items, n, ho, hc, hd, hi⟩ := x
  exact Reads.tuple ho hc hd (ints_read (ints_of_items hi))
theorem sorted_setN {S : Addr} {L : List RowT} {es : Array (Int × Value)} {ep : Nat} {t : SetTable} {Q : Value → Shared → Prop} (R : SetN P w s.heap S L es ep t) (hh : A.handled = none) (hu : A.units + 100 < cLine) (cap : L.length ≤ 4000) (ok : L.length < 2 ∨ ∀ p ∈ L, p.2 ≠ [])
    (hQ : ∀ s' p (c : Nat) (L' : List RowT), (∀ b o, s.heap.get? b = some o → s'.heap.get? b = some o) → s'.gens = s.gens → s'.os = s.os → s.heap.objs.size ≤ p →
      s'.heap.get? p = some (seqObj "list" (L'.map fun q => Value.ref q.1).toArray c) → L'.Perm L → L'.Pairwise (fun a b => leW a.2 b.2 = true) → Q (.ref p) s') :
    wpAny (model P w) A (call (.builtin "sorted") [.ref S]) Q E s := by
  obtain ⟨o, ho, hex, hd⟩ := R.obj
  have sz := R.len
  refine Calls.call_function_entry kind_sorted plain_sorted entry_sorted (args_sorted1 _) ?_
  unfold Builtin.«sorted»
  refine wpAny_bind (m := checkCount "sorted" 1 1 _) (wpAny_pure ?_)
  refine wpAny_bind (collect_set (A := A.in1) hh ⟨o, ho, hex.1, hd⟩ R.goes.1 (by unfold scanBound; omega) R.asc R.lds fun s1 vs k1 hz g1 o1 pm => ?_)
  have hes : es.toList.map (·.2) = L.map fun q => Value.ref q.1 := by
    rw [R.rws]
    unfold rowsOf
    rw [List.map_map]
    rfl
  obtain ⟨L1, p1, rfl⟩ := perm_back pm L hes
  have ln := p1.length_eq
  refine wpAny_bind (wpAny_newList ?_ (by rw [List.length_map, sizeLine_eq]; omega))
  have hoL : (s1.heap.push (seqObj "list" (L1.map fun q => Value.ref q.1).toArray 0)).get? s1.heap.objs.size = some (seqObj "list" (L1.map fun q => Value.ref q.1).toArray 0) := Heap.get?_push_size _ rfl
  have rd : ∀ q ∈ L1, Reads (s1.heap.push (seqObj "list" (L1.map fun q => Value.ref q.1).toArray 0)) (.ref q.1) (rowE q.2) [] := fun q hq => isT_reads (P := P) (w := w) (isT_keep (R.tps q (p1.mem_iff.mp hq)) fun b u e => Heap.get?_push_of_some _ (k1 b u e))
  have fin : ∀ L' : List RowT, L'.Perm L → L'.Pairwise (fun a b => leW a.2 b.2 = true) → Q (.ref s1.heap.objs.size) { s1 with heap := sortedHeap (s1.heap.push (seqObj "list" (L1.map fun q => Value.ref q.1).toArray 0)) s1.heap.objs.size (L1.map fun q => Value.ref q.1) (L'.map fun q => Value.ref q.1).toArray } := fun L' pL pw => by
    obtain ⟨c, hc⟩ := sortedHeap_at (vs := L1.map fun q => Value.ref q.1) (out := (L'.map fun q => Value.ref q.1).toArray) hoL
    refine hQ _ s1.heap.objs.size c L' (fun b u e => ?_) g1 o1 hz hc pL pw
    have q := k1 b u e
    have hlt := Heap.lt_size q
    show (sortedHeap (s1.heap.push (seqObj "list" (L1.map fun q => Value.ref q.1).toArray 0)) s1.heap.objs.size (L1.map fun q => Value.ref q.1) (L'.map fun q => Value.ref q.1).toArray).get? b = some u
    rw [sortedHeap_old (Nat.ne_of_lt hlt) (by rw [size_push']; exact Nat.lt_succ_of_lt hlt)]
    exact Heap.get?_push_of_some _ q
  rcases ok with ok | ok
  · refine wpAny_bind (wpAny_holding (wpAny_call_entry slot_list_sort ⟨_, hoL, rfl⟩ entry_list_sort (SrtO.list_sort_ord (s := { s1 with heap := s1.heap.push (seqObj "list" (L1.map fun q => Value.ref q.1).toArray 0) }) triv_swo hoL (by rw [List.length_map, sizeLine_eq]; omega) (fun h2 => absurd h2 (by rw [List.length_map]; omega)) fun out h1 h2 => ⟨_, rfl, ?_⟩) (args_list_sort _)))
    have eo : out = L1.map fun q => Value.ref q.1 := short_out (by rw [List.length_map]; omega) h2.perm
    subst eo
    refine wpAny_pure ⟨_, rfl, fin L1 p1 ?_⟩
    match L1, ln with
    | [], _ => exact .nil
    | [a], _ => exact List.pairwise_singleton _ _
    | a :: b :: r, ln => simp at ln; omega
  · have hal : PySem.W.AllAlike (L1.map fun p : RowT => rowE p.2) := PySem.W.AllAlike.of fun a b => by
      show PySem.W.alike (rowE a.2) (rowE b.2) = true
      simp [rowE, PySem.W.alike, alike_rows]
    have hk : PySem.W.Sortable (L1.map fun p : RowT => rowE p.2) := .inl fun d hd => by
      obtain ⟨p, hp, rfl⟩ := List.mem_map.mp hd
      have := ok p (p1.mem_iff.mp hp)
      match h : p.2 with
      | [] => exact absurd h this
      | x :: r => exact ⟨.int x, r.map .int, rfl⟩
    refine wpAny_bind (wpAny_holding (PySem.W.list_sort_data (s := { s1 with heap := s1.heap.push (seqObj "list" (L1.map fun q => Value.ref q.1).toArray 0) }) (enc := fun p : RowT => rowE p.2) (R := fun v (p : RowT) => v = Value.ref p.1) hoL (refs_each L1 fun _ _ => rfl) (refs_each L1 fun p hp => ⟨[], rd p hp, List.not_mem_nil⟩) hal hk (by rw [sizeLine_eq]; omega) (fun b hb => ?_) fun out hl eo => ?_))
    · have := rowE_depth b.2
      show A.units + 1 + 1 + (rowE b.2).depth < cLine
      omega
    · have := each_refs eo
      subst this
      refine wpAny_pure ⟨_, rfl, fin _ ((List.mergeSort_perm _ _).trans p1) ?_⟩
      have srt := List.pairwise_mergeSort (le := PySem.W.dataLe false (fun p : RowT => rowE p.2)) (fun a b c h1 h2 => by
        rw [leW_data] at *
        unfold leW at *
        simp only [decide_eq_true_eq] at *
        exact List.le_trans h1 h2) (fun a b => by
        rw [leW_data, leW_data]
        unfold leW
        rw [Bool.or_eq_true, decide_eq_true_eq, decide_eq_true_eq]
        exact List.le_total a.2 b.2) L1
      exact srt.imp fun {a b} h => by rw [leW_data] at h; exact h
end
section
variable {X : Cx} {EX : EXT} {a : Expr} {ta : TE} {d : SE} {p p2 q pos : Pos}
def tSortN (K : PySem.W.Frag) (ta : TE) : TE := fun σ H Q => ta σ H fun x H1 => ∃ (l : Addr) (rows : List RowT), x = V.ref l ∧ SqT K H1 l (rows.map fun p => V.ref p.1) ∧ (∀ p ∈ rows, SqT K H1 p.1 (p.2.map V.int)) ∧ rows.length ≤ 4000 ∧ (rows.map (·.2)).Nodup ∧ (rows.length < 2 ∨ ∀ p ∈ rows, p.2 ≠ []) ∧
  ∀ (p : Addr) (L' : List RowT), H1 p = none → L'.Perm rows → L'.Pairwise (fun a b => leW a.2 b.2 = true) → Q (.ref p) (upd H1 p (.lst (L'.map fun p => V.ref p.1)))
theorem pe_sortN (hc : X.calm = true) (hu : X.A.units + 100 < cLine) (hg : Gl X "sorted") (hm : X.mg "sorted" = none) (hg2 : Gl X "set") (hm2 : X.mg "set" = none) (ha : PE X a ta)
    (na : starEach [a] X.env = (false, eval a X.env) :: starEach [] X.env) : PE X (.Call (.Name "sorted" p) [.Call (.Name "set" p2) [a] [] q] [] pos) (tSortN X.K ta) := by
  have boot : bootBuiltins (Str.ofString "sorted") = some (.builtin "sorted") := by decide +kernel
  refine ⟨fun pins s σ H Q I h => Call_ (ld_blt I hg hm boot ?_)⟩
  refine PyProof.Rows.callWith_builtin1 (PyProof.Rows.args_cons (Call_ (ld_blt I hg2 hm2 PyProof.Rows.boot_set ?_)) rfl) rfl rfl
  refine PyProof.Rows.callWith_type1 (PyProof.Rows.args_cons (thn (ha.run pins s σ H _ I h) fun v s1 ⟨x, H1, I1, r1, q1⟩ => PyProof.Rows.args_nil ?_) na) na rfl
  obtain ⟨l, rows, ex, hq, hr, hz, un, ne, q2⟩ := q1
  subst ex
  cases r1
  obtain ⟨its, rv, pl, _⟩ := I1.tuple hq
  refine set_of_tupN (P := X.prog) (w := X.w) rows (I1.ok.hd hc) ?_ (by simpa using refs_of_vals rv) (fun p hp => I1.isT (hr p hp)) (by omega) un (by omega) fun h' tk L es ep t R pm k => ?_
  · obtain ⟨o, ho, hcls, n, hd⟩ := pl
    exact ⟨o, ho, hcls, n, hd⟩
  have I2 : Inv X pins σ H1 { s1 with heap := h', toks := tk } := I1.kept k
  have ln := pm.length_eq
  refine PyProof.Rows.args_nil ?_
  refine sorted_setN (s := { s1 with heap := h', toks := tk }) R (I2.ok.hd hc) hu (by omega) (ne.imp (fun h => by omega) fun h p hp => h p (pm.mem_iff.mp hp)) fun s' p c L' k2 g o hp hgt pm2 pw => ?_
  have l2 := pm2.length_eq
  have hlen : (L'.map fun p => V.ref p.1).length ≤ sizeLine := by rw [List.length_map, sizeLine_eq]; omega
  have hn : H1 p = none := I2.hok.fresh hp
  have J : Inv X pins σ (upd H1 p (.lst (L'.map fun p => V.ref p.1))) { ({ s1 with heap := h', toks := tk } : Shared) with heap := s'.heap, gens := s'.gens, drawn := s'.drawn, toks := s'.toks } :=
    I2.call (ch := []) (Un.laid k2 hp hn) (I2.hok.laid k2 hp ⟨hlen, L'.map fun q => Value.ref q.1, c, vals_of_refs L', hgt⟩) (by rw [g]; exact I2.bare) (fun _ z => nomatch z)
  have e : s' = { s1 with heap := s'.heap, gens := s'.gens, drawn := s'.drawn, toks := s'.toks } := by
    cases s'
    cases s1
    cases o
    rfl
  rw [e]
  exact ⟨.ref p, _, J, rfl, q2 p L' hn (pm2.trans pm) pw⟩
theorem dRows_rd {K : PySem.W.Frag} {W : Wd} : ∀ {vs : List V} {ds : List D} {rs : List (List Int)}, RDs K W vs ds → dRows ds = some rs → ∃ rows : List RowT, vs = rows.map (fun p => V.ref p.1) ∧ rows.map (·.2) = rs ∧ (∀ p ∈ rows, SqT K W.I p.1 (p.2.map V.int)) ∧ ∀ p ∈ rows, RD K W (V.ref p.1) (.tup (p.2.map D.int))
  | _, _, rs, .nil, e => by cases e; exact ⟨[], rfl, rfl, fun p h => (List.not_mem_nil h).elim, fun p h => (List.not_mem_nil h).elim⟩
  | _, d :: ds, rs, .cons r t, e => by
    cases d with
    | tup xs =>
      rw [dRows] at e
      obtain ⟨r1, h1, e⟩ := Option.bind_eq_some_iff.mp e
      obtain ⟨r2, h2, rfl⟩ := Option.map_eq_some_iff.mp e
      obtain ⟨rows, q1, q2, q3, q4⟩ := dRows_rd t h2
      cases r with
      | @tup a us _ hT hN ru =>
        have := intsD_of ru h1
        subst this
        refine ⟨(a, r1) :: rows, by rw [q1]; rfl, by rw [List.map_cons, q2], fun p hp => ?_, fun p hp => ?_⟩
        · rcases List.mem_cons.mp hp with e | e
          · rw [e]; exact hT
          · exact q3 p e
        · rcases List.mem_cons.mp hp with e | e
          · rw [e]; exact .tup hT hN (rds_ints _)
          · exact q4 p e
    | _ => simp [dRows] at e
theorem rds_rows {K : PySem.W.Frag} {W : Wd} : ∀ (L : List RowT), (∀ p ∈ L, RD K W (V.ref p.1) (.tup (p.2.map D.int))) → RDs K W (L.map fun p => V.ref p.1) ((L.map (·.2)).map fun r => D.tup (r.map D.int))
  | [], _ => .nil
  | p :: L, h => .cons (h p (List.mem_cons_self ..)) (rds_rows L fun q hq => h q (List.mem_cons_of_mem _ hq))
theorem sort_once {L : List RowT} {rs : List (List Int)} (h : (L.map (·.2)).Perm rs) (pw : L.Pairwise (fun a b => leW a.2 b.2 = true)) : L.map (·.2) = rs.mergeSort leW := by
  have tr : ∀ a b c : List Int, leW a b = true → leW b c = true → leW a c = true := fun a b c h1 h2 => by
    unfold leW at *
    simp only [decide_eq_true_eq] at *
    exact List.le_trans h1 h2
  have tot : ∀ a b : List Int, (leW a b || leW b a) = true := fun a b => by
    unfold leW
    rw [Bool.or_eq_true, decide_eq_true_eq, decide_eq_true_eq]
    exact List.le_total a b
  refine List.Perm.eq_of_pairwise (le := fun a b => leW a b = true) (fun a b _ _ h1 h2 => ?_) (List.pairwise_map.mpr pw) (List.pairwise_mergeSort tr tot rs) (h.trans (List.mergeSort_perm rs leW).symm)
  unfold leW at *
  simp only [decide_eq_true_eq] at *
  exact List.le_antisymm h1 h2
def rowsD : D → Option (List (List Int))
  | .tup ds => dRows ds
  | _ => none
def gSortN : List D → M → R (List D) := fun xs m => match xs with
  | [x] => match rowsD x with
    | some rs => if rs.length ≤ 4000 ∧ rs.Nodup ∧ (rs.length < 2 ∨ ∀ r ∈ rs, r ≠ []) then .ok ((rs.mergeSort leW).map fun r => D.tup (r.map D.int)) m else .bad
    | none => .bad
  | _ => .bad
theorem dl_sortN (hu : X.A.units + 100 < cLine) (hm : X.mg "sorted" = none) (hm2 : X.mg "set" = none) (ha : DE X EX a d) (hc : X.calm = true := by rfl) (hg : Gl X "sorted" := by rfl) (hg2 : Gl X "set" := by rfl)
    (na : starEach [a] X.env = (false, eval a X.env) :: starEach [] X.env := by rfl) : DL X EX (.Call (.Name "sorted" p) [.Call (.Name "set" p2) [a] [] q] [] pos) (sCallL gSortN (sCons d sNil)) := by
  rw [one_callL]
  exact PE.imp (pe_sortN hc hu hg hm hg2 hm2 ha na) fun σ H Q ⟨W, ρ, m, rs, rm, h⟩ => ⟨W, ρ, m, rs, rm, post_mono (post_bind h) fun x W1 H1 m1 e1 rm1 h1 v rv => by
    unfold gSortN at h1
    dsimp only at h1
    split at h1
    · rename_i rr hrr
      split at h1
      · rename_i hz
        cases x with
        | tup ds =>
          cases rv with
          | tup hT hN r =>
            obtain ⟨rows, q1, q2, q3, q4⟩ := dRows_rd r hrr
            subst q1
            subst q2
            refine ⟨_, rows, rfl, same_T rm1.sub hT, fun p hp => same_T rm1.sub (q3 p hp), by simpa using hz.1, hz.2.1, ?_, fun p L' hp pm pw => ?_⟩
            · rcases hz.2.2 with h | h
              · exact .inl (by simpa using h)
              · exact .inr fun p hp => h p.2 (List.mem_map.mpr ⟨p, hp, rfl⟩)
            · rw [← sort_once (pm.map (·.2)) pw] at h1
              exact fresh_post e1 rm1 hp (rds_rows L' fun p hp => q4 p (pm.mem_iff.mp hp)) h1
        | _ => cases hrr
      · exact h1.elim
    · exact h1.elim⟩
end
end Vi
namespace Vi
open PySem PySem.Spec PyProof.Rows L2
section
variable (ρ : En) (m : M)
end
end Vi
namespace Vi
open PySem PySem.Spec PyProof.Rows L2
abbrev iL1 (ns : List Int) : List D := ns.map D.int
theorem toPys_ints (m : M) : ∀ ns : List Int, toPys (iL1 ns) m = some (ns.map PyData.int)
  | [] => rfl
  | n :: ns => by simp only [iL1, List.map_cons, toPys, toPy]; rw [toPys_ints m ns]
theorem tag_ints (m : M) : ∀ ns : List Int, tagPy (iL1 ns) m = some (ns.map fun i => (D.int i, PyData.int i))
  | [] => rfl
  | n :: ns => by simp only [iL1, List.map_cons, tagPy, toPy]; rw [tag_ints m ns]
theorem sortOk_ints (ns : List Int) : sortOk ((ns.map fun i => (D.int i, PyData.int i)).map Prod.snd) = true := by
  simp [sortOk, PySem.W.alike, notTup, PyData.depth, List.map_map]
theorem v_sortI (ns : List Int) (m : M) (rev : Bool) : ∃ qs : List Int, gSorted rev [.lst (iL1 ns)] m = .ok (iL1 qs) m ∧ qs.Perm ns ∧ qs.Pairwise (fun a b => if rev then b ≤ a else a ≤ b) := by
  have h : gSorted rev [.lst (iL1 ns)] m = .ok (sortD rev (ns.map fun i => (D.int i, PyData.int i))) m := by
    simp only [gSorted, asList, tag_ints]
    rw [if_pos (.inr (sortOk_ints ns))]
  let le : Int → Int → Bool := fun a b => PySem.W.dataLe rev Prod.snd ((D.int a, PyData.int a) : D × PyData) (D.int b, PyData.int b)
  have e : sortD rev (ns.map fun i => (D.int i, PyData.int i)) = iL1 (ns.mergeSort le) := by
    unfold sortD
    have := List.map_mergeSort (r := le) (s := PySem.W.dataLe rev Prod.snd) (f := fun i => (D.int i, PyData.int i)) (l := ns) fun a _ b _ => rfl
    rw [← this]
    simp [iL1, List.map_map, Function.comp_def]
  have le_eq : ∀ a b, le a b = decide (if rev then b ≤ a else a ≤ b) := by
    intro a b
    have e1 : PySem.W.dataLt (.int a) (.int b) = decide (a < b) := by
      have h1 := congrFun (congrFun (PySem.W.dataLe_int (β := Int) id) b) a
      rw [PySem.W.dataLe_eq] at h1
      have h2 : (!PySem.W.dataLt (.int a) (.int b)) = decide (b ≤ a) := h1
      rw [Bool.eq_iff_iff]
      rw [Bool.eq_iff_iff] at h2
      cases q : PySem.W.dataLt (.int a) (.int b) <;> rw [q] at h2 <;> simp at h2 ⊢ <;> omega
    have e2 : PySem.W.dataLt (.int b) (.int a) = decide (b < a) := by
      have h1 := congrFun (congrFun (PySem.W.dataLe_int (β := Int) id) a) b
      rw [PySem.W.dataLe_eq] at h1
      have h2 : (!PySem.W.dataLt (.int b) (.int a)) = decide (a ≤ b) := h1
      rw [Bool.eq_iff_iff]
      rw [Bool.eq_iff_iff] at h2
      cases q : PySem.W.dataLt (.int b) (.int a) <;> rw [q] at h2 <;> simp at h2 ⊢ <;> omega
    show PySem.W.dataLe rev Prod.snd ((D.int a, PyData.int a) : D × PyData) (D.int b, PyData.int b) = _
    rw [PySem.W.dataLe_eq]
    show (bif rev then !PySem.W.dataLt (.int a) (.int b) else !PySem.W.dataLt (.int b) (.int a)) = _
    rw [e1, e2, Bool.eq_iff_iff]
    cases rev <;> simp
  refine ⟨ns.mergeSort le, by rw [h, e], List.mergeSort_perm _ _, ?_⟩
  have := List.pairwise_mergeSort (le := le) (fun a b c h1 h2 => by
    rw [le_eq] at *
    cases rev <;> simp at * <;> omega) (fun a b => by
    rw [le_eq, le_eq]
    cases rev <;> simp <;> omega) ns
  refine this.imp fun {a b} h => ?_
  rw [le_eq] at h
  simpa using h
end Vi
namespace Vi
open PySem PySem.Spec PyProof.Rows L2
end Vi
namespace Vi
open PySem PySem.Spec PyProof.Rows L2
end Vi
namespace Lk06
open PySem PySem.Spec PyProof.Rows L2 Vi
theorem scis_whole : FnScope ["thing"] ["thing"] (defScope sis_whole) := ⟨rfl, rfl, rfl, by decide +kernel, rfl, by decide +kernel, by decide +kernel⟩
theorem scis_parting : FnScope ["thing", "part", "one", "more"] ["thing"] (defScope sis_parting) := ⟨rfl, rfl, rfl, by decide +kernel, rfl, by decide +kernel, by decide +kernel⟩
theorem scweight : FnScope ["parting"] ["parting"] (defScope sweight) := ⟨rfl, rfl, rfl, by decide +kernel, rfl, by decide +kernel, by decide +kernel⟩
theorem scturned : FnScope ["parting", "size", "part"] ["parting"] (defScope sturned) := ⟨rfl, rfl, rfl, by decide +kernel, rfl, by decide +kernel, by decide +kernel⟩
theorem scsizes : FnScope ["parting", "often", "part"] ["parting"] (defScope ssizes) := ⟨rfl, rfl, rfl, by decide +kernel, rfl, by decide +kernel, by decide +kernel⟩
theorem scboth : FnScope ["one", "other"] ["one", "other"] (defScope sboth) := ⟨rfl, rfl, rfl, by decide +kernel, rfl, by decide +kernel, by decide +kernel⟩
theorem scless : FnScope ["one", "other", "left", "part"] ["one", "other"] (defScope sless) := ⟨rfl, rfl, rfl, by decide +kernel, rfl, by decide +kernel, by decide +kernel⟩
theorem scpartings : FnScope ["n", "found", "size", "number", "rest"] ["n"] (defScope spartings) := ⟨rfl, rfl, rfl, by decide +kernel, rfl, by decide +kernel, by decide +kernel⟩
theorem sc_law_hand : FnScope ["_law_script", "_law_k", "_law_cell", "_law_great"] ["_law_script", "_law_k"] (defScope s_law_hand) := ⟨rfl, rfl, rfl, by decide +kernel, rfl, by decide +kernel, by decide +kernel⟩
theorem sc_law_take : FnScope ["_law_hand_here", "_law_many", "_law_digit"] ["_law_hand_here", "_law_many"] (defScope s_law_take) := ⟨rfl, rfl, rfl, by decide +kernel, rfl, by decide +kernel, by decide +kernel⟩
theorem sc_law_one_right : FnScope ["_law_parting", "_law_n", "_law_there", "_law_again", "_law_size", "_law_often"] ["_law_parting", "_law_n"] (defScope s_law_one_right) := ⟨rfl, rfl, rfl, by decide +kernel, rfl, by decide +kernel, by decide +kernel⟩
theorem sclaw : FnScope ["_law_script", "_law_k", "_law_hand_here", "_law_n", "_law_told", "_law_one", "_law_more", "_law_parting"] ["_law_script"] (defScope slaw) := ⟨rfl, rfl, rfl, by decide +kernel, rfl, by decide +kernel, by decide +kernel⟩
def fis_whole_0 : SS := (sRet (sAndV (sIsi "int" (sVar 0)) (sNotV (sIsi "bool" (sVar 0)))))
def fis_whole : Fn := exitF (runDef 1 fis_whole_0)
def fis_parting_1 : SS := (sRet (sCall gAll (sCons (sFrz (sComp [2, 3] (iZi (sCons (sVar 0) (sCons (sCutT (sVar 0) (sSome (sC (.int 1))) sNo) sNil))) (gTp 2 (gsCons (gNm 2) (gsCons (gNm 3) gsNil))) tYs (sOfT (sBinT gGe (sVar 2) (sVar 3))))) sNil)))
def fis_parting_0a0 : SS := (sRet (sC (.bl false)))
def fis_parting_0 : SS := (sIfS (sOr (sNot (sTB (sIsi "tuple" (sVar 0)))) (sNot (sTB (sCall gAll (sCons (sFrz (sComp [1] (iS (sVar 0)) (gNm 1) tYs (sAndV (sCall fis_whole (sCons (sVar 1) sNil)) (sOfT (sBinT gGt (sVar 1) (sC (.int 0))))))) sNil)))))
  fis_parting_0a0
  sPass)
def fis_parting : Fn := exitF (runDef 4 (sSeq fis_parting_0 fis_parting_1))
def fweight_0 : SS := (sRet (sCall gSum (sCons (sVar 0) sNil)))
def fweight : Fn := exitF (runDef 1 fweight_0)
def fturned_1 : SS := (sRet (sCall gTuple (sCons (sFrz (sComp [1] (iR2 (sCons (sC (.int 1)) (sCons (sBin gAdd (sBin gIx (sVar 0) (sC (.int 0))) (sC (.int 1))) sNil))) (gNm 1) tYs (sCall gLen (sCons (sFrz (sComp [2] (iS (sVar 0)) (gNm 2) (sBinT gGe (sVar 2) (sVar 1)) (sVar 2))) sNil)))) sNil)))
def fturned_0a0 : SS := (sRet (sTup sNil))
def fturned_0 : SS := (sIfS (sBinT gEq (sVar 0) (sTup sNil))
  fturned_0a0
  sPass)
def fturned : Fn := exitF (runDef 3 (sSeq fturned_0 fturned_1))
def fsizes_2 : SS := (sRet (sCall gTuple (sCons (sFrz (sRev (sFrz (sSortItems (sVar 1))))) sNil)))
def fsizes_1_0 : SS := (sAsg (sBin gAdd (sDGet2 (sVar 1) (sVar 2) (sC (.int 0))) (sC (.int 1))) (gDSet (sVar 1) (sVar 2)))
def fsizes_1 : SS := (sFor (iS (sVar 0)) (gNm 2)
  fsizes_1_0)
def fsizes_0 : SS := (sAsg sDNew (gNm 1))
def fsizes : Fn := exitF (runDef 3 (sSeq fsizes_0 (sSeq fsizes_1 fsizes_2)))
def fboth_0 : SS := (sRet (sCall gTuple (sCons (sFrz (sRev (sFrz (sCallL gSortedT (sCons (sBin gCatT (sVar 0) (sVar 1)) sNil))))) sNil)))
def fboth : Fn := exitF (runDef 2 fboth_0)
def fless_2 : SS := (sRet (sCall gTuple (sCons (sVar 2) sNil)))
def fless_1_1 : SS := (sDrop (sRem (sVar 2) (sVar 3)))
def fless_1_0a0 : SS := (sRet (sC .non))
def fless_1_0 : SS := (sIfS (sBinT gNotIn (sVar 3) (sVar 2))
  fless_1_0a0
  sPass)
def fless_1 : SS := (sFor (iS (sVar 1)) (gNm 3)
  (sSeq fless_1_0 fless_1_1))
def fless_0 : SS := (sAsg (sNew (sCallL gList (sCons (sVar 0) sNil))) (gNm 2))
def fless : Fn := exitF (runDef 4 (sSeq fless_0 (sSeq fless_1 fless_2)))
def fpartings_2 : SS := (sRet (sCall gTuple (sCons (sFrz (sCallL (gSorted false) (sCons (sBin gIx (sVar 1) (sVar 0)) sNil))) sNil)))
def fpartings_1_0_0 : SS := (sDrop (sExt (sBin gIx (sVar 1) (sVar 3)) (sFrz (sCompM [4] (sBin gIx (sVar 1) (sBin gSub (sVar 3) (sVar 2))) (gNm 4) tYs (sBin gCatT (sTup (sCons (sVar 2) sNil)) (sVar 4))))))
def fpartings_1_0 : SS := (sFor (iR2 (sCons (sVar 2) (sCons (sBin gAdd (sVar 0) (sC (.int 1))) sNil))) (gNm 3)
  fpartings_1_0_0)
def fpartings_1 : SS := (sFor (iR2 (sCons (sC (.int 1)) (sCons (sBin gAdd (sVar 0) (sC (.int 1))) sNil))) (gNm 2)
  fpartings_1_0)
def fpartings_0 : SS := (sAsg (sNew (sCatL (sFrz (sLst (sCons (sNew (sLst (sCons (sTup sNil) sNil))) sNil))) (sFrz (sComp [3] (iR1 (sCons (sVar 0) sNil)) (gNm 3) tYs (sNew (sLst sNil)))))) (gNm 1))
def fpartings : Fn := exitF (runDef 5 (sSeq fpartings_0 (sSeq fpartings_1 fpartings_2)))
def f_law_hand_2 : SS := (sRet (sNew (sLst (sCons (sVar 3) (sCons (sBin gMod (sBin gPow (sBin gAdd (sBin gAdd (sBin gMod (sVar 2) (sC (.int 2147483629))) (sBin gMul (sBin gMul (sC (.int 7919)) (sVar 1)) (sVar 1))) (sC (.int 11))) (sC (.int 3))) (sC (.int 2147483647))) (sCons (sC (.int 0)) sNil))))))
def f_law_hand_1 : SS := (sAsg (sBin gMul (sBin gMod (sVar 2) (sBin gMul (sBin gPow (sC (.int 10)) (sC (.int 60))) (sBin gPow (sC (.int 10)) (sC (.int 60))))) (sCall gInt1 (sCons (sOfT (sBinT gGe (sVar 2) (sBin gPow (sC (.int 10)) (sC (.int 18))))) sNil))) (gNm 3))
def f_law_hand_0 : SS := (sAsg (sIf (sBinT gLt (sVar 1) (sCall gLen (sCons (sVar 0) sNil))) (sBin gIx (sVar 0) (sVar 1)) (sC (.int 0))) (gNm 2))
def f_law_hand : Fn := runDef 4 (sSeq f_law_hand_0 (sSeq f_law_hand_1 f_law_hand_2))
def f_law_take_3 : SS := (sRet (sBin gMod (sBin gDiv (sBin gAdd (sBin gMod (sBin gPow (sBin gIx (sVar 0) (sC (.int 1))) (sC (.int 5))) (sC (.int 2147483629))) (sBin gDiv (sBin gIx (sVar 0) (sC (.int 1))) (sC (.int 8191)))) (sC (.int 64))) (sVar 1)))
def f_law_take_2 : SS := (sAsg (sBin gMod (sBin gAdd (sBin gAdd (sBin gMul (sBin gIx (sVar 0) (sC (.int 1))) (sC (.int 39373))) (sBin gMul (sC (.int 65537)) (sBin gIx (sVar 0) (sC (.int 2))))) (sC (.int 12345))) (sC (.int 2147483647))) (gSb (sVar 0) (sC (.int 1))))
def f_law_take_1 : SS := (sAsg (sBin gAdd (sBin gIx (sVar 0) (sC (.int 2))) (sC (.int 1))) (gSb (sVar 0) (sC (.int 2))))
def f_law_take_0a2 : SS := (sRet (sVar 2))
def f_law_take_0a1 : SS := (sAsg (sBin gDiv (sBin gIx (sVar 0) (sC (.int 0))) (sVar 1)) (gSb (sVar 0) (sC (.int 0))))
def f_law_take_0a0 : SS := (sAsg (sBin gMod (sBin gIx (sVar 0) (sC (.int 0))) (sVar 1)) (gNm 2))
def f_law_take_0 : SS := (sIfS (sBinT gGt (sBin gIx (sVar 0) (sC (.int 0))) (sC (.int 0)))
  (sSeq f_law_take_0a0 (sSeq f_law_take_0a1 f_law_take_0a2))
  sPass)
def f_law_take : Fn := exitF (runDef 3 (sSeq f_law_take_0 (sSeq f_law_take_1 (sSeq f_law_take_2 f_law_take_3))))
def f_law_one_right_5 : SS := (sRet (sOfT (sBinT gEq (sCall gLen (sCons (sVar 0) sNil)) (sCall gMaxS (sCons (sBin gCatT (sVar 2) (sTup (sCons (sC (.int 0)) sNil))) sNil)))))
def f_law_one_right_4a0 : SS := (sRet (sC (.bl false)))
def f_law_one_right_4 : SS := (sIfS (sOr (sBinT gNe (sCall fturned (sCons (sVar 2) sNil)) (sVar 0)) (sBinT gNe (sCall gLen (sCons (sVar 2) sNil)) (sCall gMaxS (sCons (sBin gCatT (sVar 0) (sTup (sCons (sC (.int 0)) sNil))) sNil))))
  f_law_one_right_4a0
  sPass)
def f_law_one_right_3a0 : SS := (sRet (sC (.bl false)))
def f_law_one_right_3 : SS := (sIfS (sOr (sBinT gNotQ (sCall fis_parting (sCons (sVar 0) sNil)) (sC (.bl true))) (sOr (sBinT gNe (sCall fweight (sCons (sVar 0) sNil)) (sVar 1)) (sOr (sBinT gNe (sCall fweight (sCons (sVar 2) sNil)) (sVar 1)) (sBinT gNe (sVar 3) (sVar 0)))))
  f_law_one_right_3a0
  sPass)
def f_law_one_right_2_0 : SS := (sAsg (sBin gCatT (sVar 3) (sBin gRepT (sTup (sCons (sVar 4) sNil)) (sVar 5))) (gNm 3))
def f_law_one_right_2 : SS := (sFor (iS (sCall fsizes (sCons (sVar 0) sNil))) (gTp 2 (gsCons (gNm 4) (gsCons (gNm 5) gsNil)))
  f_law_one_right_2_0)
def f_law_one_right_1 : SS := (sAsg (sTup sNil) (gNm 3))
def f_law_one_right_0 : SS := (sAsg (sCall fturned (sCons (sVar 0) sNil)) (gNm 2))
def f_law_one_right : Fn := exitF (runDef 6 (sSeq f_law_one_right_0 (sSeq f_law_one_right_1 (sSeq f_law_one_right_2 (sSeq f_law_one_right_3 (sSeq f_law_one_right_4 f_law_one_right_5))))))
def flaw_1 : SS := (sRet (sC (.bl true)))
def flaw_0_5_0a0 : SS := (sRet (sC (.bl false)))
def flaw_0_5_0 : SS := (sIfS (sOr (sBinT gNe (sCall fless (sCons (sCall fboth (sCons (sVar 5) (sCons (sVar 6) sNil))) (sCons (sVar 6) sNil))) (sVar 5)) (sOr (sBinT gNotN (sCall fless (sCons (sVar 5) (sCons (sVar 6) sNil))) (sC .non)) (sBinT gNe (sCall fweight (sCons (sCall fboth (sCons (sVar 5) (sCons (sVar 6) sNil))) sNil)) (sBin gMul (sC (.int 2)) (sVar 3)))))
  flaw_0_5_0a0
  sPass)
def flaw_0_5 : SS := (sFor (iZi (sCons (sVar 4) (sCons (sCutT (sVar 4) (sSome (sC (.int 1))) sNo) sNil))) (gTp 2 (gsCons (gNm 5) (gsCons (gNm 6) gsNil)))
  flaw_0_5_0)
def flaw_0_4a0 : SS := (sRet (sC (.bl false)))
def flaw_0_4 : SS := (sIfS (sBinT gNe (sFrz (sCallL (gSorted false) (sCons (sFrz (sComp [7] (iS (sVar 4)) (gNm 7) tYs (sCall fturned (sCons (sVar 7) sNil)))) sNil))) (sFrz (sCallL gList (sCons (sVar 4) sNil))))
  flaw_0_4a0
  sPass)
def flaw_0_3a0 : SS := (sRet (sC (.bl false)))
def flaw_0_3 : SS := (sIfS (sOr (sNot (sTB (sCall gAll (sCons (sFrz (sComp [7] (iS (sVar 4)) (gNm 7) tYs (sCall f_law_one_right (sCons (sVar 7) (sCons (sVar 3) sNil))))) sNil)))) (sBinT gNe (sFrz (sCallL gList (sCons (sVar 4) sNil))) (sFrz (sCallL gSortN (sCons (sVar 4) sNil)))))
  flaw_0_3a0
  sPass)
def flaw_0_2 : SS := (sAsg (sCall fpartings (sCons (sVar 3) sNil)) (gNm 4))
def flaw_0_1 : SS := (sAsg (sCall f_law_take (sCons (sVar 2) (sCons (sBin gIx (sFrz (sLst (sCons (sC (.int 13)) (sCons (sC (.int 13)) (sCons (sC (.int 13)) (sCons (sC (.int 19)) (sCons (sC (.int 19)) (sCons (sC (.int 25)) sNil)))))))) (sCall f_law_take (sCons (sVar 2) (sCons (sC (.int 6)) sNil)))) sNil))) (gNm 3))
def flaw_0_0 : SS := (sAsg (sCall f_law_hand (sCons (sVar 0) (sCons (sVar 1) sNil))) (gNm 2))
def flaw_0 : SS := (sFor (iR1 (sCons (sBin gAdd (sC (.int 1)) (sCall gMin2 (sCons (sC (.int 2)) (sCons (sCall gLen (sCons (sVar 0) sNil)) sNil)))) sNil)) (gNm 1)
  (sSeq flaw_0_0 (sSeq flaw_0_1 (sSeq flaw_0_2 (sSeq flaw_0_3 (sSeq flaw_0_4 flaw_0_5))))))
def flaw : Fn := exitF (runDef 8 (sSeq flaw_0 flaw_1))
set_option genInjectivity false in
set_option genSizeOfSpec false in
structure Tops (K : PySem.W.Frag) (mg : Str → Option Value) where
  a_is_whole : Addr
  d_is_whole : FuncData
  F_is_whole : Fun K "is_whole" "is_whole" sis_whole a_is_whole d_is_whole
  g_is_whole : mg "is_whole" = some (.ref a_is_whole)
  b_is_whole : Binds K d_is_whole ["thing"] []
  a_is_parting : Addr
  d_is_parting : FuncData
  F_is_parting : Fun K "is_parting" "is_parting" sis_parting a_is_parting d_is_parting
  g_is_parting : mg "is_parting" = some (.ref a_is_parting)
  b_is_parting : Binds K d_is_parting ["thing"] []
  a_weight : Addr
  d_weight : FuncData
  F_weight : Fun K "weight" "weight" sweight a_weight d_weight
  g_weight : mg "weight" = some (.ref a_weight)
  b_weight : Binds K d_weight ["parting"] []
  a_turned : Addr
  d_turned : FuncData
  F_turned : Fun K "turned" "turned" sturned a_turned d_turned
  g_turned : mg "turned" = some (.ref a_turned)
  b_turned : Binds K d_turned ["parting"] []
  a_sizes : Addr
  d_sizes : FuncData
  F_sizes : Fun K "sizes" "sizes" ssizes a_sizes d_sizes
  g_sizes : mg "sizes" = some (.ref a_sizes)
  b_sizes : Binds K d_sizes ["parting"] []
  a_both : Addr
  d_both : FuncData
  F_both : Fun K "both" "both" sboth a_both d_both
  g_both : mg "both" = some (.ref a_both)
  b_both : Binds K d_both ["one", "other"] []
  a_less : Addr
  d_less : FuncData
  F_less : Fun K "less" "less" sless a_less d_less
  g_less : mg "less" = some (.ref a_less)
  b_less : Binds K d_less ["one", "other"] []
  a_partings : Addr
  d_partings : FuncData
  F_partings : Fun K "partings" "partings" spartings a_partings d_partings
  g_partings : mg "partings" = some (.ref a_partings)
  b_partings : Binds K d_partings ["n"] []
  a__law_hand : Addr
  d__law_hand : FuncData
  F__law_hand : Fun K "_law_hand" "_law_hand" s_law_hand a__law_hand d__law_hand
  g__law_hand : mg "_law_hand" = some (.ref a__law_hand)
  b__law_hand : Binds K d__law_hand ["_law_script", "_law_k"] []
  a__law_take : Addr
  d__law_take : FuncData
  F__law_take : Fun K "_law_take" "_law_take" s_law_take a__law_take d__law_take
  g__law_take : mg "_law_take" = some (.ref a__law_take)
  b__law_take : Binds K d__law_take ["_law_hand_here", "_law_many"] []
  a__law_one_right : Addr
  d__law_one_right : FuncData
  F__law_one_right : Fun K "_law_one_right" "_law_one_right" s_law_one_right a__law_one_right d__law_one_right
  g__law_one_right : mg "_law_one_right" = some (.ref a__law_one_right)
  b__law_one_right : Binds K d__law_one_right ["_law_parting", "_law_n"] []
  a_law : Addr
  d_law : FuncData
  F_law : Fun K "law" "law" slaw a_law d_law
  g_law : mg "law" = some (.ref a_law)
  b_law : Binds K d_law ["_law_script"] []
  m_isinstance : mg "isinstance" = none
  m_int : mg "int" = none
  m_bool : mg "bool" = none
  m_all : mg "all" = none
  m_tuple : mg "tuple" = none
  m_zip : mg "zip" = none
  m_sum : mg "sum" = none
  m_len : mg "len" = none
  m_range : mg "range" = none
  m_sorted : mg "sorted" = none
  m_list : mg "list" = none
  m_max : mg "max" = none
  m_min : mg "min" = none
  m_set : mg "set" = none
section
variable {P : Program} {w : World} {K : PySem.W.Frag} {mg : Str → Option Value} {base : Heap}
theorem okis_whole (Z : Tops K mg) : FnG P w K mg base 1 Z.a_is_whole Z.d_is_whole ["thing"] fis_whole :=
  exit_ok (fn_ok Z.F_is_whole scis_whole fun cdv A outer s H E B => (dss_one (ds_ret (de_and (de_isi (de_var 0) Z.m_isinstance Z.m_int) (de_one (de_not (de_isi (de_var 0) Z.m_isinstance Z.m_bool)))))))
theorem okis_parting (Z : Tops K mg) : FnG P w K mg base 2 Z.a_is_parting Z.d_is_parting ["thing"] fis_parting :=
  exit_ok (fn_ok Z.F_is_parting scis_parting fun cdv A outer s H E B => (dss_cons (ds_if (dt_w (dw_or (dt_not (dt_bl (de_isi (de_var 0) Z.m_isinstance Z.m_tuple))) (dw_or1 (dt_not (dt_bl (de_callB (c_all rfl) Z.m_all (da_cons (de_frz (dl_comp (ow := [("part", 1)]) rfl scis_parting.nd (di_seq (de_var 0)) (blkOk_by rfl) (fun _ _ _ _ _ => (dgo_name scis_parting.nd)) (fun _ _ _ _ _ => dts_nil) (fun _ _ _ _ _ => (de_and (de_call (okis_whole Z) (B.room.mono (by decide)) B.gd passX0 Z.g_is_whole Z.F_is_whole.kp Z.b_is_whole (da_cons (de_var 1) da_nil) (len_cons len_nil)) (de_one (de_cmp o_gt (de_var 1) de_int)))))) da_nil)))))))
  (dss_one (ds_ret de_bl))
  dss_nil)
  (dss_one (ds_ret (de_callB (c_all rfl) Z.m_all (da_cons (de_frz (dl_comp (ow := [("one", 2), ("more", 3)]) rfl scis_parting.nd (di_zip Z.m_zip (da_cons (de_var 0) (da_cons (de_cut (de_var 0) (do_some de_int) do_none) da_nil))) (blkOk_by rfl) (fun _ _ _ _ _ => (dgo_tup rfl (dgso_cons (dgo_name scis_parting.nd) (dgso_cons (dgo_name scis_parting.nd) dgso_nil)))) (fun _ _ _ _ _ => dts_nil) (fun _ _ _ _ _ => (de_cmp o_ge (de_var 2) (de_var 3))))) da_nil))))))
theorem okweight (Z : Tops K mg) : FnG P w K mg base 1 Z.a_weight Z.d_weight ["parting"] fweight :=
  exit_ok (fn_ok Z.F_weight scweight fun cdv A outer s H E B => (dss_one (ds_ret (de_callB (c_sum rfl) Z.m_sum (da_cons (de_var 0) da_nil)))))
theorem okturned (Z : Tops K mg) : FnG P w K mg base 1 Z.a_turned Z.d_turned ["parting"] fturned :=
  exit_ok (fn_ok Z.F_turned scturned fun cdv A outer s H E B => (dss_cons (ds_if (dt_cmp (o_eq B.hu64) (de_var 0) (de_tup da_nil))
  (dss_one (ds_ret (de_tup da_nil)))
  dss_nil)
  (dss_one (ds_ret (de_callT c_tuple Z.m_tuple (da_cons (de_frz (dl_comp (ow := [("size", 1)]) rfl scturned.nd (di_range2 Z.m_range (da_cons de_int (da_cons (de_op o_add (de_ix (de_var 0) de_int) de_int) da_nil))) (blkOk_by rfl) (fun _ _ _ _ _ => (dgo_name scturned.nd)) (fun _ _ _ _ _ => dts_nil) (fun _ _ _ _ _ => (de_callB c_len Z.m_len (da_cons (de_frz (dl_comp (ow := [("part", 2)]) rfl scturned.nd (di_seq (de_var 0)) (blkOk_by rfl) (fun _ _ _ _ _ => (dgo_name scturned.nd)) (fun _ _ _ _ _ => (dts_one (dt_cmp o_ge (de_var 2) (de_var 1)))) (fun _ _ _ _ _ => (de_var 2)))) da_nil))))) da_nil))))))
theorem oksizes (Z : Tops K mg) : FnG P w K mg base 1 Z.a_sizes Z.d_sizes ["parting"] fsizes :=
  exit_ok (fn_ok Z.F_sizes scsizes fun cdv A outer s H E B => (dss_cons (ds_asg de_dnew (dg_name scsizes.nd))
  (dss_cons (ds_for B.own rfl (di_seq (de_var 0)) (dg_name scsizes.nd)
  (dss_one (ds_asg (de_op o_add (de_dget2 (Nat.lt_of_le_of_lt (Nat.add_le_add_left (by decide) _) B.hu64) (de_var 1) (de_var 2) de_int (by constructor <;> rfl)) de_int) (dg_dset (Nat.lt_of_le_of_lt (Nat.add_le_add_left (by decide) _) B.hu64) (de_var 1) (de_var 2)))))
  (dss_one (ds_ret (de_callT c_tuple Z.m_tuple (da_cons (de_frz (dl_rev (de_frz (dl_sortItems B.hu64 rfl Z.m_sorted (de_var 1))))) da_nil)))))))
theorem okboth (Z : Tops K mg) : FnG P w K mg base 1 Z.a_both Z.d_both ["one", "other"] fboth :=
  exit_ok (fn_ok Z.F_both scboth fun cdv A outer s H E B => (dss_one (ds_ret (de_callT c_tuple Z.m_tuple (da_cons (de_frz (dl_rev (de_frz (dl_callB (c_sortedT B.hu) Z.m_sorted (da_cons (de_op o_catT (de_var 0) (de_var 1)) da_nil))))) da_nil)))))
theorem okless (Z : Tops K mg) : FnG P w K mg base 1 Z.a_less Z.d_less ["one", "other"] fless :=
  exit_ok (fn_ok Z.F_less scless fun cdv A outer s H E B => (dss_cons (ds_asg (de_new (dl_callT c_list Z.m_list (da_cons (de_var 0) da_nil))) (dg_name scless.nd))
  (dss_cons (ds_for B.own rfl (di_seq (de_var 1)) (dg_name scless.nd)
  (dss_cons (ds_if (dt_cmp (o_notIn B.hu65) (de_var 3) (de_var 2))
  (dss_one (ds_ret de_non))
  dss_nil)
  (dss_one (ds_expr (de_rem (de_var 2) (de_var 3))))))
  (dss_one (ds_ret (de_callT c_tuple Z.m_tuple (da_cons (de_var 2) da_nil)))))))
theorem okpartings (Z : Tops K mg) : FnG P w K mg base 1 Z.a_partings Z.d_partings ["n"] fpartings :=
  exit_ok (fn_ok Z.F_partings scpartings fun cdv A outer s H E B => (dss_cons (ds_asg (de_new (dl_cat (de_frz (dl_lst (da_cons (de_new (dl_lst (da_cons (de_tup da_nil) da_nil))) da_nil))) (de_frz (dl_comp (ow := [("number", 3)]) rfl scpartings.nd (di_range1 Z.m_range (da_cons (de_var 0) da_nil)) (blkOk_by rfl) (fun _ _ _ _ _ => (dgo_name scpartings.nd)) (fun _ _ _ _ _ => dts_nil) (fun _ _ _ _ _ => (de_new (dl_lst da_nil))))))) (dg_name scpartings.nd))
  (dss_cons (ds_for B.own rfl (di_range2 Z.m_range (da_cons de_int (da_cons (de_op o_add (de_var 0) de_int) da_nil))) (dg_name scpartings.nd)
  (dss_one (ds_for B.own rfl (di_range2 Z.m_range (da_cons (de_var 2) (da_cons (de_op o_add (de_var 0) de_int) da_nil))) (dg_name scpartings.nd)
  (dss_one (ds_expr (de_ext (de_ix (de_var 1) (de_var 3)) (de_frz (dl_compM (ow := [("rest", 4)]) rfl scpartings.nd (de_ix (de_var 1) (de_op o_sub (de_var 3) (de_var 2))) (blkOk_by rfl) (fun _ _ _ _ _ => (dgo_name scpartings.nd)) (fun _ _ _ _ _ => dts_nil) (fun _ _ _ _ _ => (de_op o_catT (de_tup (da_cons (de_var 2) da_nil)) (de_var 4)))))))))))
  (dss_one (ds_ret (de_callT c_tuple Z.m_tuple (da_cons (de_frz (dl_callB (c_sorted B.hu) Z.m_sorted (da_cons (de_ix (de_var 1) (de_var 0)) da_nil))) da_nil)))))))
theorem ok_law_hand (Z : Tops K mg) : FnG P w K mg base 1 Z.a__law_hand Z.d__law_hand ["_law_script", "_law_k"] f_law_hand :=
  fn_ok Z.F__law_hand sc_law_hand fun cdv A outer s H E B => (dss_cons (ds_asg (de_if (dt_cmp o_lt (de_var 1) (de_callB c_len Z.m_len (da_cons (de_var 0) da_nil))) (de_ix (de_var 0) (de_var 1)) de_int) (dg_name sc_law_hand.nd))
  (dss_cons (ds_asg (de_op o_mul (de_op o_mod (de_var 2) (de_op o_mul (de_op o_pow de_int de_int) (de_op o_pow de_int de_int))) (de_callT c_int Z.m_int (da_cons (de_cmp o_ge (de_var 2) (de_op o_pow de_int de_int)) da_nil))) (dg_name sc_law_hand.nd))
  (dss_one (ds_ret (de_new (dl_lst (da_cons (de_var 3) (da_cons (de_op o_mod (de_op o_pow (de_op o_add (de_op o_add (de_op o_mod (de_var 2) de_int) (de_op o_mul (de_op o_mul de_int (de_var 1)) (de_var 1))) de_int) de_int) de_int) (da_cons de_int da_nil)))))))))
theorem ok_law_take (Z : Tops K mg) : FnG P w K mg base 1 Z.a__law_take Z.d__law_take ["_law_hand_here", "_law_many"] f_law_take :=
  exit_ok (fn_ok Z.F__law_take sc_law_take fun cdv A outer s H E B => (dss_cons (ds_if (dt_cmp o_gt (de_ix (de_var 0) de_int) de_int)
  (dss_cons (ds_asg (de_op o_mod (de_ix (de_var 0) de_int) (de_var 1)) (dg_name sc_law_take.nd))
  (dss_cons (ds_asg (de_op o_div (de_ix (de_var 0) de_int) (de_var 1)) (dg_sub (de_var 0) de_int))
  (dss_one (ds_ret (de_var 2)))))
  dss_nil)
  (dss_cons (ds_asg (de_op o_add (de_ix (de_var 0) de_int) de_int) (dg_sub (de_var 0) de_int))
  (dss_cons (ds_asg (de_op o_mod (de_op o_add (de_op o_add (de_op o_mul (de_ix (de_var 0) de_int) de_int) (de_op o_mul de_int (de_ix (de_var 0) de_int))) de_int) de_int) (dg_sub (de_var 0) de_int))
  (dss_one (ds_ret (de_op o_mod (de_op o_div (de_op o_add (de_op o_mod (de_op o_pow (de_ix (de_var 0) de_int) de_int) de_int) (de_op o_div (de_ix (de_var 0) de_int) de_int)) de_int) (de_var 1))))))))
theorem ok_law_one_right (Z : Tops K mg) : FnG P w K mg base 3 Z.a__law_one_right Z.d__law_one_right ["_law_parting", "_law_n"] f_law_one_right :=
  exit_ok (fn_ok Z.F__law_one_right sc_law_one_right fun cdv A outer s H E B => (dss_cons (ds_asg (de_call (okturned Z) (B.room.mono (by decide)) B.gd B.pass Z.g_turned Z.F_turned.kp Z.b_turned (da_cons (de_var 0) da_nil) (len_cons len_nil)) (dg_name sc_law_one_right.nd))
  (dss_cons (ds_asg (de_tup da_nil) (dg_name sc_law_one_right.nd))
  (dss_cons (ds_for B.own rfl (di_seq (de_call (oksizes Z) (B.room.mono (by decide)) B.gd B.pass Z.g_sizes Z.F_sizes.kp Z.b_sizes (da_cons (de_var 0) da_nil) (len_cons len_nil))) (dg_w (dg_tup rfl (dgs_cons (dg_name sc_law_one_right.nd) (dgs_cons (dg_name sc_law_one_right.nd) dgs_nil))))
  (dss_one (ds_asg (de_op o_catT (de_var 3) (de_op o_repT (de_tup (da_cons (de_var 4) da_nil)) (de_var 5))) (dg_name sc_law_one_right.nd))))
  (dss_cons (ds_if (dt_w (dw_or (dt_cmp o_notQ (de_call (okis_parting Z) (B.room.mono (by decide)) B.gd B.pass Z.g_is_parting Z.F_is_parting.kp Z.b_is_parting (da_cons (de_var 0) da_nil) (len_cons len_nil)) de_bl) (dw_or (dt_cmp (o_ne B.hu64) (de_call (okweight Z) (B.room.mono (by decide)) B.gd B.pass Z.g_weight Z.F_weight.kp Z.b_weight (da_cons (de_var 0) da_nil) (len_cons len_nil)) (de_var 1)) (dw_or (dt_cmp (o_ne B.hu64) (de_call (okweight Z) (B.room.mono (by decide)) B.gd B.pass Z.g_weight Z.F_weight.kp Z.b_weight (da_cons (de_var 2) da_nil) (len_cons len_nil)) (de_var 1)) (dw_or1 (dt_cmp (o_ne B.hu64) (de_var 3) (de_var 0)))))))
  (dss_one (ds_ret de_bl))
  dss_nil)
  (dss_cons (ds_if (dt_w (dw_or (dt_cmp (o_ne B.hu64) (de_call (okturned Z) (B.room.mono (by decide)) B.gd B.pass Z.g_turned Z.F_turned.kp Z.b_turned (da_cons (de_var 2) da_nil) (len_cons len_nil)) (de_var 0)) (dw_or1 (dt_cmp (o_ne B.hu64) (de_callB c_len Z.m_len (da_cons (de_var 2) da_nil)) (de_callB (c_maxS rfl) Z.m_max (da_cons (de_op o_catT (de_var 0) (de_tup (da_cons de_int da_nil))) da_nil))))))
  (dss_one (ds_ret de_bl))
  dss_nil)
  (dss_one (ds_ret (de_cmp (o_eq B.hu64) (de_callB c_len Z.m_len (da_cons (de_var 0) da_nil)) (de_callB (c_maxS rfl) Z.m_max (da_cons (de_op o_catT (de_var 2) (de_tup (da_cons de_int da_nil))) da_nil)))))))))))
theorem oklaw (Z : Tops K mg) : FnG P w K mg base 4 Z.a_law Z.d_law ["_law_script"] flaw :=
  exit_ok (fn_ok Z.F_law sclaw fun cdv A outer s H E B => (dss_cons (ds_for B.own rfl (di_range1 Z.m_range (da_cons (de_op o_add de_int (de_callB (c_min2 rfl) Z.m_min (da_cons de_int (da_cons (de_callB c_len Z.m_len (da_cons (de_var 0) da_nil)) da_nil)))) da_nil)) (dg_name sclaw.nd)
  (dss_cons (ds_asg (de_call (ok_law_hand Z) (B.room.mono (by decide)) B.gd B.pass Z.g__law_hand Z.F__law_hand.kp Z.b__law_hand (da_cons (de_var 0) (da_cons (de_var 1) da_nil)) (len_cons (len_cons len_nil))) (dg_name sclaw.nd))
  (dss_cons (ds_asg (de_call (ok_law_take Z) (B.room.mono (by decide)) B.gd B.pass Z.g__law_take Z.F__law_take.kp Z.b__law_take (da_cons (de_var 2) (da_cons (de_ix (de_frz (dl_lst (da_cons de_int (da_cons de_int (da_cons de_int (da_cons de_int (da_cons de_int (da_cons de_int da_nil)))))))) (de_call (ok_law_take Z) (B.room.mono (by decide)) B.gd B.pass Z.g__law_take Z.F__law_take.kp Z.b__law_take (da_cons (de_var 2) (da_cons de_int da_nil)) (len_cons (len_cons len_nil)))) da_nil)) (len_cons (len_cons len_nil))) (dg_name sclaw.nd))
  (dss_cons (ds_asg (de_call (okpartings Z) (B.room.mono (by decide)) B.gd B.pass Z.g_partings Z.F_partings.kp Z.b_partings (da_cons (de_var 3) da_nil) (len_cons len_nil)) (dg_name sclaw.nd))
  (dss_cons (ds_if (dt_w (dw_or (dt_not (dt_bl (de_callB (c_all rfl) Z.m_all (da_cons (de_frz (dl_comp (ow := [("_law_parting", 7)]) rfl sclaw.nd (di_seq (de_var 4)) (blkOk_by rfl) (fun _ _ _ _ _ => (dgo_name sclaw.nd)) (fun _ _ _ _ _ => dts_nil) (fun _ _ _ _ _ => (de_call (ok_law_one_right Z) (B.room.mono (by decide)) B.gd passX0 Z.g__law_one_right Z.F__law_one_right.kp Z.b__law_one_right (da_cons (de_var 7) (da_cons (de_var 3) da_nil)) (len_cons (len_cons len_nil)))))) da_nil)))) (dw_or1 (dt_cmp (o_ne B.hu64) (de_frz (dl_callT c_list Z.m_list (da_cons (de_var 4) da_nil))) (de_frz (dl_sortN B.hu Z.m_sorted Z.m_set (de_var 4)))))))
  (dss_one (ds_ret de_bl))
  dss_nil)
  (dss_cons (ds_if (dt_cmp (o_ne B.hu64) (de_frz (dl_callB (c_sorted B.hu) Z.m_sorted (da_cons (de_frz (dl_comp (ow := [("_law_parting", 7)]) rfl sclaw.nd (di_seq (de_var 4)) (blkOk_by rfl) (fun _ _ _ _ _ => (dgo_name sclaw.nd)) (fun _ _ _ _ _ => dts_nil) (fun _ _ _ _ _ => (de_call (okturned Z) (B.room.mono (by decide)) B.gd passX0 Z.g_turned Z.F_turned.kp Z.b_turned (da_cons (de_var 7) da_nil) (len_cons len_nil))))) da_nil))) (de_frz (dl_callT c_list Z.m_list (da_cons (de_var 4) da_nil))))
  (dss_one (ds_ret de_bl))
  dss_nil)
  (dss_one (ds_for B.own rfl (di_zip Z.m_zip (da_cons (de_var 4) (da_cons (de_cut (de_var 4) (do_some de_int) do_none) da_nil))) (dg_tup rfl (dgs_cons (dg_name sclaw.nd) (dgs_cons (dg_name sclaw.nd) dgs_nil)))
  (dss_one (ds_if (dt_w (dw_or (dt_cmp (o_ne B.hu64) (de_call (okless Z) (B.room.mono (by decide)) B.gd B.pass Z.g_less Z.F_less.kp Z.b_less (da_cons (de_call (okboth Z) (B.room.mono (by decide)) B.gd B.pass Z.g_both Z.F_both.kp Z.b_both (da_cons (de_var 5) (da_cons (de_var 6) da_nil)) (len_cons (len_cons len_nil))) (da_cons (de_var 6) da_nil)) (len_cons (len_cons len_nil))) (de_var 5)) (dw_or (dt_cmp o_notN (de_call (okless Z) (B.room.mono (by decide)) B.gd B.pass Z.g_less Z.F_less.kp Z.b_less (da_cons (de_var 5) (da_cons (de_var 6) da_nil)) (len_cons (len_cons len_nil))) de_non) (dw_or1 (dt_cmp (o_ne B.hu64) (de_call (okweight Z) (B.room.mono (by decide)) B.gd B.pass Z.g_weight Z.F_weight.kp Z.b_weight (da_cons (de_call (okboth Z) (B.room.mono (by decide)) B.gd B.pass Z.g_both Z.F_both.kp Z.b_both (da_cons (de_var 5) (da_cons (de_var 6) da_nil)) (len_cons (len_cons len_nil))) da_nil) (len_cons len_nil)) (de_op o_mul de_int (de_var 3)))))))
  (dss_one (ds_ret de_bl))
  dss_nil))))))))))
  (dss_one (ds_ret de_bl))))
end
theorem lz1 {P : List Value → Prop} (h : ∀ a0, P [a0]) : ∀ us : List Value, us.length = 1 → P us
  | [a0], _ => h a0
theorem lz2 {P : List Value → Prop} (h : ∀ a0 a1, P [a0, a1]) : ∀ us : List Value, us.length = 2 → P us
  | [a0, a1], _ => h a0 a1
theorem all_mk {l : PySem.W.OpenLaw} {w : World} {K : PySem.W.Frag} {h : Heap} {mg : Str → Option Value} {fa f0 f1 f2 f3 f4 f5 f6 f7 f8 f9 f10 f11 : Addr} (X : K.In h) (G : h.Ns mainGlobals mg) (hfa : mg "law" = some (.ref fa))
    {od0 an0 od1 an1 od2 an2 od3 an3 od4 an4 od5 an5 od6 an6 od7 an7 od8 an8 od9 an9 od10 an10 od11 an11 : Option Addr} {sl0 sl1 sl2 sl3 sl4 sl5 sl6 sl7 sl8 sl9 sl10 sl11 : Array (Option Value)} {oc0 kV0 dc0 pm0 cd0 ct0 oc1 kV1 dc1 pm1 cd1 ct1 oc2 kV2 dc2 pm2 cd2 ct2 oc3 kV3 dc3 pm3 cd3 ct3 oc4 kV4 dc4 pm4 cd4 ct4 oc5 kV5 dc5 pm5 cd5 ct5 oc6 kV6 dc6 pm6 cd6 ct6 oc7 kV7 dc7 pm7 cd7 ct7 oc8 kV8 dc8 pm8 cd8 ct8 oc9 kV9 dc9 pm9 cd9 ct9 oc10 kV10 dc10 pm10 cd10 ct10 oc11 kV11 dc11 pm11 cd11 ct11 : Value}
    (a0 : PySem.W.nsIn K mainGlobals "is_whole" = some (some (.ref f0))) (l0 : K.lookup f0 = some ⟨oc0, od0, .func (PySem.W.fnOf "is_whole" "is_whole" (defArgs sis_whole) (defBody sis_whole) (defScope sis_whole) .none kV0 dc0 pm0 an0 cd0 ct0), sl0⟩) (c0 : PySem.W.codeIn K cd0 "is_whole" = true) (k0 : PySem.W.keepIn K (.ref f0) = true)
    (a1 : PySem.W.nsIn K mainGlobals "is_parting" = some (some (.ref f1))) (l1 : K.lookup f1 = some ⟨oc1, od1, .func (PySem.W.fnOf "is_parting" "is_parting" (defArgs sis_parting) (defBody sis_parting) (defScope sis_parting) .none kV1 dc1 pm1 an1 cd1 ct1), sl1⟩) (c1 : PySem.W.codeIn K cd1 "is_parting" = true) (k1 : PySem.W.keepIn K (.ref f1) = true)
    (a2 : PySem.W.nsIn K mainGlobals "weight" = some (some (.ref f2))) (l2 : K.lookup f2 = some ⟨oc2, od2, .func (PySem.W.fnOf "weight" "weight" (defArgs sweight) (defBody sweight) (defScope sweight) .none kV2 dc2 pm2 an2 cd2 ct2), sl2⟩) (c2 : PySem.W.codeIn K cd2 "weight" = true) (k2 : PySem.W.keepIn K (.ref f2) = true)
    (a3 : PySem.W.nsIn K mainGlobals "turned" = some (some (.ref f3))) (l3 : K.lookup f3 = some ⟨oc3, od3, .func (PySem.W.fnOf "turned" "turned" (defArgs sturned) (defBody sturned) (defScope sturned) .none kV3 dc3 pm3 an3 cd3 ct3), sl3⟩) (c3 : PySem.W.codeIn K cd3 "turned" = true) (k3 : PySem.W.keepIn K (.ref f3) = true)
    (a4 : PySem.W.nsIn K mainGlobals "sizes" = some (some (.ref f4))) (l4 : K.lookup f4 = some ⟨oc4, od4, .func (PySem.W.fnOf "sizes" "sizes" (defArgs ssizes) (defBody ssizes) (defScope ssizes) .none kV4 dc4 pm4 an4 cd4 ct4), sl4⟩) (c4 : PySem.W.codeIn K cd4 "sizes" = true) (k4 : PySem.W.keepIn K (.ref f4) = true)
    (a5 : PySem.W.nsIn K mainGlobals "both" = some (some (.ref f5))) (l5 : K.lookup f5 = some ⟨oc5, od5, .func (PySem.W.fnOf "both" "both" (defArgs sboth) (defBody sboth) (defScope sboth) .none kV5 dc5 pm5 an5 cd5 ct5), sl5⟩) (c5 : PySem.W.codeIn K cd5 "both" = true) (k5 : PySem.W.keepIn K (.ref f5) = true)
    (a6 : PySem.W.nsIn K mainGlobals "less" = some (some (.ref f6))) (l6 : K.lookup f6 = some ⟨oc6, od6, .func (PySem.W.fnOf "less" "less" (defArgs sless) (defBody sless) (defScope sless) .none kV6 dc6 pm6 an6 cd6 ct6), sl6⟩) (c6 : PySem.W.codeIn K cd6 "less" = true) (k6 : PySem.W.keepIn K (.ref f6) = true)
    (a7 : PySem.W.nsIn K mainGlobals "partings" = some (some (.ref f7))) (l7 : K.lookup f7 = some ⟨oc7, od7, .func (PySem.W.fnOf "partings" "partings" (defArgs spartings) (defBody spartings) (defScope spartings) .none kV7 dc7 pm7 an7 cd7 ct7), sl7⟩) (c7 : PySem.W.codeIn K cd7 "partings" = true) (k7 : PySem.W.keepIn K (.ref f7) = true)
    (a8 : PySem.W.nsIn K mainGlobals "_law_hand" = some (some (.ref f8))) (l8 : K.lookup f8 = some ⟨oc8, od8, .func (PySem.W.fnOf "_law_hand" "_law_hand" (defArgs s_law_hand) (defBody s_law_hand) (defScope s_law_hand) .none kV8 dc8 pm8 an8 cd8 ct8), sl8⟩) (c8 : PySem.W.codeIn K cd8 "_law_hand" = true) (k8 : PySem.W.keepIn K (.ref f8) = true)
    (a9 : PySem.W.nsIn K mainGlobals "_law_take" = some (some (.ref f9))) (l9 : K.lookup f9 = some ⟨oc9, od9, .func (PySem.W.fnOf "_law_take" "_law_take" (defArgs s_law_take) (defBody s_law_take) (defScope s_law_take) .none kV9 dc9 pm9 an9 cd9 ct9), sl9⟩) (c9 : PySem.W.codeIn K cd9 "_law_take" = true) (k9 : PySem.W.keepIn K (.ref f9) = true)
    (a10 : PySem.W.nsIn K mainGlobals "_law_one_right" = some (some (.ref f10))) (l10 : K.lookup f10 = some ⟨oc10, od10, .func (PySem.W.fnOf "_law_one_right" "_law_one_right" (defArgs s_law_one_right) (defBody s_law_one_right) (defScope s_law_one_right) .none kV10 dc10 pm10 an10 cd10 ct10), sl10⟩) (c10 : PySem.W.codeIn K cd10 "_law_one_right" = true) (k10 : PySem.W.keepIn K (.ref f10) = true)
    (a11 : PySem.W.nsIn K mainGlobals "law" = some (some (.ref f11))) (l11 : K.lookup f11 = some ⟨oc11, od11, .func (PySem.W.fnOf "law" "law" (defArgs slaw) (defBody slaw) (defScope slaw) .none kV11 dc11 pm11 an11 cd11 ct11), sl11⟩) (c11 : PySem.W.codeIn K cd11 "law" = true) (k11 : PySem.W.keepIn K (.ref f11) = true)
    (z_isinstance : PySem.W.nsIn K mainGlobals "isinstance" = some none)
    (z_int : PySem.W.nsIn K mainGlobals "int" = some none)
    (z_bool : PySem.W.nsIn K mainGlobals "bool" = some none)
    (z_all : PySem.W.nsIn K mainGlobals "all" = some none)
    (z_tuple : PySem.W.nsIn K mainGlobals "tuple" = some none)
    (z_zip : PySem.W.nsIn K mainGlobals "zip" = some none)
    (z_sum : PySem.W.nsIn K mainGlobals "sum" = some none)
    (z_len : PySem.W.nsIn K mainGlobals "len" = some none)
    (z_range : PySem.W.nsIn K mainGlobals "range" = some none)
    (z_sorted : PySem.W.nsIn K mainGlobals "sorted" = some none)
    (z_list : PySem.W.nsIn K mainGlobals "list" = some none)
    (z_max : PySem.W.nsIn K mainGlobals "max" = some none)
    (z_min : PySem.W.nsIn K mainGlobals "min" = some none)
    (z_set : PySem.W.nsIn K mainGlobals "set" = some none)
    : ∃ fd : FuncData, (∀ (s : Shared) (v : Value), BindsTo s fd ⟨[v], []⟩ [("_law_script", v)]) ∧ ∀ base : Heap, K.In base → base.Ns mainGlobals mg → FnG l.prog w K mg base 4 fa fd ["_law_script"] flaw := by
  have e := hfa.symm.trans (PySem.W.mg_of X G a11)
  cases e
  have F0 := fun_mk (st := sis_whole) l0 c0 k0
  have F1 := fun_mk (st := sis_parting) l1 c1 k1
  have F2 := fun_mk (st := sweight) l2 c2 k2
  have F3 := fun_mk (st := sturned) l3 c3 k3
  have F4 := fun_mk (st := ssizes) l4 c4 k4
  have F5 := fun_mk (st := sboth) l5 c5 k5
  have F6 := fun_mk (st := sless) l6 c6 k6
  have F7 := fun_mk (st := spartings) l7 c7 k7
  have F8 := fun_mk (st := s_law_hand) l8 c8 k8
  have F9 := fun_mk (st := s_law_take) l9 c9 k9
  have F10 := fun_mk (st := s_law_one_right) l10 c10 k10
  have F11 := fun_mk (st := slaw) l11 c11 k11
  exact ⟨_, fun s v => .of_eq rfl, fun base _ _ => oklaw (Z := {
    a_is_whole := _, d_is_whole := _, F_is_whole := F0, g_is_whole := PySem.W.mg_of X G a0, b_is_whole := F0.binds (ps := ["thing"]) fun _ _ _ _ _ _ us hl => by revert us hl; refine lz1 ?_; intros; rfl,
    a_is_parting := _, d_is_parting := _, F_is_parting := F1, g_is_parting := PySem.W.mg_of X G a1, b_is_parting := F1.binds (ps := ["thing"]) fun _ _ _ _ _ _ us hl => by revert us hl; refine lz1 ?_; intros; rfl,
    a_weight := _, d_weight := _, F_weight := F2, g_weight := PySem.W.mg_of X G a2, b_weight := F2.binds (ps := ["parting"]) fun _ _ _ _ _ _ us hl => by revert us hl; refine lz1 ?_; intros; rfl,
    a_turned := _, d_turned := _, F_turned := F3, g_turned := PySem.W.mg_of X G a3, b_turned := F3.binds (ps := ["parting"]) fun _ _ _ _ _ _ us hl => by revert us hl; refine lz1 ?_; intros; rfl,
    a_sizes := _, d_sizes := _, F_sizes := F4, g_sizes := PySem.W.mg_of X G a4, b_sizes := F4.binds (ps := ["parting"]) fun _ _ _ _ _ _ us hl => by revert us hl; refine lz1 ?_; intros; rfl,
    a_both := _, d_both := _, F_both := F5, g_both := PySem.W.mg_of X G a5, b_both := F5.binds (ps := ["one", "other"]) fun _ _ _ _ _ _ us hl => by revert us hl; refine lz2 ?_; intros; rfl,
    a_less := _, d_less := _, F_less := F6, g_less := PySem.W.mg_of X G a6, b_less := F6.binds (ps := ["one", "other"]) fun _ _ _ _ _ _ us hl => by revert us hl; refine lz2 ?_; intros; rfl,
    a_partings := _, d_partings := _, F_partings := F7, g_partings := PySem.W.mg_of X G a7, b_partings := F7.binds (ps := ["n"]) fun _ _ _ _ _ _ us hl => by revert us hl; refine lz1 ?_; intros; rfl,
    a__law_hand := _, d__law_hand := _, F__law_hand := F8, g__law_hand := PySem.W.mg_of X G a8, b__law_hand := F8.binds (ps := ["_law_script", "_law_k"]) fun _ _ _ _ _ _ us hl => by revert us hl; refine lz2 ?_; intros; rfl,
    a__law_take := _, d__law_take := _, F__law_take := F9, g__law_take := PySem.W.mg_of X G a9, b__law_take := F9.binds (ps := ["_law_hand_here", "_law_many"]) fun _ _ _ _ _ _ us hl => by revert us hl; refine lz2 ?_; intros; rfl,
    a__law_one_right := _, d__law_one_right := _, F__law_one_right := F10, g__law_one_right := PySem.W.mg_of X G a10, b__law_one_right := F10.binds (ps := ["_law_parting", "_law_n"]) fun _ _ _ _ _ _ us hl => by revert us hl; refine lz2 ?_; intros; rfl,
    a_law := _, d_law := _, F_law := F11, g_law := PySem.W.mg_of X G a11, b_law := F11.binds (ps := ["_law_script"]) fun _ _ _ _ _ _ us hl => by revert us hl; refine lz1 ?_; intros; rfl,
    m_isinstance := PySem.W.mg_none_of X G z_isinstance,
    m_int := PySem.W.mg_none_of X G z_int,
    m_bool := PySem.W.mg_none_of X G z_bool,
    m_all := PySem.W.mg_none_of X G z_all,
    m_tuple := PySem.W.mg_none_of X G z_tuple,
    m_zip := PySem.W.mg_none_of X G z_zip,
    m_sum := PySem.W.mg_none_of X G z_sum,
    m_len := PySem.W.mg_none_of X G z_len,
    m_range := PySem.W.mg_none_of X G z_range,
    m_sorted := PySem.W.mg_none_of X G z_sorted,
    m_list := PySem.W.mg_none_of X G z_list,
    m_max := PySem.W.mg_none_of X G z_max,
    m_min := PySem.W.mg_none_of X G z_min,
    m_set := PySem.W.mg_none_of X G z_set })⟩
end Lk06
namespace Lk06
open PySem PySem.Spec PyProof.Rows L2 Vi
theorem all_hd {l : PySem.W.OpenLaw} {w : World} {K : PySem.W.Frag} {h : Heap} {mg : Str → Option Value} {fa : Addr} (X : K.In h) (G : h.Ns mainGlobals mg) (hfa : mg "law" = some (.ref fa)) (c : SaysH hdFa hdFn hdTs hdBs w K)
    : ∃ fd : FuncData, (∀ (s : Shared) (v : Value), BindsTo s fd ⟨[v], []⟩ [("_law_script", v)]) ∧ ∀ base : Heap, K.In base → base.Ns mainGlobals mg → FnG l.prog w K mg base 4 fa fd ["_law_script"] flaw := by
  obtain ⟨oc0, od0, sl0, kV0, dc0, pm0, an0, cd0, ct0, l0, c0, k0⟩ := c.f 0 (st := sis_whole) rfl
  obtain ⟨oc1, od1, sl1, kV1, dc1, pm1, an1, cd1, ct1, l1, c1, k1⟩ := c.f 1 (st := sis_parting) rfl
  obtain ⟨oc2, od2, sl2, kV2, dc2, pm2, an2, cd2, ct2, l2, c2, k2⟩ := c.f 2 (st := sweight) rfl
  obtain ⟨oc3, od3, sl3, kV3, dc3, pm3, an3, cd3, ct3, l3, c3, k3⟩ := c.f 3 (st := sturned) rfl
  obtain ⟨oc4, od4, sl4, kV4, dc4, pm4, an4, cd4, ct4, l4, c4, k4⟩ := c.f 4 (st := ssizes) rfl
  obtain ⟨oc5, od5, sl5, kV5, dc5, pm5, an5, cd5, ct5, l5, c5, k5⟩ := c.f 5 (st := sboth) rfl
  obtain ⟨oc6, od6, sl6, kV6, dc6, pm6, an6, cd6, ct6, l6, c6, k6⟩ := c.f 6 (st := sless) rfl
  obtain ⟨oc7, od7, sl7, kV7, dc7, pm7, an7, cd7, ct7, l7, c7, k7⟩ := c.f 7 (st := spartings) rfl
  obtain ⟨oc8, od8, sl8, kV8, dc8, pm8, an8, cd8, ct8, l8, c8, k8⟩ := c.f 8 (st := s_law_hand) rfl
  obtain ⟨oc9, od9, sl9, kV9, dc9, pm9, an9, cd9, ct9, l9, c9, k9⟩ := c.f 9 (st := s_law_take) rfl
  obtain ⟨oc10, od10, sl10, kV10, dc10, pm10, an10, cd10, ct10, l10, c10, k10⟩ := c.f 10 (st := s_law_one_right) rfl
  obtain ⟨oc11, od11, sl11, kV11, dc11, pm11, an11, cd11, ct11, l11, c11, k11⟩ := c.f 11 (st := slaw) rfl
  exact all_mk (f0 := (He.fAd K ("is_whole", none))) (f1 := (He.fAd K ("is_parting", none))) (f2 := (He.fAd K ("weight", none))) (f3 := (He.fAd K ("turned", none))) (f4 := (He.fAd K ("sizes", none))) (f5 := (He.fAd K ("both", none))) (f6 := (He.fAd K ("less", none))) (f7 := (He.fAd K ("partings", none))) (f8 := (He.fAd K ("_law_hand", none))) (f9 := (He.fAd K ("_law_take", none))) (f10 := (He.fAd K ("_law_one_right", none))) (f11 := (He.fAd K ("law", none))) X G hfa (c.b 0 rfl rfl) l0 c0 k0 (c.b 1 rfl rfl) l1 c1 k1 (c.b 2 rfl rfl) l2 c2 k2 (c.b 3 rfl rfl) l3 c3 k3 (c.b 4 rfl rfl) l4 c4 k4 (c.b 5 rfl rfl) l5 c5 k5 (c.b 6 rfl rfl) l6 c6 k6 (c.b 7 rfl rfl) l7 c7 k7 (c.b 8 rfl rfl) l8 c8 k8 (c.b 9 rfl rfl) l9 c9 k9 (c.b 10 rfl rfl) l10 c10 k10 (c.b 11 rfl rfl) l11 c11 k11 (c.b 12 rfl rfl) (c.b 13 rfl rfl) (c.b 14 rfl rfl) (c.b 15 rfl rfl) (c.b 16 rfl rfl) (c.b 17 rfl rfl) (c.b 18 rfl rfl) (c.b 19 rfl rfl) (c.b 20 rfl rfl) (c.b 21 rfl rfl) (c.b 22 rfl rfl) (c.b 23 rfl rfl) (c.b 24 rfl rfl) (c.b 25 rfl rfl)
end Lk06
namespace Vi
open PySem PySem.Spec PyProof.Rows L2
inductive T where
  | lst (xs : List D) | lls (ts : List T) | dic (kvs : List (Key × D)) | dct (kvs : List (List Key × D)) | leaf (d : D)
mutual
inductive Has (m : M) : List Nat → D → T → Prop
  | lst {n : Nat} {xs : List D} : m[n]? = some (.lst xs) → noRefs xs = true → Has m [n] (.ref n) (.lst xs)
  | dic {n : Nat} {xs : List (Key × D)} : m[n]? = some (.dic xs) → noKV xs = true → Has m [n] (.ref n) (.dic xs)
  | dct {n : Nat} {xs : List (List Key × D)} : m[n]? = some (.dct xs) → noKV xs = true → Has m [n] (.ref n) (.dct xs)
  | leaf {d : D} : noRef d = true → Has m [] d (.leaf d)
  | lls {n : Nat} {ds : List D} {A : List Nat} {ts : List T} : m[n]? = some (.lst ds) → HasL m A ds ts → n ∉ A → Has m (n :: A) (.ref n) (.lls ts)
inductive HasL (m : M) : List Nat → List D → List T → Prop
  | nil : HasL m [] [] []
  | cons {A B : List Nat} {d : D} {ds : List D} {t : T} {ts : List T} : Has m A d t → HasL m B ds ts → (∀ a ∈ A, a ∉ B) → HasL m (A ++ B) (d :: ds) (t :: ts)
end
mutual
theorem Has.frame {m m' : M} : ∀ {A : List Nat} {d : D} {t : T}, Has m A d t → (∀ a ∈ A, m'[a]? = m[a]?) → Has m' A d t
  | _, _, _, .lst h n, f => .lst (by rw [f _ (List.mem_singleton.mpr rfl)]; exact h) n
  | _, _, _, .dic h n, f => .dic (by rw [f _ (List.mem_singleton.mpr rfl)]; exact h) n
  | _, _, _, .dct h n, f => .dct (by rw [f _ (List.mem_singleton.mpr rfl)]; exact h) n
  | _, _, _, .leaf h, _ => .leaf h
  | _, _, _, .lls h l n, f => .lls (by rw [f _ (List.mem_cons_self ..)]; exact h) (HasL.frame l fun a ha => f a (List.mem_cons_of_mem _ ha)) n
theorem HasL.frame {m m' : M} : ∀ {A : List Nat} {ds : List D} {ts : List T}, HasL m A ds ts → (∀ a ∈ A, m'[a]? = m[a]?) → HasL m' A ds ts
  | _, _, _, .nil, _ => .nil
  | _, _, _, .cons h l n, f => .cons (Has.frame h fun a ha => f a (List.mem_append_left _ ha)) (HasL.frame l fun a ha => f a (List.mem_append_right _ ha)) n
end
mutual
theorem Has.lt {m : M} : ∀ {A : List Nat} {d : D} {t : T}, Has m A d t → ∀ a ∈ A, a < m.length
  | _, _, _, .lst h _, a, ha => by rw [List.mem_singleton.mp ha]; exact (List.getElem?_eq_some_iff.mp h).1
  | _, _, _, .dic h _, a, ha => by rw [List.mem_singleton.mp ha]; exact (List.getElem?_eq_some_iff.mp h).1
  | _, _, _, .dct h _, a, ha => by rw [List.mem_singleton.mp ha]; exact (List.getElem?_eq_some_iff.mp h).1
  | _, _, _, .leaf _, a, ha => by cases ha
  | _, _, _, .lls h l _, a, ha => by
    rcases List.mem_cons.mp ha with e | e
    · rw [e]; exact (List.getElem?_eq_some_iff.mp h).1
    · exact HasL.lt l a e
theorem HasL.lt {m : M} : ∀ {A : List Nat} {ds : List D} {ts : List T}, HasL m A ds ts → ∀ a ∈ A, a < m.length
  | _, _, _, .nil, _, ha => by cases ha
  | _, _, _, .cons h l _, a, ha => by
    rcases List.mem_append.mp ha with e | e
    · exact Has.lt h a e
    · exact HasL.lt l a e
end
mutual
theorem Has.low {m : M} {n : Nat} : ∀ {A : List Nat} {d : D} {t : T}, Has m A d t → (∀ a ∈ A, a < n) → lowD n d = true ∧ ∀ a ∈ A, ∀ c, m[a]? = some c → lowC n c = true
  | _, _, _, .lst h hx, hA => ⟨by simpa [lowD] using hA _ (List.mem_singleton.mpr rfl), fun a ha c hc => by
    rw [List.mem_singleton.mp ha, h] at hc; cases hc; exact lows_no hx⟩
  | _, _, _, .dic h hx, hA => ⟨by simpa [lowD] using hA _ (List.mem_singleton.mpr rfl), fun a ha c hc => by
    rw [List.mem_singleton.mp ha, h] at hc; cases hc; exact hx⟩
  | _, _, _, .dct h hx, hA => ⟨by simpa [lowD] using hA _ (List.mem_singleton.mpr rfl), fun a ha c hc => by
    rw [List.mem_singleton.mp ha, h] at hc; cases hc; exact hx⟩
  | _, _, _, .leaf h, _ => ⟨low_no h, fun a ha => by cases ha⟩
  | _, _, _, .lls h l _, hA => by
    obtain ⟨q1, q2⟩ := HasL.low l fun a ha => hA a (List.mem_cons_of_mem _ ha)
    refine ⟨by simpa [lowD] using hA _ (List.mem_cons_self ..), fun a ha c hc => ?_⟩
    rcases List.mem_cons.mp ha with e | e
    · rw [e, h] at hc; cases hc; exact q1
    · exact q2 a e c hc
theorem HasL.low {m : M} {n : Nat} : ∀ {A : List Nat} {ds : List D} {ts : List T}, HasL m A ds ts → (∀ a ∈ A, a < n) → lowDs n ds = true ∧ ∀ a ∈ A, ∀ c, m[a]? = some c → lowC n c = true
  | _, _, _, .nil, _ => ⟨rfl, fun a ha => by cases ha⟩
  | _, _, _, .cons h l _, hA => by
    obtain ⟨p1, p2⟩ := Has.low h fun a ha => hA a (List.mem_append_left _ ha)
    obtain ⟨q1, q2⟩ := HasL.low l fun a ha => hA a (List.mem_append_right _ ha)
    refine ⟨by simp only [lowDs, p1, q1, Bool.and_self], fun a ha c hc => ?_⟩
    rcases List.mem_append.mp ha with e | e
    · exact p2 a e c hc
    · exact q2 a e c hc
end
inductive S where
  | v (d : D) | o (t : T) | p (k : Nat) (t : T)
abbrev Ga := List (Option S)
def lk : Ga → Nat → Option S
  | [], _ => none
  | x :: _, 0 => x
  | _ :: r, n + 1 => lk r n
def put : Ga → Nat → Option S → Ga
  | [], _, _ => []
  | _ :: r, 0, s => s :: r
  | x :: r, n + 1, s => x :: put r n s
theorem lk_put_ne : ∀ {Γ : Ga} {i j : Nat} {s : Option S}, i ≠ j → lk (put Γ i s) j = lk Γ j
  | [], _, _, _, _ => rfl
  | _ :: _, 0, 0, _, h => absurd rfl h
  | _ :: _, 0, _ + 1, _, _ => rfl
  | _ :: _, _ + 1, 0, _, _ => rfl
  | _ :: r, i + 1, j + 1, s, h => lk_put_ne (Γ := r) fun e => h (by rw [e])
theorem lk_put_eq : ∀ {Γ : Ga} {i : Nat} {s : Option S} {x : S}, lk (put Γ i s) i = some x → s = some x ∧ i < Γ.length
  | [], _, _, _, h => by cases h
  | _ :: _, 0, _, _, h => ⟨h, Nat.succ_pos _⟩
  | _ :: r, i + 1, s, x, h => by
    obtain ⟨a, b⟩ := lk_put_eq (Γ := r) (i := i) h
    exact ⟨a, Nat.succ_lt_succ b⟩
theorem put_len : ∀ (Γ : Ga) (i : Nat) (s : Option S), (put Γ i s).length = Γ.length
  | [], _, _ => rfl
  | _ :: _, 0, _ => rfl
  | _ :: r, i + 1, s => by simp [put, put_len r i s]
theorem lk_lt : ∀ {Γ : Ga} {i : Nat} {x : S}, lk Γ i = some x → i < Γ.length
  | [], _, _, h => by cases h
  | _ :: _, 0, _, _ => Nat.succ_pos _
  | _ :: r, i + 1, x, h => Nat.succ_lt_succ (lk_lt (Γ := r) h)
abbrev Ps := List (List Nat × D)
structure PD (b : M) (P : Ps) : Prop where
  lt : ∀ (k : Nat) (A : List Nat) (d : D), P[k]? = some (A, d) → ∀ a ∈ A, a < b.length
  dj : ∀ (k l : Nat) (A B : List Nat) (d e : D), k ≠ l → P[k]? = some (A, d) → P[l]? = some (B, e) → ∀ a ∈ A, a ∉ B
structure Fr (b : M) (P : Ps) (m : M) : Prop where
  len : b.length ≤ m.length
  old : ∀ (j : Nat) (c : Cell), j < b.length → m[j]? = some c → b[j]? = some c ∨ (∃ (k : Nat) (A : List Nat) (d : D), P[k]? = some (A, d) ∧ j ∈ A) ∧ lowC b.length c = true
structure Rel (b : M) (P : Ps) (Γ : Ga) (ρ : En) (m : M) : Prop where
  len : ρ.length = Γ.length
  v : ∀ (i : Nat) (d : D), lk Γ i = some (.v d) → ρ[i]? = some (some d) ∧ noRef d = true
  o : ∃ As : Nat → List Nat, (∀ (i : Nat) (t : T), lk Γ i = some (.o t) → ∃ d : D, ρ[i]? = some (some d) ∧ Has m (As i) d t ∧ ∀ a ∈ As i, b.length ≤ a) ∧
    ∀ (i j : Nat) (t u : T), i ≠ j → lk Γ i = some (.o t) → lk Γ j = some (.o u) → ∀ a ∈ As i, a ∉ As j
  p : ∀ (i k : Nat) (t : T), lk Γ i = some (.p k t) → ∃ (A : List Nat) (d : D), P[k]? = some (A, d) ∧ ρ[i]? = some (some d) ∧ Has m A d t
  pi : ∀ (i j k : Nat) (t u : T), lk Γ i = some (.p k t) → lk Γ j = some (.p k u) → i = j
  fr : Fr b P m
  pd : PD b P
section
variable {b : M} {P : Ps} {Γ Γ' : Ga} {ρ : En} {m m' : M}
theorem set_get {ρ : En} {i j : Nat} {x : Option D} (h : i ≠ j) : (ρ.set i x)[j]? = ρ[j]? := List.getElem?_set_ne h
theorem Rel.put_v (r : Rel b P Γ ρ m) (i : Nat) {d : D} (hd : noRef d = true) : Rel b P (put Γ i (some (.v d))) (ρ.set i (some d)) m := by
  obtain ⟨As, h1, h2⟩ := r.o
  refine ⟨by rw [List.length_set, put_len, r.len], fun j e h => ?_, ⟨As, fun j t h => ?_, fun j k t u hn h h' => ?_⟩, fun j k t h => ?_, fun j l k t u h h' => ?_, r.fr, r.pd⟩
  all_goals by_cases hj : i = j
  all_goals try subst hj
  · obtain ⟨q, hl⟩ := lk_put_eq h
    cases q
    exact ⟨List.getElem?_set_self (by rw [r.len]; exact hl), hd⟩
  · rw [lk_put_ne hj] at h
    rw [set_get hj]; exact r.v j e h
  · have := (lk_put_eq h).1; cases this
  · rw [lk_put_ne hj] at h
    rw [set_get hj]; exact h1 j t h
  · have := (lk_put_eq h).1; cases this
  · rw [lk_put_ne hj] at h
    by_cases hk : i = k
    · subst hk; have := (lk_put_eq h').1; cases this
    · rw [lk_put_ne hk] at h'; exact h2 j k t u hn h h'
  · have := (lk_put_eq h).1; cases this
  · rw [lk_put_ne hj] at h
    rw [set_get hj]; exact r.p j k t h
  · have := (lk_put_eq h).1; cases this
  · rw [lk_put_ne hj] at h
    by_cases hk : i = l
    · subst hk; have := (lk_put_eq h').1; cases this
    · rw [lk_put_ne hk] at h'; exact r.pi j l k t u h h'
theorem Rel.put_o (r : Rel b P Γ ρ m) (i : Nat) {m' : M} {A : List Nat} {d : D} {t : T} (hl : m.length ≤ m'.length) (hs : ∀ j, j < m.length → m'[j]? = m[j]?) (h : Has m' A d t) (hA : ∀ a ∈ A, m.length ≤ a) :
    Rel b P (put Γ i (some (.o t))) (ρ.set i (some d)) m' := by
  obtain ⟨As, h1, h2⟩ := r.o
  refine ⟨by rw [List.length_set, put_len, r.len], fun j e h => ?_, ⟨fun j => if j = i then A else As j, fun j t h => ?_, fun j k t u hn h h' => ?_⟩, fun j k t h => ?_, fun j l k t u h h' => ?_, ⟨Nat.le_trans r.fr.len hl, fun j c hj hc => ?_⟩, r.pd⟩
  · by_cases hj : i = j
    · subst hj; have := (lk_put_eq h).1; cases this
    · rw [lk_put_ne hj] at h
      rw [set_get hj]; exact r.v j e h
  · by_cases hj : i = j
    · subst hj
      obtain ⟨q, hl'⟩ := lk_put_eq h
      cases q
      exact ⟨d, List.getElem?_set_self (by rw [r.len]; exact hl'), by simpa using ‹Has m' A d t›, by simp only [if_true]; exact fun a ha => Nat.le_trans r.fr.len (hA a ha)⟩
    · rw [lk_put_ne hj] at h
      obtain ⟨e, q1, q2, q3⟩ := h1 j t h
      simp only [if_neg (Ne.symm hj)]
      exact ⟨e, by rw [set_get hj]; exact q1, q2.frame fun a ha => hs a (q2.lt a ha), q3⟩
  · by_cases hj : i = j
    · subst hj
      rw [lk_put_ne hn] at h'
      obtain ⟨e, q1, q2, q3⟩ := h1 k u h'
      simp only [if_true, if_neg (Ne.symm hn)]
      intro a ha hk
      have := q2.lt a hk
      have := hA a ha
      omega
    · rw [lk_put_ne hj] at h
      by_cases hk : i = k
      · subst hk
        obtain ⟨e, q1, q2, q3⟩ := h1 j t h
        simp only [if_true, if_neg hn]
        intro a ha hk
        have := q2.lt a ha
        have := hA a hk
        omega
      · rw [lk_put_ne hk] at h'
        simp only [if_neg (Ne.symm hj), if_neg (Ne.symm hk)]
        exact h2 j k t u hn h h'
  · by_cases hj : i = j
    · subst hj; have := (lk_put_eq h).1; cases this
    · rw [lk_put_ne hj] at h
      obtain ⟨B, e, q1, q2, q3⟩ := r.p j k t h
      exact ⟨B, e, q1, by rw [set_get hj]; exact q2, q3.frame fun a ha => hs a (q3.lt a ha)⟩
  · by_cases hj : i = j
    · subst hj; have := (lk_put_eq h).1; cases this
    · rw [lk_put_ne hj] at h
      by_cases hk : i = l
      · subst hk; have := (lk_put_eq h').1; cases this
      · rw [lk_put_ne hk] at h'; exact r.pi j l k t u h h'
  · rw [hs j (Nat.lt_of_lt_of_le hj r.fr.len)] at hc
    exact r.fr.old j c hj hc
def Wk : Ga → Ga → Prop
  | [], [] => True
  | _ :: xs, none :: ys => Wk xs ys
  | x :: xs, some s :: ys => x = some s ∧ Wk xs ys
  | _, _ => False
def hd' : Ga → Option S
  | [] => none
  | x :: _ => x
def tl' : Ga → Ga
  | [] => []
  | _ :: r => r
def isC : Ga → Bool
  | [] => false
  | _ :: _ => true
theorem wk_nil {Γ : Ga} (h : isC Γ = false) : Wk Γ [] := by
  cases Γ with
  | nil => trivial
  | cons _ _ => cases h
theorem wk_n {Γ ys : Ga} (c : isC Γ = true) (h : Wk (tl' Γ) ys) : Wk Γ (none :: ys) := by
  cases Γ with
  | nil => cases c
  | cons _ _ => exact h
theorem wk_s {Γ ys : Ga} {s : S} (c : hd' Γ = some s) (h : Wk (tl' Γ) ys) : Wk Γ (some s :: ys) := by
  cases Γ with
  | nil => cases c
  | cons _ _ => exact ⟨c, h⟩
theorem Wk.refl : ∀ Γ : Ga, Wk Γ Γ
  | [] => trivial
  | none :: r => Wk.refl r
  | some s :: r => ⟨rfl, Wk.refl r⟩
theorem Wk.len : ∀ {Γ Γ' : Ga}, Wk Γ Γ' → Γ.length = Γ'.length
  | [], [], _ => rfl
  | _ :: xs, none :: ys, h => by simp [Wk.len (Γ := xs) (Γ' := ys) h]
  | _ :: xs, some _ :: ys, h => by simp [Wk.len (Γ := xs) (Γ' := ys) h.2]
  | [], _ :: _, h => h.elim
  | _ :: _, [], h => h.elim
theorem Wk.lk : ∀ {Γ Γ' : Ga} {i : Nat} {s : S}, Wk Γ Γ' → lk Γ' i = some s → lk Γ i = some s
  | [], [], _, _, _, e => e
  | _ :: xs, none :: ys, 0, _, _, e => by cases e
  | _ :: xs, none :: ys, i + 1, s, h, e => Wk.lk (Γ := xs) (Γ' := ys) (i := i) h e
  | _ :: xs, some _ :: ys, 0, _, h, e => by rw [h.1]; exact e
  | _ :: xs, some _ :: ys, i + 1, s, h, e => Wk.lk (Γ := xs) (Γ' := ys) (i := i) h.2 e
  | [], _ :: _, _, _, h, _ => h.elim
  | _ :: _, [], _, _, h, _ => h.elim
theorem Rel.wk (r : Rel b P Γ ρ m) (w : Wk Γ Γ') : Rel b P Γ' ρ m := by
  obtain ⟨As, h1, h2⟩ := r.o
  exact ⟨by rw [← w.len]; exact r.len, fun i d h => r.v i d (w.lk h), ⟨As, fun i t h => h1 i t (w.lk h), fun i j t u hn h h' => h2 i j t u hn (w.lk h) (w.lk h')⟩,
    fun i k t h => r.p i k t (w.lk h), fun i j k t u h h' => r.pi i j k t u (w.lk h) (w.lk h'), r.fr, r.pd⟩
theorem Rel.unset (r : Rel b P Γ ρ m) (i : Nat) : Rel b P (put Γ i none) (ρ.set i none) m := by
  obtain ⟨As, h1, h2⟩ := r.o
  have key : ∀ j s, Vi.lk (put Γ i none) j = some s → i ≠ j ∧ Vi.lk Γ j = some s := fun j s h => by
    by_cases hj : i = j
    · subst hj; have := (lk_put_eq h).1; cases this
    · exact ⟨hj, by rw [lk_put_ne hj] at h; exact h⟩
  refine ⟨by rw [List.length_set, put_len, r.len], fun j e h => ?_, ⟨As, fun j t h => ?_, fun j k t u hn h h' => h2 j k t u hn (key j _ h).2 (key k _ h').2⟩, fun j k t h => ?_, fun j l k t u h h' => r.pi j l k t u (key j _ h).2 (key l _ h').2, r.fr, r.pd⟩
  · obtain ⟨hj, q⟩ := key j _ h
    rw [set_get hj]; exact r.v j e q
  · obtain ⟨hj, q⟩ := key j _ h
    rw [set_get hj]; exact h1 j t q
  · obtain ⟨hj, q⟩ := key j _ h
    rw [set_get hj]; exact r.p j k t q
def wipeG (Γ : Ga) : List Nat → Ga
  | [] => Γ
  | v :: vs => put (wipeG Γ vs) v none
theorem Rel.wipe (r : Rel b P Γ ρ m) : ∀ vs : List Nat, Rel b P (wipeG Γ vs) (wipeE ρ vs) m
  | [] => r
  | v :: vs => (Rel.wipe r vs).unset v
def treeOf : S → Option T
  | .v _ => none
  | .o t => some t
  | .p _ t => some t
def asTree (s : S) (t : T) : S := match s with
  | .v d => .v d
  | .o _ => .o t
  | .p k _ => .p k t
structure Chg (A : List Nat) (m m' : M) : Prop where
  len : m'.length = m.length
  out : ∀ j, j ∉ A → m'[j]? = m[j]?
theorem Rel.tree (r : Rel b P Γ ρ m) {i : Nat} {s : S} {t : T} (h : lk Γ i = some s) (ht : treeOf s = some t) : ∃ A d, ρ[i]? = some (some d) ∧ Has m A d t ∧
    ∀ (m' : M) (t' : T), Chg A m m' → Has m' A d t' → Rel b P (put Γ i (some (asTree s t'))) ρ m' := by
  obtain ⟨As, h1, h2⟩ := r.o
  have hi := lk_lt h
  have key : ∀ j s', Vi.lk (put Γ i (some s)) j = some s' → Vi.lk Γ j = some s' := fun j s' e => by
    by_cases hj : i = j
    · subst hj; obtain ⟨q, _⟩ := lk_put_eq e; cases q; exact h
    · rwa [lk_put_ne hj] at e
  cases s with
  | v d => cases ht
  | o t0 =>
    cases ht
    obtain ⟨d, q1, q2, q3⟩ := h1 i t h
    refine ⟨As i, d, q1, q2, fun m' t' c hm => ⟨by rw [put_len, r.len], fun j e hj => ?_, ⟨As, fun j u hj => ?_, fun j k u w hn hj hk => ?_⟩, fun j k u hj => ?_, fun j l k u w hj hl => ?_, ⟨by rw [c.len]; exact r.fr.len, fun j x hj hx => ?_⟩, r.pd⟩⟩
    · by_cases z : i = j
      · subst z; have := (lk_put_eq hj).1; cases this
      · rw [lk_put_ne z] at hj; exact r.v j e hj
    · by_cases z : i = j
      · subst z; obtain ⟨q, _⟩ := lk_put_eq hj; cases q; exact ⟨d, q1, hm, q3⟩
      · rw [lk_put_ne z] at hj
        obtain ⟨e, p1, p2, p3⟩ := h1 j u hj
        exact ⟨e, p1, p2.frame fun a ha => c.out a fun ha' => h2 i j _ _ z h hj a ha' ha, p3⟩
    · have oj : ∃ u', Vi.lk Γ j = some (.o u') := by
        by_cases z : i = j
        · subst z; exact ⟨_, h⟩
        · rw [lk_put_ne z] at hj; exact ⟨_, hj⟩
      have ok : ∃ u', Vi.lk Γ k = some (.o u') := by
        by_cases z : i = k
        · subst z; exact ⟨_, h⟩
        · rw [lk_put_ne z] at hk; exact ⟨_, hk⟩
      exact h2 j k _ _ hn oj.choose_spec ok.choose_spec
    · by_cases z : i = j
      · subst z; have := (lk_put_eq hj).1; cases this
      · rw [lk_put_ne z] at hj
        obtain ⟨B, e, p1, p2, p3⟩ := r.p j k u hj
        exact ⟨B, e, p1, p2, p3.frame fun a ha => c.out a fun ha' => by have := r.pd.lt k B e p1 a ha; have := q3 a ha'; omega⟩
    · have e1 : i ≠ j := fun z => by subst z; have := (lk_put_eq hj).1; cases this
      have e2 : i ≠ l := fun z => by subst z; have := (lk_put_eq hl).1; cases this
      rw [lk_put_ne e1] at hj
      rw [lk_put_ne e2] at hl
      exact r.pi j l k u w hj hl
    · by_cases z : j ∈ As i
      · have := q3 j z; omega
      · rw [c.out j z] at hx; exact r.fr.old j x hj hx
  | p k0 t0 =>
    cases ht
    obtain ⟨A, d, q0, q1, q2⟩ := r.p i k0 t h
    refine ⟨A, d, q1, q2, fun m' t' c hm => ⟨by rw [put_len, r.len], fun j e hj => ?_, ⟨As, fun j u hj => ?_, fun j k u w hn hj hk => ?_⟩, fun j k u hj => ?_, fun j l k u w hj hl => ?_, ⟨by rw [c.len]; exact r.fr.len, fun j x hj hx => ?_⟩, r.pd⟩⟩
    · by_cases z : i = j
      · subst z; have := (lk_put_eq hj).1; cases this
      · rw [lk_put_ne z] at hj; exact r.v j e hj
    · by_cases z : i = j
      · subst z; have := (lk_put_eq hj).1; cases this
      · rw [lk_put_ne z] at hj
        obtain ⟨e, p1, p2, p3⟩ := h1 j u hj
        exact ⟨e, p1, p2.frame fun a ha => c.out a fun ha' => by have := r.pd.lt k0 A d q0 a ha'; have := p3 a ha; omega, p3⟩
    · have e1 : i ≠ j := fun z => by subst z; have := (lk_put_eq hj).1; cases this
      have e2 : i ≠ k := fun z => by subst z; have := (lk_put_eq hk).1; cases this
      rw [lk_put_ne e1] at hj
      rw [lk_put_ne e2] at hk
      exact h2 j k u w hn hj hk
    · by_cases z : i = j
      · subst z; obtain ⟨q, _⟩ := lk_put_eq hj; cases q; exact ⟨A, d, q0, q1, hm⟩
      · rw [lk_put_ne z] at hj
        obtain ⟨B, e, p1, p2, p3⟩ := r.p j k u hj
        have hk : k ≠ k0 := fun w => by subst w; exact z (r.pi i j k _ _ h hj)
        exact ⟨B, e, p1, p2, p3.frame fun a ha => c.out a fun ha' => r.pd.dj k k0 B A e d hk p1 q0 a ha ha'⟩
    · have hj' : ∃ u', Vi.lk Γ j = some (.p k u') := by
        by_cases z : i = j
        · subst z; obtain ⟨q, _⟩ := lk_put_eq hj; cases q; exact ⟨_, h⟩
        · rw [lk_put_ne z] at hj; exact ⟨_, hj⟩
      have hl' : ∃ u', Vi.lk Γ l = some (.p k u') := by
        by_cases z : i = l
        · subst z; obtain ⟨q, _⟩ := lk_put_eq hl; cases q; exact ⟨_, h⟩
        · rw [lk_put_ne z] at hl; exact ⟨_, hl⟩
      exact r.pi j l k _ _ hj'.choose_spec hl'.choose_spec
    · by_cases z : j ∈ A
      · exact .inr ⟨⟨k0, A, d, q0, z⟩, (hm.low (r.pd.lt k0 A d q0)).2 j z x hx⟩
      · rw [c.out j z] at hx; exact r.fr.old j x hj hx
end
def EpG {ι : Type} (ok : ι → Prop) (e : En → M → R ι) (Γ : Ga) (d : ι) : Prop := ∀ b P ρ m, Rel b P Γ ρ m → e ρ m = .ok d m ∧ ok d
def EvG {ι α : Type} (ok : ι → Prop) (e : En → M → R ι) (Γ : Ga) (t : Option α) (f : α → ι) (G : α → Ga) : Prop :=
  ∀ a, t = some a → ∀ b P ρ m, Rel b P Γ ρ m → ∃ m', e ρ m = .ok (f a) m' ∧ ok (f a) ∧ Rel b P (G a) ρ m'
abbrev okD : D → Prop := fun d => noRef d = true
abbrev okDs : List D → Prop := fun d => noRefs d = true
abbrev okT {ι : Type} : ι → Prop := fun _ => True
abbrev EP (e : SE) (Γ : Ga) (d : D) : Prop := EpG okD e Γ d
abbrev TP (e : SB) (Γ : Ga) (k : Bool) : Prop := EpG okT e Γ k
abbrev AP (e : SA) (Γ : Ga) (ds : List D) : Prop := EpG okDs e Γ ds
abbrev EV {α : Type} (e : SE) (Γ : Ga) (t : Option α) (f : α → D) (G : α → Ga) : Prop := EvG okD e Γ t f G
abbrev TV {α : Type} (e : SB) (Γ : Ga) (t : Option α) (f : α → Bool) (G : α → Ga) : Prop := EvG okT e Γ t f G
abbrev AV {α : Type} (e : SA) (Γ : Ga) (t : Option α) (f : α → List D) (G : α → Ga) : Prop := EvG okDs e Γ t f G
def RdT (e : SE) (Γ : Ga) (t : T) : Prop := ∀ b P ρ m, Rel b P Γ ρ m → ∃ A d, e ρ m = .ok d m ∧ Has m A d t
def Pl (e : SE) (Γ : Ga) (t : T) (up : T → Ga) : Prop := ∀ b P ρ m, Rel b P Γ ρ m → ∃ A d, e ρ m = .ok d m ∧ Has m A d t ∧ ∀ (m' : M) (t' : T), Chg A m m' → Has m' A d t' → Rel b P (up t') ρ m'
theorem Pl.rd {e : SE} {Γ : Ga} {t : T} {up : T → Ga} (h : Pl e Γ t up) : RdT e Γ t := fun b P ρ m r => let ⟨A, d, h1, h2, _⟩ := h b P ρ m r; ⟨A, d, h1, h2⟩
theorem EpG.ev {ι : Type} {ok : ι → Prop} {e : En → M → R ι} {Γ : Ga} {d : ι} (h : EpG ok e Γ d) : EvG ok e Γ (some ()) (fun _ => d) (fun _ => Γ) := fun _ _ b P ρ m r => ⟨m, (h b P ρ m r).1, (h b P ρ m r).2, r⟩
section
variable {Γ : Ga} {i : Nat}
theorem ep_var {d : D} (h : lk Γ i = some (.v d)) : EP (sVar i) Γ d := fun b P ρ m r => by
  obtain ⟨h1, h2⟩ := r.v i d h
  exact ⟨by simp only [sVar, h1], h2⟩
theorem ep_c {d : D} (h : noRef d = true) : EP (sC d) Γ d := fun b P ρ m r => ⟨rfl, h⟩
theorem pl_var {s : S} {t : T} (h : lk Γ i = some s) (ht : treeOf s = some t) : Pl (sVar i) Γ t (fun t' => put Γ i (some (asTree s t'))) := fun b P ρ m r => by
  obtain ⟨A, d, h1, h2, h3⟩ := r.tree h ht
  exact ⟨A, d, by simp only [sVar, h1], h2, h3⟩
end
end Vi
namespace Vi
open PySem PySem.Spec PyProof.Rows L2
abbrev eT {α : Type} (f : α → D) (xs : List α) : D := .tup (xs.map f)
abbrev eL {α : Type} (f : α → D) (xs : List α) : D := .lst (xs.map f)
abbrev eZ {α : Type} (f : α → D) (xs : List α) : D := .frz (xs.map f)
def eO {α : Type} (f : α → D) : Option α → D
  | none => .non
  | some a => f a
abbrev e0 : Unit → D := fun _ => .tup []
abbrev e2 {α β : Type} (f : α → D) (g : β → D) (p : α × β) : D := .tup [f p.1, g p.2]
abbrev e3 {α β γ : Type} (f : α → D) (g : β → D) (h : γ → D) (p : α × β × γ) : D := .tup [f p.1, g p.2.1, h p.2.2]
abbrev e4 {α β γ δ : Type} (f : α → D) (g : β → D) (h : γ → D) (k : δ → D) (p : α × β × γ × δ) : D := .tup [f p.1, g p.2.1, h p.2.2.1, k p.2.2.2]
abbrev e5 {α β γ δ ε : Type} (f : α → D) (g : β → D) (h : γ → D) (k : δ → D) (l : ε → D) (p : α × β × γ × δ × ε) : D := .tup [f p.1, g p.2.1, h p.2.2.1, k p.2.2.2.1, l p.2.2.2.2]
abbrev trL {α : Type} (f : α → D) (xs : List α) : T := .lst (xs.map f)
@[inline] def vlet {α β : Type} (a : α) (f : α → β) : β := f a
def pairB {α β : Type} (a : Option α) (f : α → Option β) : Option (α × β) := a.bind fun x => (f x).bind fun y => some (x, y)
section
variable {ι κ : Type} {ok : ι → Prop} {ok' : κ → Prop} {Γ : Ga} {α β γ : Type}
theorem EvG.congr {e e' : En → M → R ι} {t : Option α} {f : α → ι} {G : α → Ga} (he : ∀ ρ m, e ρ m = e' ρ m) (h : EvG ok e' Γ t f G) : EvG ok e Γ t f G := fun a ha b P ρ m r => by rw [he]; exact h a ha b P ρ m r
theorem EpG.congr {e e' : En → M → R ι} {d : ι} (he : ∀ ρ m, e ρ m = e' ρ m) (h : EpG ok e' Γ d) : EpG ok e Γ d := fun b P ρ m r => by rw [he]; exact h b P ρ m r
theorem EvG.val {e : En → M → R ι} {t : Option α} {f f' : α → ι} {G : α → Ga} (h : EvG ok e Γ t f G) (hf : ∀ a, f a = f' a) : EvG ok e Γ t f' G := fun a ha b P ρ m r => by rw [← hf]; exact h a ha b P ρ m r
theorem EpG.val {e : En → M → R ι} {d d' : ι} (h : EpG ok e Γ d) (hd : d = d') : EpG ok e Γ d' := hd ▸ h
def bindS (args : En → M → R ι) (g : ι → M → R κ) : En → M → R κ := fun ρ m => (args ρ m).bind g
theorem op_p {args : En → M → R ι} {g : ι → M → R κ} {ds : ι} {d : κ} (h : EpG ok args Γ ds) (hg : ok ds → ∀ m, g ds m = .ok d m ∧ ok' d) : EpG ok' (bindS args g) Γ d := fun b P ρ m r => by
  obtain ⟨h1, h2⟩ := h b P ρ m r
  obtain ⟨h3, h4⟩ := hg h2 m
  exact ⟨by simp only [bindS, h1, bind_ok, h3], h4⟩
theorem op_c {args : En → M → R ι} {g : ι → M → R κ} {ds : ι} {t : Option α} {f : α → κ} (h : EpG ok args Γ ds) (hg : ok ds → ∀ a, t = some a → ∀ m, g ds m = .ok (f a) m ∧ ok' (f a)) : EvG ok' (bindS args g) Γ t f (fun _ => Γ) := fun a ha b P ρ m r => by
  obtain ⟨h1, h2⟩ := h b P ρ m r
  obtain ⟨h3, h4⟩ := hg h2 a ha m
  exact ⟨m, by simp only [bindS, h1, bind_ok, h3], h4, r⟩
theorem op_m {args : En → M → R ι} {g : ι → M → R κ} {t : Option α} {fs : α → ι} {f : α → κ} {G : α → Ga} (h : EvG ok args Γ t fs G) (hg : ∀ a, ok (fs a) → ∀ m, g (fs a) m = .ok (f a) m ∧ ok' (f a)) : EvG ok' (bindS args g) Γ t f G := fun a ha b P ρ m r => by
  obtain ⟨m', h1, h2, h5⟩ := h a ha b P ρ m r
  obtain ⟨h3, h4⟩ := hg a h2 m'
  exact ⟨m', by simp only [bindS, h1, bind_ok, h3], h4, h5⟩
theorem op_mc {args : En → M → R ι} {g : ι → M → R κ} {t : Option α} {k : α → Option β} {fs : α → ι} {f : α → β → κ} {G : α → Ga} (h : EvG ok args Γ t fs G) (hg : ∀ a, ok (fs a) → ∀ c, k a = some c → ∀ m, g (fs a) m = .ok (f a c) m ∧ ok' (f a c)) :
    EvG ok' (bindS args g) Γ (pairB t k) (fun c => f c.1 c.2) (fun c => G c.1) := fun c hc b P ρ m r => by
  unfold pairB at hc
  obtain ⟨a, ha, hc⟩ := Option.bind_eq_some_iff.mp hc
  obtain ⟨y, hy, hc⟩ := Option.bind_eq_some_iff.mp hc
  cases hc
  obtain ⟨m', h1, h2, h5⟩ := h a ha b P ρ m r
  obtain ⟨h3, h4⟩ := hg a h2 y hy m'
  exact ⟨m', by simp only [bindS, h1, bind_ok, h3], h4, h5⟩
end
section
variable {Γ : Ga} {α β : Type} {e : SE} {es : SA}
theorem ap_nil : AP sNil Γ [] := fun b P ρ m r => ⟨rfl, rfl⟩
theorem ap_cons {d : D} {ds : List D} (h : EP e Γ d) (hs : AP es Γ ds) : AP (sCons e es) Γ (d :: ds) := fun b P ρ m r => by
  obtain ⟨h1, h2⟩ := h b P ρ m r
  obtain ⟨h3, h4⟩ := hs b P ρ m r
  refine ⟨by simp only [sCons, h1, bind_ok, h3], ?_⟩
  have h2 : noRef d = true := h2
  have h4 : noRefs ds = true := h4
  show noRefs (d :: ds) = true
  simp only [noRefs, h2, h4]; rfl
theorem av_pm {d : D} {t : Option α} {fs : α → List D} {G : α → Ga} (h : EP e Γ d) (hs : AV es Γ t fs G) : AV (sCons e es) Γ t (fun a => d :: fs a) G := fun a ha b P ρ m r => by
  obtain ⟨h1, h2⟩ := h b P ρ m r
  obtain ⟨m', h3, h4, h5⟩ := hs a ha b P ρ m r
  refine ⟨m', by simp only [sCons, h1, bind_ok, h3], ?_, h5⟩
  have h2 : noRef d = true := h2
  have h4 : noRefs (fs a) = true := h4
  show noRefs (d :: fs a) = true
  simp only [noRefs, h2, h4]; rfl
theorem av_mp {t : Option α} {f : α → D} {G : α → Ga} {ds : α → List D} (h : EV e Γ t f G) (hs : ∀ a, AP es (G a) (ds a)) : AV (sCons e es) Γ t (fun a => f a :: ds a) G := fun a ha b P ρ m r => by
  obtain ⟨m', h1, h2, h5⟩ := h a ha b P ρ m r
  obtain ⟨h3, h4⟩ := hs a b P ρ m' h5
  refine ⟨m', by simp only [sCons, h1, bind_ok, h3], ?_, h5⟩
  have h2 : noRef (f a) = true := h2
  have h4 : noRefs (ds a) = true := h4
  show noRefs (f a :: ds a) = true
  simp only [noRefs, h2, h4]; rfl
theorem av_mm {t : Option α} {f : α → D} {G : α → Ga} {u : α → Option β} {fs : α → β → List D} {G2 : α → β → Ga} (h : EV e Γ t f G) (hs : ∀ a, AV es (G a) (u a) (fs a) (G2 a)) :
    AV (sCons e es) Γ (pairB t u) (fun c => f c.1 :: fs c.1 c.2) (fun c => G2 c.1 c.2) := fun c hc b P ρ m r => by
  unfold pairB at hc
  obtain ⟨a, ha, hc⟩ := Option.bind_eq_some_iff.mp hc
  obtain ⟨y, hy, hc⟩ := Option.bind_eq_some_iff.mp hc
  cases hc
  obtain ⟨m', h1, h2, h5⟩ := h a ha b P ρ m r
  obtain ⟨m2, h3, h4, h6⟩ := hs a y hy b P ρ m' h5
  refine ⟨m2, by simp only [sCons, h1, bind_ok, h3], ?_, h6⟩
  have h2 : noRef (f a) = true := h2
  have h4 : noRefs (fs a y) = true := h4
  show noRefs (f a :: fs a y) = true
  simp only [noRefs, h2, h4]; rfl
def g2 {κ : Type} (g : D → D → M → R κ) : List D → M → R κ := fun xs m => match xs with
  | [x, y] => g x y m
  | _ => .bad
theorem bin_eq (g : G2) (a b : SE) (ρ : En) (m : M) : sBin g a b ρ m = bindS (sCons a (sCons b sNil)) (g2 g) ρ m := by
  simp only [sBin, bindS, sCons, sNil]
  cases a ρ m with
  | ok x m1 =>
    simp only [bind_ok]
    cases b ρ m1 <;> rfl
  | exn c m1 => rfl
  | bad => rfl
theorem binT_eq (g : D → D → M → R Bool) (a b : SE) (ρ : En) (m : M) : sBinT g a b ρ m = bindS (sCons a (sCons b sNil)) (g2 g) ρ m := by
  simp only [sBinT, bindS, sCons, sNil]
  cases a ρ m with
  | ok x m1 =>
    simp only [bind_ok]
    cases b ρ m1 <;> rfl
  | exn c m1 => rfl
  | bad => rfl
end
section
variable {Γ : Ga} {α β : Type} {a b : SE} {g : G2} {gb : D → D → M → R Bool} {ds : List D} {d : D} {k : Bool} {t : Option α} {fs : α → List D} {f : α → D} {G : α → Ga} {u : α → Option β} {f2' : α → β → D} {fb : α → Bool} {fb2 : α → β → Bool}
abbrev sC2 (a b : SE) : SA := sCons a (sCons b sNil)
theorem bin_p (h : AP (sC2 a b) Γ ds) (hg : okDs ds → ∀ m, g2 g ds m = .ok d m ∧ okD d) : EP (sBin g a b) Γ d := (op_p h hg).congr (bin_eq g a b)
theorem bin_c (h : AP (sC2 a b) Γ ds) (hg : okDs ds → ∀ x, t = some x → ∀ m, g2 g ds m = .ok (f x) m ∧ okD (f x)) : EV (sBin g a b) Γ t f (fun _ => Γ) := (op_c h hg).congr (bin_eq g a b)
theorem bin_m (h : AV (sC2 a b) Γ t fs G) (hg : ∀ x, okDs (fs x) → ∀ m, g2 g (fs x) m = .ok (f x) m ∧ okD (f x)) : EV (sBin g a b) Γ t f G := (op_m h hg).congr (bin_eq g a b)
theorem bin_mc (h : AV (sC2 a b) Γ t fs G) (hg : ∀ x, okDs (fs x) → ∀ c, u x = some c → ∀ m, g2 g (fs x) m = .ok (f2' x c) m ∧ okD (f2' x c)) : EV (sBin g a b) Γ (pairB t u) (fun c => f2' c.1 c.2) (fun c => G c.1) := (op_mc h hg).congr (bin_eq g a b)
theorem cmp_p (h : AP (sC2 a b) Γ ds) (hg : okDs ds → ∀ m, g2 gb ds m = .ok k m ∧ okT k) : TP (sBinT gb a b) Γ k := (op_p h hg).congr (binT_eq gb a b)
theorem cmp_m (h : AV (sC2 a b) Γ t fs G) (hg : ∀ x, okDs (fs x) → ∀ m, g2 gb (fs x) m = .ok (fb x) m ∧ okT (fb x)) : TV (sBinT gb a b) Γ t fb G := (op_m h hg).congr (binT_eq gb a b)
theorem cmp_mc (h : AV (sC2 a b) Γ t fs G) (hg : ∀ x, okDs (fs x) → ∀ c, u x = some c → ∀ m, g2 gb (fs x) m = .ok (fb2 x c) m ∧ okT (fb2 x c)) : TV (sBinT gb a b) Γ (pairB t u) (fun c => fb2 c.1 c.2) (fun c => G c.1) := (op_mc h hg).congr (binT_eq gb a b)
end
section
variable {Γ : Ga} {α β : Type} {args : SA} {g : List D → M → R D} {gl : List D → M → R (List D)} {ds es : List D} {d : D} {t : Option α} {fs : α → List D} {f : α → D} {G : α → Ga} {u : α → Option β} {f2' : α → β → D} {fl : α → List D} {fl2 : α → β → List D}
theorem call_p (h : AP args Γ ds) (hg : okDs ds → ∀ m, g ds m = .ok d m ∧ okD d) : EP (sCall g args) Γ d := op_p h hg
theorem call_m (h : AV args Γ t fs G) (hg : ∀ x, okDs (fs x) → ∀ m, g (fs x) m = .ok (f x) m ∧ okD (f x)) : EV (sCall g args) Γ t f G := op_m h hg
theorem call_mc (h : AV args Γ t fs G) (hg : ∀ x, okDs (fs x) → ∀ c, u x = some c → ∀ m, g (fs x) m = .ok (f2' x c) m ∧ okD (f2' x c)) : EV (sCall g args) Γ (pairB t u) (fun c => f2' c.1 c.2) (fun c => G c.1) := op_mc h hg
theorem callL_p (h : AP args Γ ds) (hg : okDs ds → ∀ m, gl ds m = .ok es m ∧ okDs es) : AP (sCallL gl args) Γ es := op_p h hg
theorem callL_c (h : AP args Γ ds) (hg : okDs ds → ∀ x, t = some x → ∀ m, gl ds m = .ok (fl x) m ∧ okDs (fl x)) : AV (sCallL gl args) Γ t fl (fun _ => Γ) := op_c h hg
theorem callL_m (h : AV args Γ t fs G) (hg : ∀ x, okDs (fs x) → ∀ m, gl (fs x) m = .ok (fl x) m ∧ okDs (fl x)) : AV (sCallL gl args) Γ t fl G := op_m h hg
theorem callL_mc (h : AV args Γ t fs G) (hg : ∀ x, okDs (fs x) → ∀ c, u x = some c → ∀ m, gl (fs x) m = .ok (fl2 x c) m ∧ okDs (fl2 x c)) : AV (sCallL gl args) Γ (pairB t u) (fun c => fl2 c.1 c.2) (fun c => G c.1) := op_mc h hg
def gTupS : List D → M → R D := fun xs m => if xs.length ≤ big then .ok (.tup xs) m else .bad
def gLstS : List D → M → R (List D) := fun xs m => if xs.length ≤ big then .ok xs m else .bad
def gFrzS : List D → M → R D := fun xs m => .ok (.lst xs) m
def gBlS : Bool → M → R D := fun k m => .ok (.bl k) m
def gTbS : D → M → R Bool := fun x m => match x with
  | .bl b => .ok b m
  | _ => .bad
def gNotS : Bool → M → R Bool := fun k m => .ok (!k) m
theorem tup_p (h : AP args Γ ds) (hl : ds.length ≤ 1000 := by exact Nat.le_of_ble_eq_true rfl) : EP (sTup args) Γ (.tup ds) := op_p (ok' := okD) (g := gTupS) h fun o m => ⟨if_pos (Nat.le_trans hl (by decide)), o⟩
theorem lst_p (h : AP args Γ ds) (hl : ds.length ≤ 1000 := by exact Nat.le_of_ble_eq_true rfl) : AP (sLst args) Γ ds := op_p (ok' := okDs) (g := gLstS) h fun o m => ⟨if_pos (Nat.le_trans hl (by decide)), o⟩
theorem lst_m (h : AV args Γ t fs G) (hl : ∀ x, (fs x).length ≤ 1000 := by intro _; exact Nat.le_of_ble_eq_true rfl) : AV (sLst args) Γ t fs G := op_m (ok' := okDs) (g := gLstS) h fun x o m => ⟨if_pos (Nat.le_trans (hl x) (by decide)), o⟩
theorem frz_p (h : AP args Γ ds) : EP (sFrz args) Γ (.lst ds) := op_p (ok' := okD) (g := gFrzS) h fun o m => ⟨rfl, o⟩
theorem frz_m (h : AV args Γ t fs G) : EV (sFrz args) Γ t (fun x => .lst (fs x)) G := op_m (ok' := okD) (g := gFrzS) h fun x o m => ⟨rfl, o⟩
theorem ofT_p {e : SB} {k : Bool} (h : TP e Γ k) : EP (sOfT e) Γ (.bl k) := op_p (ok' := okD) (g := gBlS) h fun _ m => ⟨rfl, rfl⟩
theorem ofT_m {e : SB} {fb : α → Bool} (h : TV e Γ t fb G) : EV (sOfT e) Γ t (fun x => .bl (fb x)) G := op_m (ok' := okD) (g := gBlS) h fun _ _ m => ⟨rfl, rfl⟩
theorem tb_p {e : SE} {k : Bool} (h : EP e Γ (.bl k)) : TP (sTB e) Γ k := op_p (ok' := okT) (g := gTbS) h fun _ m => ⟨rfl, trivial⟩
theorem tb_m {e : SE} {fb : α → Bool} (h : EV e Γ t (fun x => .bl (fb x)) G) : TV (sTB e) Γ t fb G := op_m (ok' := okT) (g := gTbS) h fun _ _ m => ⟨rfl, trivial⟩
theorem not_p {e : SB} {k : Bool} (h : TP e Γ k) : TP (sNot e) Γ (!k) := op_p (ok' := okT) (g := gNotS) h fun _ m => ⟨rfl, trivial⟩
theorem not_m {e : SB} {fb : α → Bool} (h : TV e Γ t fb G) : TV (sNot e) Γ t (fun x => !(fb x)) G := op_m (ok' := okT) (g := gNotS) h fun _ _ m => ⟨rfl, trivial⟩
theorem and_mp {a b : SB} {fb : α → Bool} {l : α → Bool} (h : TV a Γ t fb G) (h' : ∀ x, TP b (G x) (l x)) : TV (sAnd a b) Γ t (fun x => fb x && l x) G := fun x hx b' P ρ m r => by
  obtain ⟨m', h1, _, h5⟩ := h x hx b' P ρ m r
  refine ⟨m', ?_, trivial, h5⟩
  simp only [sAnd, h1, bind_ok]
  cases q : fb x
  · rfl
  · simp only [if_true, Bool.true_and]; exact (h' x b' P ρ m' h5).1
theorem or_mp {a b : SB} {fb : α → Bool} {l : α → Bool} (h : TV a Γ t fb G) (h' : ∀ x, TP b (G x) (l x)) : TV (sOr a b) Γ t (fun x => fb x || l x) G := fun x hx b' P ρ m r => by
  obtain ⟨m', h1, _, h5⟩ := h x hx b' P ρ m r
  refine ⟨m', ?_, trivial, h5⟩
  simp only [sOr, h1, bind_ok]
  cases q : fb x
  · simp only [Bool.false_eq_true, if_false, Bool.false_or]; exact (h' x b' P ρ m' h5).1
  · rfl
theorem andV_p {a b : SE} {k l : Bool} (h : EP a Γ (.bl k)) (h' : EP b Γ (.bl l)) : EP (sAndV a b) Γ (.bl (k && l)) := fun _ P ρ m r => ⟨by
  simp only [sAndV, sTB, (h _ P ρ m r).1, bind_ok]
  cases k
  · rfl
  · simp only [if_true, Bool.true_and]; exact (h' _ P ρ m r).1, rfl⟩
theorem andV_of {a b : SE} (ρ : En) (m : M) : (sAnd (sTB a) (sTB b)) ρ m = (sTB (sAndV a b)) ρ m := by
  simp only [sAnd, sTB, sAndV]
  cases a ρ m with
  | ok x m1 =>
    simp only [bind_ok]
    cases x with
    | bl k => cases k <;> rfl
    | _ => rfl
  | exn c m1 => rfl
  | bad => rfl
theorem tb_back {e : SE} {fb : α → Bool} (h : TV (sTB e) Γ t fb G) : EV e Γ t (fun x => .bl (fb x)) G := fun x hx b P ρ m r => by
  obtain ⟨m', h1, _, h5⟩ := h x hx b P ρ m r
  unfold sTB at h1
  cases q : e ρ m with
  | ok y m1 =>
    rw [q] at h1
    simp only [bind_ok] at h1
    cases y with
    | bl k => cases h1; exact ⟨_, rfl, rfl, h5⟩
    | _ => cases h1
  | exn c m1 => rw [q] at h1; cases h1
  | bad => rw [q] at h1; cases h1
theorem andV_t {a b : SE} {fb : α → Bool} (h : TV (sAnd (sTB a) (sTB b)) Γ t fb G) : EV (sAndV a b) Γ t (fun x => .bl (fb x)) G := tb_back (EvG.congr (fun ρ m => (andV_of ρ m).symm) h)
theorem notV_p {a : SE} {k : Bool} (h : EP a Γ (.bl k)) : EP (sNotV a) Γ (.bl (!k)) := ofT_p (not_p (tb_p h))
theorem if_m {c : SB} {a b : SE} {k : Bool} {u v : Option α} (hc : TP c Γ k) (ha : k = true → EV a Γ u f G) (hb : k = false → EV b Γ v f G) : EV (sIf c a b) Γ (if k = true then u else v) f G := fun x hx b' P ρ m r => by
  obtain ⟨h1, _⟩ := hc b' P ρ m r
  cases k with
  | true => rw [if_pos rfl] at hx; obtain ⟨m', q⟩ := ha rfl x hx b' P ρ m r; exact ⟨m', by simp only [sIf, h1, bind_ok, if_true]; exact q.1, q.2⟩
  | false =>
    simp only [Bool.false_eq_true, if_false] at hx
    obtain ⟨m', q⟩ := hb rfl x hx b' P ρ m r; exact ⟨m', by simp only [sIf, h1, bind_ok]; exact q.1, q.2⟩
theorem EvG.wk {ι : Type} {ok : ι → Prop} {e : En → M → R ι} {t : Option α} {f : α → ι} {G G' : α → Ga} (h : EvG ok e Γ t f G) (hw : ∀ a, Wk (G a) (G' a)) : EvG ok e Γ t f G' := fun a ha b P ρ m r => let ⟨m', h1, h2, h3⟩ := h a ha b P ρ m r; ⟨m', h1, h2, h3.wk (hw a)⟩
theorem EvG.map {ι : Type} {ok : ι → Prop} {e : En → M → R ι} {t : Option α} {f : α → ι} {G : α → Ga} (h : EvG ok e Γ t f G) (v : α → β) {f' : β → ι} {G' : β → Ga} (hf : ∀ a, f a = f' (v a)) (hG : ∀ a, Wk (G a) (G' (v a))) : EvG ok e Γ (t.map v) f' G' := fun c hc b P ρ m r => by
  obtain ⟨a, ha, rfl⟩ := Option.map_eq_some_iff.mp hc
  obtain ⟨m', h1, h2, h3⟩ := h a ha b P ρ m r
  exact ⟨m', by rw [h1, hf], by rw [← hf]; exact h2, h3.wk (hG a)⟩
theorem EpG.pur {ι : Type} {ok : ι → Prop} {e : En → M → R ι} {f : α → ι} {v : α} (h : EpG ok e Γ (f v)) : EvG ok e Γ (some v) f (fun _ => Γ) := fun c hc b P ρ m r => by
  cases hc
  exact ⟨m, (h b P ρ m r).1, (h b P ρ m r).2, r⟩
end
end Vi
namespace Vi
open PySem PySem.Spec PyProof.Rows L2
theorem put_put : ∀ (Γ : Ga) (i : Nat) (s s' : Option S), put (put Γ i s) i s' = put Γ i s'
  | [], _, _, _ => rfl
  | _ :: _, 0, _, _ => rfl
  | _ :: r, i + 1, s, s' => by simp only [put, put_put r i s s']
inductive Out where
  | nx (Γ : Ga) | lp (Γ : Ga) | bk (Γ : Ga) | rt (d : D) (ts : List T) | rl (t : T) (ts : List T) | fin (ts : List T) | ex (c : Str) (ts : List T)
structure Fin (b : M) (P : Ps) (ts : List T) (m : M) : Prop where
  fr : Fr b P m
  has : ∀ (k : Nat) (A : List Nat) (d : D) (t : T), P[k]? = some (A, d) → ts[k]? = some t → Has m A d t
def OutRel (b : M) (P : Ps) (u : Out) (o : O) : Prop := match u with
  | .nx Γ => ∃ ρ m, o = .nx ρ m ∧ Rel b P Γ ρ m
  | .lp Γ => ∃ ρ m, (o = .nx ρ m ∨ o = .ct ρ m) ∧ Rel b P Γ ρ m
  | .bk Γ => ∃ ρ m, o = .bk ρ m ∧ Rel b P Γ ρ m
  | .rt d ts => ∃ x m, o = .rt x m ∧ fz m b.length fzK x = some d ∧ noRef d = true ∧ Fin b P ts m
  | .rl t ts => ∃ A x m, o = .rt x m ∧ Has m A x t ∧ (∀ a ∈ A, b.length ≤ a) ∧ Fin b P ts m
  | .fin ts => ∃ ρ m, o = .nx ρ m ∧ Fin b P ts m
  | .ex c ts => ∃ m, o = .exn c m ∧ Fin b P ts m
def Sim {α : Type} (d : SS) (Γ : Ga) (t : Option α) (F : α → Out) : Prop := ∀ a, t = some a → ∀ b P ρ m, Rel b P Γ ρ m → OutRel b P (F a) (d ρ m)
def Fins (Γ : Ga) (ts : List T) : Prop := ∀ (k : Nat) (t : T), ts[k]? = some t → ∃ i, lk Γ i = some (.p k t)
theorem fins_nil {Γ : Ga} : Fins Γ [] := fun k t h => by simp at h
theorem fins_1 {Γ : Ga} {t : T} (i : Nat) (h : lk Γ i = some (.p 0 t)) : Fins Γ [t] := fun k u hk => by
  match k, hk with
  | 0, hk => cases hk; exact ⟨i, h⟩
  | k + 1, hk => simp at hk
theorem Fins.fin {b : M} {P : Ps} {Γ : Ga} {ρ : En} {m : M} {ts : List T} (h : Fins Γ ts) (r : Rel b P Γ ρ m) : Fin b P ts m := ⟨r.fr, fun k A d t hk ht => by
  obtain ⟨i, hi⟩ := h k t ht
  obtain ⟨A', d', e1, e2, e3⟩ := r.p i k t hi
  rw [hk] at e1
  cases e1
  exact e3⟩
section
variable {α β σ γ : Type} {Γ : Ga} {a b c : SS} {t : Option α} {F : α → Out}
theorem Sim.wk {Γ' : Ga} (h : Sim a Γ' t F) (w : Wk Γ Γ') : Sim a Γ t F := fun x hx b P ρ m r => h x hx b P ρ m (r.wk w)
theorem Sim.eqs (he : ∀ ρ m, a ρ m = c ρ m) (h : Sim c Γ t F) : Sim a Γ t F := fun x hx b P ρ m r => by rw [he]; exact h x hx b P ρ m r
theorem sim_last (h : Sim (sSeq a sPass) Γ t F) : Sim a Γ t F := Sim.eqs (fun ρ m => by
  unfold sSeq
  cases a ρ m <;> rfl) h
theorem sim_assoc (h : Sim (sSeq a (sSeq b c)) Γ t F) : Sim (sSeq (sSeq a b) c) Γ t F := Sim.eqs (fun ρ m => by
  unfold sSeq
  cases a ρ m <;> rfl) h
theorem sim_pass (h : Sim c Γ t F) : Sim (sSeq sPass c) Γ t F := Sim.eqs (fun ρ m => rfl) h
theorem sim_lp {x : α} {Γ' : Ga} (hF : F x = .lp Γ') (w : Wk Γ Γ') : Sim sPass Γ (some x) F := fun y hy b P ρ m r => by
  cases hy
  rw [hF]
  exact ⟨ρ, m, .inl rfl, r.wk w⟩
theorem sim_ret {e : SE} {x : α} {d : D} {ts : List T} (h : EP e Γ d) (hF : F x = .rt d ts) (w : Fins Γ ts) : Sim (sSeq (sRet e) c) Γ (some x) F := fun y hy b P ρ m r => by
  cases hy
  rw [hF]
  obtain ⟨h1, h2⟩ := h b P ρ m r
  exact ⟨d, m, by simp only [sSeq, sRet, h1, toO_ok, then_rt], fz_no h2, h2, w.fin r⟩
theorem sim_retM {e : SE} {u : Option β} {f : β → D} {G : β → Ga} {k : β → α} {ts : β → List T} (h : EV e Γ u f G) (hF : ∀ x, F (k x) = .rt (f x) (ts x)) (w : ∀ x, Fins (G x) (ts x)) : Sim (sSeq (sRet e) c) Γ (u.bind fun x => some (k x)) F := fun y hy b P ρ m r => by
  obtain ⟨x, hx, hy⟩ := Option.bind_eq_some_iff.mp hy
  cases hy
  rw [hF]
  obtain ⟨m', h1, h2, h3⟩ := h x hx b P ρ m r
  exact ⟨f x, m', by simp only [sSeq, sRet, h1, toO_ok, then_rt], fz_no h2, h2, (w x).fin h3⟩
theorem sim_asgP {i : Nat} {e : SE} {v : β} (emb : β → D) {K : β → Option α} (h : EP e Γ (emb v)) (k : ∀ x, Sim c (put Γ i (some (.v (emb x)))) (K x) F) : Sim (sSeq (sAsg e (gNm i)) c) Γ (vlet v K) F := fun y hy b P ρ m r => by
  obtain ⟨h1, h2⟩ := h b P ρ m r
  have := k v y hy b P _ m (r.put_v i h2)
  simpa only [sSeq, sAsg, h1, toO_ok, gNm, then_nx] using this
theorem sim_asgM {i : Nat} {e : SE} {u : Option γ} {f : γ → D} {G : γ → Ga} {v : γ → β} (emb : β → D) {K : γ → β → Option α} (h : EV e Γ u f G) (hv : ∀ x, f x = emb (v x)) (k : ∀ z x, Sim c (put (G z) i (some (.v (emb x)))) (K z x) F) :
    Sim (sSeq (sAsg e (gNm i)) c) Γ (u.bind fun z => vlet (v z) (K z)) F := fun y hy b P ρ m r => by
  obtain ⟨z, hz, hy⟩ := Option.bind_eq_some_iff.mp hy
  obtain ⟨m', h1, h2, h3⟩ := h z hz b P ρ m r
  rw [hv] at h1 h2
  have := k z (v z) y hy b P _ m' (h3.put_v i h2)
  simpa only [sSeq, sAsg, h1, toO_ok, gNm, then_nx] using this
theorem sim_asgB {i : Nat} {e : SE} {u : Option β} {Γ' : Ga} (emb : β → D) {K : β → Option α} (h : EV e Γ u emb (fun _ => Γ')) (k : ∀ x, Sim c (put Γ' i (some (.v (emb x)))) (K x) F) : Sim (sSeq (sAsg e (gNm i)) c) Γ (u.bind K) F := fun y hy b P ρ m r => by
  obtain ⟨z, hz, hy⟩ := Option.bind_eq_some_iff.mp hy
  obtain ⟨m', h1, h2, h3⟩ := h z hz b P ρ m r
  have := k z y hy b P _ m' (h3.put_v i h2)
  simpa only [sSeq, sAsg, h1, toO_ok, gNm, then_nx] using this
def EO {γ : Type} (e : SE) (Γ : Ga) (u : Option γ) (f : γ → T) (G : γ → Ga) : Prop := ∀ z, u = some z → ∀ b P ρ m, Rel b P Γ ρ m → ∃ x m', e ρ m = .ok x m' ∧ ∀ i, Rel b P (put (G z) i (some (.o (f z)))) (ρ.set i (some x)) m'
theorem eo_new {ds : SA} {u : Option γ} {fs : γ → List D} {G : γ → Ga} (h : AV ds Γ u fs G) : EO (sNew ds) Γ u (fun z => .lst (fs z)) G := fun z hz b P ρ m r => by
  obtain ⟨m', h1, h2, h3⟩ := h z hz b P ρ m r
  refine ⟨.ref m'.length, m' ++ [.lst (fs z)], by simp only [sNew, h1, bind_ok], fun i => h3.put_o i (by simp) (fun j hj => List.getElem?_append_left hj) (A := [m'.length]) (.lst (by simp) h2) (by simp)⟩
theorem sim_new {i : Nat} {e : SE} {u : Option γ} {f : γ → T} {G : γ → Ga} {v : γ → β} (emb : β → T) {K : γ → β → Option α} (h : EO e Γ u f G) (hv : ∀ x, f x = emb (v x)) (k : ∀ z x, Sim c (put (G z) i (some (.o (emb x)))) (K z x) F) :
    Sim (sSeq (sAsg e (gNm i)) c) Γ (u.bind fun z => vlet (v z) (K z)) F := fun y hy b P ρ m r => by
  obtain ⟨z, hz, hy⟩ := Option.bind_eq_some_iff.mp hy
  obtain ⟨x, m', h1, h2⟩ := h z hz b P ρ m r
  have h3 := h2 i
  rw [hv] at h3
  have := k z (v z) y hy b P _ m' h3
  simpa only [sSeq, sAsg, h1, toO_ok, gNm, then_nx] using this
theorem sim_newP {i : Nat} {ds : SA} {xs : List D} {v : β} (emb : β → T) {K : β → Option α} (h : AP ds Γ xs) (hv : .lst xs = emb v) (k : ∀ x, Sim c (put Γ i (some (.o (emb x)))) (K x) F) :
    Sim (sSeq (sAsg (sNew ds) (gNm i)) c) Γ (vlet v K) F := sim_new (u := some ()) (v := fun _ => v) (K := fun _ => K) emb (eo_new h.ev) (fun _ => hv) (fun _ x => k x)
theorem sim_if {q : SB} {k : Bool} {A B : SS} {u v : Option α} (hq : TP q Γ k) (ha : k = true → Sim (sSeq A c) Γ u F) (hb : k = false → Sim (sSeq B c) Γ v F) : Sim (sSeq (sIfS q A B) c) Γ (if k = true then u else v) F := fun y hy b P ρ m r => by
  obtain ⟨h1, _⟩ := hq b P ρ m r
  cases k with
  | true =>
    rw [if_pos rfl] at hy
    simpa only [sSeq, sIfS, h1, toO_ok, if_true] using ha rfl y hy b P ρ m r
  | false =>
    simp only [Bool.false_eq_true, if_false] at hy
    simpa only [sSeq, sIfS, h1, toO_ok, Bool.false_eq_true, if_false] using hb rfl y hy b P ρ m r
theorem sim_ifM {q : SB} {w : Option γ} {fb : γ → Bool} {G : γ → Ga} {A B : SS} {u v : γ → Option α} (hq : TV q Γ w fb G) (ha : ∀ z, Sim (sSeq A c) (G z) (u z) F) (hb : ∀ z, Sim (sSeq B c) (G z) (v z) F) :
    Sim (sSeq (sIfS q A B) c) Γ (w.bind fun z => if fb z = true then u z else v z) F := fun y hy b P ρ m r => by
  obtain ⟨z, hz, hy⟩ := Option.bind_eq_some_iff.mp hy
  obtain ⟨m', h1, _, h3⟩ := hq z hz b P ρ m r
  cases hk : fb z with
  | true =>
    rw [hk, if_pos rfl] at hy
    simpa only [sSeq, sIfS, h1, toO_ok, hk, if_true] using ha z y hy b P ρ m' h3
  | false =>
    rw [hk] at hy
    simp only [Bool.false_eq_true, if_false] at hy
    simpa only [sSeq, sIfS, h1, toO_ok, hk, Bool.false_eq_true, if_false] using hb z y hy b P ρ m' h3
def forO (f : σ → β → Option σ) : List β → σ → Option σ
  | [], s => some s
  | x :: xs, s => (f s x).bind (forO f xs)
inductive Lp (ρ σ : Type) where
  | nx (s : σ) | bk (s : σ) | rt (r : ρ)
def forR {ρ : Type} (f : σ → β → Option (Lp ρ σ)) : List β → σ → Option (ρ ⊕ σ)
  | [], s => some (.inr s)
  | x :: xs, s => (f s x).bind fun r => match r with
    | .nx s => forR f xs s
    | .bk s => some (.inr s)
    | .rt v => some (.inl v)
def bindR {ρ : Type} (w : ρ → α) (u : Option (ρ ⊕ σ)) (K : σ → Option α) : Option α := u.bind fun r => match r with
  | .inl v => some (w v)
  | .inr s => K s
def Bod (g : SG) (a : SS) (d : D) (Γ : Ga) (u : Option β) (F : β → Out) : Prop := ∀ y, u = some y → noRef d = true → ∀ b P ρ m, Rel b P Γ ρ m → ∃ ρ1, g d ρ m = .ok ρ1 m ∧ OutRel b P (F y) (a ρ1 m)
theorem bod_1 {i : Nat} {d : D} {u : Option β} {F : β → Out} (h : Sim a (put Γ i (some (.v d))) u F) : Bod (gNm i) a d Γ u F := fun y hy hd b P ρ m r => ⟨_, rfl, h y hy b P _ m (r.put_v i hd)⟩
theorem bod_2 {i j : Nat} {d e : D} {u : Option β} {F : β → Out} (h : Sim a (put (put Γ i (some (.v d))) j (some (.v e))) u F) : Bod (gTp 2 (gsCons (gNm i) (gsCons (gNm j) gsNil))) a (.tup [d, e]) Γ u F := fun y hy hd b P ρ m r => by
  simp only [noRef, noRefs, Bool.and_true, Bool.and_eq_true] at hd
  exact ⟨_, rfl, h y hy b P _ m ((r.put_v i hd.1).put_v j hd.2)⟩
theorem noRefs_cons {x : D} {xs : List D} (h : noRefs (x :: xs) = true) : noRef x = true ∧ noRefs xs = true := by
  simpa only [noRefs, Bool.and_eq_true] using h
theorem for_core {g : SG} {em : β → D} {G : σ → Ga} {step : σ → β → Option σ} (hb : ∀ s x, Bod g a (em x) (G s) (step s x) (fun s => .lp (G s))) : ∀ (xs : List β) (s s' : σ), forO step xs s = some s' → noRefs (xs.map em) = true →
    ∀ b P ρ m, Rel b P (G s) ρ m → ∃ ρ' m', forLoop g a (xs.map em) ρ m = .nx ρ' m' ∧ Rel b P (G s') ρ' m'
  | [], s, s', h, _, b, P, ρ, m, r => by cases h; exact ⟨ρ, m, rfl, r⟩
  | x :: xs, s, s', h, hn, b, P, ρ, m, r => by
    obtain ⟨s1, h1, h2⟩ := Option.bind_eq_some_iff.mp h
    obtain ⟨n1, n2⟩ := noRefs_cons hn
    obtain ⟨ρ1, e1, ρ2, m2, e2, r2⟩ := hb s x s1 h1 n1 b P ρ m r
    obtain ⟨ρ3, m3, e3, r3⟩ := for_core hb xs s1 s' h2 n2 b P ρ2 m2 r2
    refine ⟨ρ3, m3, ?_, r3⟩
    simp only [List.map_cons, forLoop, e1, toO_ok]
    rcases e2 with e2 | e2 <;> rw [e2] <;> exact e3
theorem sim_for {it : SA} {g : SG} {em : β → D} (G : σ → Ga) {step : σ → β → Option σ} {xs : List β} {s0 : σ} {K : σ → Option α} (hi : AP it Γ (xs.map em)) (hG : Wk Γ (G s0)) (hb : ∀ s x, Bod g a (em x) (G s) (step s x) (fun s => .lp (G s))) (k : ∀ s, Sim c (G s) (K s) F) :
    Sim (sSeq (sFor it g a) c) Γ ((forO step xs s0).bind K) F := fun y hy b P ρ m r => by
  obtain ⟨s, hs, hy⟩ := Option.bind_eq_some_iff.mp hy
  obtain ⟨h1, h2⟩ := hi b P ρ m r
  obtain ⟨ρ', m', e1, r2⟩ := for_core hb xs s0 s hs h2 b P ρ m (r.wk hG)
  have := k s y hy b P ρ' m' r2
  simpa only [sSeq, sFor, h1, toO_ok, e1, then_nx] using this
theorem sim_forM {it : SA} {g : SG} {em : β → D} {w : Option γ} {G0 : γ → Ga} {xs : γ → List β} {s0 : γ → σ} (G : σ → Ga) {step : σ → β → Option σ} {K : σ → Option α} (hi : AV it Γ w (fun z => (xs z).map em) G0) (hG : ∀ z, Wk (G0 z) (G (s0 z)))
    (hb : ∀ s x, Bod g a (em x) (G s) (step s x) (fun s => .lp (G s))) (k : ∀ s, Sim c (G s) (K s) F) :
    Sim (sSeq (sFor it g a) c) Γ (w.bind fun z => (forO step (xs z) (s0 z)).bind K) F := fun y hy b P ρ m r => by
  obtain ⟨z, hz, hy⟩ := Option.bind_eq_some_iff.mp hy
  obtain ⟨s, hs, hy⟩ := Option.bind_eq_some_iff.mp hy
  obtain ⟨m1, h1, h2, r1⟩ := hi z hz b P ρ m r
  obtain ⟨ρ', m', e1, r2⟩ := for_core hb (xs z) (s0 z) s hs h2 b P ρ m1 (r1.wk (hG z))
  have := k s y hy b P ρ' m' r2
  simpa only [sSeq, sFor, h1, toO_ok, e1, then_nx] using this
def isRet : Out → Bool
  | .rt _ _ => true
  | .rl _ _ => true
  | .ex _ _ => true
  | _ => false
def FR {ρ : Type} (G : σ → Ga) (w : ρ → Out) : Lp ρ σ → Out
  | .nx s => .lp (G s)
  | .bk s => .bk (G s)
  | .rt r => w r
theorem out_ret {b : M} {P : Ps} {u : Out} {o : O} (h : OutRel b P u o) (hu : isRet u = true) : (∃ x m, o = .rt x m) ∨ ∃ c m, o = .exn c m := by
  cases u with
  | rt d ts => obtain ⟨x, m, e, _⟩ := h; exact .inl ⟨x, m, e⟩
  | rl t ts => obtain ⟨A, x, m, e, _⟩ := h; exact .inl ⟨x, m, e⟩
  | ex t ts => obtain ⟨m, e, _⟩ := h; exact .inr ⟨_, m, e⟩
  | _ => cases hu
theorem forR_core {ρ' : Type} {g : SG} {em : β → D} {G : σ → Ga} {w : ρ' → Out} {step : σ → β → Option (Lp ρ' σ)} (hw : ∀ v, isRet (w v) = true) (hb : ∀ s x, Bod g a (em x) (G s) (step s x) (FR G w)) : ∀ (xs : List β) (s : σ) (z : ρ' ⊕ σ), forR step xs s = some z → noRefs (xs.map em) = true →
    ∀ b P ρ m, Rel b P (G s) ρ m → OutRel b P (match z with | .inl v => w v | .inr s => .nx (G s)) (forLoop g a (xs.map em) ρ m)
  | [], s, z, h, _, b, P, ρ, m, r => by cases h; exact ⟨ρ, m, rfl, r⟩
  | x :: xs, s, z, h, hn, b, P, ρ, m, r => by
    obtain ⟨l, h1, h2⟩ := Option.bind_eq_some_iff.mp h
    obtain ⟨n1, n2⟩ := noRefs_cons hn
    obtain ⟨ρ1, e1, q⟩ := hb s x _ h1 n1 b P ρ m r
    cases l with
    | nx s1 =>
      obtain ⟨ρ2, m2, e2, r2⟩ := q
      have := forR_core hw hb xs s1 z h2 n2 b P ρ2 m2 r2
      simp only [List.map_cons, forLoop, e1, toO_ok]
      rcases e2 with e2 | e2 <;> rw [e2] <;> exact this
    | bk s1 =>
      obtain ⟨ρ2, m2, e2, r2⟩ := q
      cases h2
      exact ⟨ρ2, m2, by simp only [List.map_cons, forLoop, e1, toO_ok, e2], r2⟩
    | rt v =>
      cases h2
      have q' : OutRel b P (w v) (a ρ1 m) := q
      rcases out_ret q (hw v) with ⟨y, m2, e2⟩ | ⟨y, m2, e2⟩
      all_goals rw [e2] at q'
      all_goals simpa only [List.map_cons, forLoop, e1, toO_ok, e2] using q'
theorem sim_forR {ρ' : Type} {it : SA} {g : SG} {em : β → D} {w : Option γ} {G0 : γ → Ga} {xs : γ → List β} {s0 : γ → σ} (G : σ → Ga) {step : σ → β → Option (Lp ρ' σ)} {wr : ρ' → α} {K : σ → Option α} (hi : AV it Γ w (fun z => (xs z).map em) G0) (hG : ∀ z, Wk (G0 z) (G (s0 z)))
    (hw : ∀ v, isRet (F (wr v)) = true) (hb : ∀ s x, Bod g a (em x) (G s) (step s x) (FR G fun v => F (wr v))) (k : ∀ s, Sim c (G s) (K s) F) :
    Sim (sSeq (sFor it g a) c) Γ (w.bind fun z => bindR wr (forR step (xs z) (s0 z)) K) F := fun y hy b P ρ m r => by
  obtain ⟨z, hz, hy⟩ := Option.bind_eq_some_iff.mp hy
  obtain ⟨l, hs, hy⟩ := Option.bind_eq_some_iff.mp hy
  obtain ⟨m1, h1, h2, r1⟩ := hi z hz b P ρ m r
  have q := forR_core hw hb (xs z) (s0 z) l hs h2 b P ρ m1 (r1.wk (hG z))
  cases l with
  | inl v =>
    cases hy
    have q' : OutRel b P (F (wr v)) (forLoop g a ((xs z).map em) ρ m1) := q
    rcases out_ret q (hw v) with ⟨y, m2, e2⟩ | ⟨y, m2, e2⟩
    all_goals rw [e2] at q'
    all_goals simpa only [sSeq, sFor, h1, toO_ok, e2, then_rt, then_exn] using q'
  | inr s =>
    obtain ⟨ρ', m', e1, r2⟩ := q
    have := k s y hy b P ρ' m' r2
    simpa only [sSeq, sFor, h1, toO_ok, e1, then_nx] using this
end
end Vi
namespace Vi
open PySem PySem.Spec PyProof.Rows L2
def ArgR (m : M) (P : Ps) : List S → List D → Prop
  | [], [] => True
  | .v d :: ss, x :: xs => (x = d ∧ noRef d = true) ∧ ArgR m P ss xs
  | .p k t :: ss, x :: xs => (∃ A, P[k]? = some (A, x) ∧ Has m A x t) ∧ ArgR m P ss xs
  | _, _ => False
def pix : List S → List Nat
  | [] => []
  | .p k _ :: ss => k :: pix ss
  | _ :: ss => pix ss
def FOut (b : M) (P : Ps) (u : Out) (r : R D) : Prop := match u with
  | .rt d ts => ∃ m', r = .ok d m' ∧ noRef d = true ∧ m'.length = b.length ∧ Fin b P ts m'
  | .fin ts => ∃ m', r = .ok .non m' ∧ m'.length = b.length ∧ Fin b P ts m'
  | .rl t ts => ∃ A x m', r = .ok x m' ∧ Has m' A x t ∧ (∀ a ∈ A, b.length ≤ a) ∧ Fin b P ts m'
  | .ex c ts => ∃ m', r = .exn c m' ∧ m'.length = b.length ∧ Fin b P ts m'
  | _ => False
def FnT {α : Type} (F : Fn) (ss : List S) (t : Option α) (f : α → Out) : Prop := ∀ a, t = some a → ∀ P ds m, PD m P → (pix ss).Nodup → ArgR m P ss ds → FOut m P (f a) (F ds m)
theorem argR_len {m : M} {P : Ps} : ∀ {ss : List S} {ds : List D}, ArgR m P ss ds → ds.length = ss.length
  | [], [], _ => rfl
  | .v d :: ss, x :: xs, h => by simp [argR_len h.2]
  | .p k t :: ss, x :: xs, h => by simp [argR_len h.2]
  | [], _ :: _, h => h.elim
  | .v _ :: _, [], h => h.elim
  | .p _ _ :: _, [], h => h.elim
  | .o _ :: _, [], h => h.elim
  | .o _ :: _, _ :: _, h => h.elim
theorem argR_get {m : M} {P : Ps} : ∀ {ss : List S} {ds : List D} {i : Nat} {s : S}, ArgR m P ss ds → ss[i]? = some s → ∃ x, ds[i]? = some x ∧ match s with
    | .v d => x = d ∧ noRef d = true
    | .p k t => ∃ A, P[k]? = some (A, x) ∧ Has m A x t
    | .o _ => False
  | [], _, _, _, _, e => by simp at e
  | .v d :: ss, x :: xs, 0, s, h, e => by simp at e; subst e; exact ⟨x, rfl, h.1⟩
  | .p k t :: ss, x :: xs, 0, s, h, e => by simp at e; subst e; exact ⟨x, rfl, h.1⟩
  | .v d :: ss, x :: xs, i + 1, s, h, e => by
    obtain ⟨y, h1, h2⟩ := argR_get (i := i) h.2 (by simpa using e)
    exact ⟨y, by simpa using h1, h2⟩
  | .p k t :: ss, x :: xs, i + 1, s, h, e => by
    obtain ⟨y, h1, h2⟩ := argR_get (i := i) h.2 (by simpa using e)
    exact ⟨y, by simpa using h1, h2⟩
  | .v _ :: _, [], _, _, h, _ => h.elim
  | .p _ _ :: _, [], _, _, h, _ => h.elim
  | .o _ :: _, [], _, _, h, _ => h.elim
  | .o _ :: _, _ :: _, _, _, h, _ => h.elim
theorem pix_inj : ∀ {ss : List S} {i j k : Nat} {t u : T}, (pix ss).Nodup → ss[i]? = some (.p k t) → ss[j]? = some (.p k u) → i = j
  | [], _, _, _, _, _, _, e, _ => by simp at e
  | s :: ss, i, j, k, t, u, n, e1, e2 => by
    have mem : ∀ {ss : List S} {i : Nat} {t : T}, ss[i]? = some (.p k t) → k ∈ pix ss := by
      intro ss
      induction ss with
      | nil => intro i t e; simp at e
      | cons s ss ih =>
        intro i t e
        cases i with
        | zero => simp at e; subst e; exact List.mem_cons_self ..
        | succ i =>
          have := ih (i := i) (t := t) (by simpa using e)
          cases s <;> simp [pix, this]
    have n' : (pix ss).Nodup := by
      cases s <;> simp only [pix] at n <;> first | exact n | exact (List.nodup_cons.mp n).2
    cases i with
    | zero =>
      cases j with
      | zero => rfl
      | succ j =>
        simp at e1
        subst e1
        exact absurd (mem (i := j) (by simpa using e2)) (List.nodup_cons.mp n).1
    | succ i =>
      cases j with
      | zero =>
        simp at e2
        subst e2
        exact absurd (mem (i := i) (by simpa using e1)) (List.nodup_cons.mp n).1
      | succ j => rw [pix_inj (i := i) (j := j) n' (by simpa using e1) (by simpa using e2)]
def ga0 (n : Nat) (ss : List S) : Ga := ss.map some ++ List.replicate (n - ss.length) none
theorem lk_get : ∀ {Γ : Ga} {i : Nat} {s : S}, lk Γ i = some s → Γ[i]? = some (some s)
  | [], _, _, h => by cases h
  | x :: _, 0, _, h => by
    have : x = some _ := h
    simp [this]
  | _ :: r, i + 1, s, h => by simpa using lk_get (Γ := r) (i := i) h
theorem ga0_get {n : Nat} {ss : List S} {i : Nat} {s : S} (h : lk (ga0 n ss) i = some s) : ss[i]? = some s := by
  have := lk_get h
  unfold ga0 at this
  rcases Nat.lt_or_ge i ss.length with q | q
  · rw [List.getElem?_append_left (by simpa using q), List.getElem?_map] at this
    obtain ⟨y, h1, h2⟩ := Option.map_eq_some_iff.mp this
    cases h2
    exact h1
  · rw [List.getElem?_append_right (by simpa using q), List.getElem?_replicate] at this
    split at this <;> cases this
theorem rel_start {m : M} {P : Ps} {ss : List S} {ds : List D} (n : Nat) (pd : PD m P) (nd : (pix ss).Nodup) (h : ArgR m P ss ds) : Rel m P (ga0 n ss) (ds.map some ++ List.replicate (n - ds.length) none) m := by
  have hl := argR_len h
  have at_ : ∀ (i : Nat) (x : D), ds[i]? = some x → (ds.map some ++ List.replicate (n - ds.length) none)[i]? = some (some x) := fun i x e => by
    have q := (List.getElem?_eq_some_iff.mp e).1
    rw [List.getElem?_append_left (by simpa using q), List.getElem?_map, e]
    rfl
  refine ⟨by simp [ga0, hl], fun i d e => ?_, ⟨fun _ => [], fun i t e => ?_, fun i j t u hn e e' a ha => by cases ha⟩, fun i k t e => ?_, fun i j k t u e e' => pix_inj nd (ga0_get e) (ga0_get e'), ⟨Nat.le_refl _, fun j c _ e => .inl e⟩, pd⟩
  · obtain ⟨x, h1, h2⟩ := argR_get h (ga0_get e)
    obtain ⟨rfl, h3⟩ := h2
    exact ⟨at_ i x h1, h3⟩
  · obtain ⟨x, _, h2⟩ := argR_get h (ga0_get e)
    exact h2.elim
  · obtain ⟨x, h1, A, h2, h3⟩ := argR_get h (ga0_get e)
    exact ⟨A, x, h2, at_ i x h1, h3⟩
theorem okM_of {k : Nat} : ∀ (m b : M), m.length = b.length → (∀ (j : Nat) (c : Cell), m[j]? = some c → b[j]? = some c ∨ lowC k c = true) → okMn k m b = true
  | [], [], _, _ => rfl
  | [], _ :: _, h, _ => by simp at h
  | _ :: _, [], h, _ => by simp at h
  | x :: xs, y :: ys, h, f => by
    simp only [okMn, Bool.and_eq_true, Bool.or_eq_true]
    refine ⟨?_, okM_of xs ys (by simpa using h) fun j c e => ?_⟩
    · rcases f 0 x rfl with q | q
      · simp at q; subst q; exact .inl (eqC_refl _)
      · exact .inr q
    · have := f (j + 1) c (by simpa using e)
      simpa using this
theorem fr_take {b m : M} {P : Ps} (f : Fr b P m) : okM (m.take b.length) b = true := okM_of _ _ (by rw [List.length_take, Nat.min_eq_left f.len]) fun j c e => by
  have hj : j < b.length := by
    have := (List.getElem?_eq_some_iff.mp e).1
    rw [List.length_take] at this
    omega
  rw [List.getElem?_take, if_pos hj] at e
  rcases f.old j c hj e with q | q
  · exact .inl q
  · exact .inr q.2
theorem fin_take {b m : M} {P : Ps} {ts : List T} (pd : PD b P) (h : Fin b P ts m) : (m.take b.length).length = b.length ∧ Fin b P ts (m.take b.length) := by
  have hl : (m.take b.length).length = b.length := by rw [List.length_take, Nat.min_eq_left h.fr.len]
  refine ⟨hl, ⟨by rw [hl]; exact Nat.le_refl _, fun j c hj e => ?_⟩, fun k A d t hk ht => (h.has k A d t hk ht).frame fun a ha => ?_⟩
  · rw [List.getElem?_take, if_pos hj] at e
    exact h.fr.old j c hj e
  · rw [List.getElem?_take, if_pos (pd.lt k A d hk a ha)]
theorem fn_exit {α : Type} {n : Nat} {body : SS} {ss : List S} {t : Option α} {f : α → Out} (hf : ∀ a, (∃ d ts, f a = .rt d ts) ∨ (∃ ts, f a = .fin ts) ∨ ∃ c ts, f a = .ex c ts) (h : Sim body (ga0 n ss) t f) : FnT (exitF (runDef n body)) ss t f := fun a ha P ds m pd nd ar => by
  have r := rel_start n pd nd ar
  have o := h a ha m P _ m r
  rcases hf a with ⟨d, ts, e⟩ | ⟨ts, e⟩ | ⟨c, ts, e⟩
  · rw [e] at o ⊢
    obtain ⟨x, m', e1, e2, e3, e4⟩ := o
    obtain ⟨q1, q2⟩ := fin_take pd e4
    refine ⟨m'.take m.length, ?_, e3, q1, q2⟩
    have e5 : runDef n body ds m = .ok x m' := by simp only [runDef, e1]
    simp only [exitF, e5, fr_take e4.fr, if_true, e2]
  · rw [e] at o ⊢
    obtain ⟨ρ', m', e1, e4⟩ := o
    obtain ⟨q1, q2⟩ := fin_take pd e4
    refine ⟨m'.take m.length, ?_, q1, q2⟩
    have e5 : runDef n body ds m = .ok .non m' := by simp only [runDef, e1]
    simp only [exitF, e5, fr_take e4.fr, if_true]
    rfl
  · rw [e] at o ⊢
    obtain ⟨m', e1, e4⟩ := o
    obtain ⟨q1, q2⟩ := fin_take pd e4
    refine ⟨m'.take m.length, ?_, q1, q2⟩
    have e5 : runDef n body ds m = .exn c m' := by simp only [runDef, e1]
    simp only [exitF, e5, fr_take e4.fr, if_true]
theorem fn_new {α : Type} {n : Nat} {body : SS} {ss : List S} {t : Option α} {f : α → Out} (hf : ∀ a, ∃ t ts, f a = .rl t ts) (h : Sim body (ga0 n ss) t f) : FnT (runDef n body) ss t f := fun a ha P ds m pd nd ar => by
  have r := rel_start n pd nd ar
  have o := h a ha m P _ m r
  obtain ⟨t0, ts, e⟩ := hf a
  rw [e] at o ⊢
  obtain ⟨A, x, m', e1, e2, e3, e4⟩ := o
  exact ⟨A, x, m', by simp only [runDef, e1], e2, e3, e4⟩
inductive Ar where
  | v (d : D) | s (i : Nat)
def ArV (ρ : En) : List Ar → List D → Prop
  | [], [] => True
  | .v d :: as, x :: xs => (x = d ∧ noRef d = true) ∧ ArV ρ as xs
  | .s i :: as, x :: xs => ρ[i]? = some (some x) ∧ ArV ρ as xs
  | _, _ => False
def GA {α : Type} (args : SA) (Γ : Ga) (t : Option α) (fs : α → List Ar) (G : α → Ga) : Prop := ∀ a, t = some a → ∀ b P ρ m, Rel b P Γ ρ m → ∃ ds m', args ρ m = .ok ds m' ∧ Rel b P (G a) ρ m' ∧ ArV ρ (fs a) ds
section
variable {Γ : Ga} {α β : Type} {e : SE} {es : SA} {t : Option α} {u : α → Option β} {f : α → D} {G : α → Ga} {G2 : α → β → Ga} {fs : α → List Ar} {fs2 : α → β → List Ar}
theorem ga_nil : GA sNil Γ (some ()) (fun _ => []) (fun _ => Γ) := fun a ha b P ρ m r => ⟨[], m, rfl, r, trivial⟩
theorem ga_s {i : Nat} {s : S} (h : lk Γ i = some s) (hs : GA es Γ t fs G) : GA (sCons (sVar i) es) Γ t (fun a => .s i :: fs a) G := fun a ha b P ρ m r => by
  obtain ⟨ds, m', h1, h2, h3⟩ := hs a ha b P ρ m r
  have : ∃ x, ρ[i]? = some (some x) := by
    cases s with
    | v d => exact ⟨_, (r.v i d h).1⟩
    | o t => obtain ⟨As, q, _⟩ := r.o; obtain ⟨d, q1, _⟩ := q i t h; exact ⟨d, q1⟩
    | p k t => obtain ⟨A, d, _, q1, _⟩ := r.p i k t h; exact ⟨d, q1⟩
  obtain ⟨x, hx⟩ := this
  exact ⟨x :: ds, m', by simp only [sCons, sVar, hx, bind_ok, h1], h2, hx, h3⟩
theorem ga_v {d : D} (h : EP e Γ d) (hs : GA es Γ t fs G) : GA (sCons e es) Γ t (fun a => .v d :: fs a) G := fun a ha b P ρ m r => by
  obtain ⟨q1, q2⟩ := h b P ρ m r
  obtain ⟨ds, m', h1, h2, h3⟩ := hs a ha b P ρ m r
  exact ⟨d :: ds, m', by simp only [sCons, q1, bind_ok, h1], h2, ⟨rfl, q2⟩, h3⟩
theorem ga_m (h : EV e Γ t f G) (hs : ∀ a, GA es (G a) (some ()) (fun _ => fs a) (fun _ => G a)) : GA (sCons e es) Γ t (fun a => .v (f a) :: fs a) G := fun a ha b P ρ m r => by
  obtain ⟨m1, q1, q2, q3⟩ := h a ha b P ρ m r
  obtain ⟨ds, m', h1, h2, h3⟩ := hs a () rfl b P ρ m1 q3
  exact ⟨f a :: ds, m', by simp only [sCons, q1, bind_ok, h1], h2, ⟨rfl, q2⟩, h3⟩
end
def Fit (Γ : Ga) (sl : List Nat) : List Ar → List S → Prop
  | [], [] => True
  | .v d :: as, .v e :: ss => d = e ∧ Fit Γ sl as ss
  | .s i :: as, .p k t :: ss => ((∃ s, lk Γ i = some s ∧ treeOf s = some t) ∧ sl[k]? = some i) ∧ Fit Γ sl as ss
  | .s i :: as, .v e :: ss => lk Γ i = some (.v e) ∧ Fit Γ sl as ss
  | _, _ => False
theorem fit_nil {Γ : Ga} {sl : List Nat} : Fit Γ sl [] [] := trivial
theorem fit_v {Γ : Ga} {sl : List Nat} {d : D} {as : List Ar} {ss : List S} (h : Fit Γ sl as ss) : Fit Γ sl (.v d :: as) (.v d :: ss) := ⟨rfl, h⟩
theorem fit_s {Γ : Ga} {sl : List Nat} {i k : Nat} {s : S} {t : T} {as : List Ar} {ss : List S} (h1 : lk Γ i = some s) (h2 : treeOf s = some t) (h3 : sl[k]? = some i) (h : Fit Γ sl as ss) : Fit Γ sl (.s i :: as) (.p k t :: ss) := ⟨⟨⟨s, h1, h2⟩, h3⟩, h⟩
def putTs (Γ : Ga) : List Nat → List T → Ga
  | i :: is, t :: ts => match lk Γ i with
    | some s => put (putTs Γ is ts) i (some (asTree s t))
    | none => putTs Γ is ts
  | _, _ => Γ
section
variable {b : M} {P : Ps} {Γ : Ga} {ρ : En} {m : M}
theorem Rel.trees (r : Rel b P Γ ρ m) (is : List Nat) (nd : is.Nodup) (hs : ∀ i ∈ is, ∃ s t, lk Γ i = some s ∧ treeOf s = some t) :
    ∃ Q : Ps, Q.length = is.length ∧ (∀ (k i : Nat) (s : S) (t : T), is[k]? = some i → lk Γ i = some s → treeOf s = some t → ∃ A d, Q[k]? = some (A, d) ∧ ρ[i]? = some (some d) ∧ Has m A d t) ∧ PD m Q ∧
      ∀ (m' : M) (ts : List T), Fr m Q m' → ts.length = is.length → (∀ (k : Nat) (A : List Nat) (d : D) (t : T), Q[k]? = some (A, d) → ts[k]? = some t → Has m' A d t) →
        Rel b P (putTs Γ is ts) ρ m' ∧ ∀ (i : Nat) (A : List Nat) (x : D) (t : T), Has m' A x t → (∀ a ∈ A, m.length ≤ a) → Rel b P (put (putTs Γ is ts) i (some (.o t))) (ρ.set i (some x)) m' := by
  obtain ⟨As, h1, h2⟩ := r.o
  -- where each slot's tree stands
  have ex : ∀ i, i ∈ is → ∃ q : List Nat × D, ρ[i]? = some (some q.2) ∧ (∀ s t, lk Γ i = some s → treeOf s = some t → Has m q.1 q.2 t) ∧ ((∃ t, lk Γ i = some (.o t) ∧ q.1 = As i) ∨ ∃ k t, lk Γ i = some (.p k t) ∧ P[k]? = some q) := by
    intro i hi
    obtain ⟨s, t, hl, ht⟩ := hs i hi
    cases s with
    | v d => cases ht
    | o t0 =>
      cases ht
      obtain ⟨d, q1, q2, q3⟩ := h1 i t hl
      exact ⟨(As i, d), q1, fun s u e1 e2 => by rw [hl] at e1; cases e1; cases e2; exact q2, .inl ⟨t, hl, rfl⟩⟩
    | p k t0 =>
      cases ht
      obtain ⟨A, d, q0, q1, q2⟩ := r.p i k t hl
      exact ⟨(A, d), q1, fun s u e1 e2 => by rw [hl] at e1; cases e1; cases e2; exact q2, .inr ⟨k, t, hl, q0⟩⟩
  -- two slots' trees share nothing
  have apart : ∀ i j qi qj, i ≠ j → ((∃ t, lk Γ i = some (.o t) ∧ qi = As i) ∨ ∃ k t d, lk Γ i = some (.p k t) ∧ P[k]? = some (qi, d)) → ((∃ t, lk Γ j = some (.o t) ∧ qj = As j) ∨ ∃ k t d, lk Γ j = some (.p k t) ∧ P[k]? = some (qj, d)) → ∀ a ∈ qi, a ∉ qj := by
    rintro i j qi qj hij (⟨t, e1, rfl⟩ | ⟨k, t, d, e1, e2⟩) (⟨u, e3, rfl⟩ | ⟨l, u, e, e3, e4⟩) a ha hb
    · exact h2 i j t u hij e1 e3 a ha hb
    · obtain ⟨_, _, _, q3⟩ := h1 i t e1
      have := q3 a ha
      have := r.pd.lt l qj e e4 a hb
      omega
    · obtain ⟨_, _, _, q3⟩ := h1 j u e3
      have := q3 a hb
      have := r.pd.lt k qi d e2 a ha
      omega
    · by_cases hk : k = l
      · subst hk; exact hij (r.pi i j k t u e1 e3)
      · exact r.pd.dj k l qi qj d e hk e2 e4 a ha hb
  let w : Nat → List Nat × D := fun i => if h : i ∈ is then (ex i h).choose else ([], .non)
  have hw : ∀ i (h : i ∈ is), ρ[i]? = some (some (w i).2) ∧ (∀ s t, lk Γ i = some s → treeOf s = some t → Has m (w i).1 (w i).2 t) ∧ ((∃ t, lk Γ i = some (.o t) ∧ (w i).1 = As i) ∨ ∃ k t, lk Γ i = some (.p k t) ∧ P[k]? = some (w i)) := fun i h => by
    have := (ex i h).choose_spec
    simp only [w, dif_pos h]
    exact this
  have hw' : ∀ i (h : i ∈ is), (∃ t, lk Γ i = some (.o t) ∧ (w i).1 = As i) ∨ ∃ k t d, lk Γ i = some (.p k t) ∧ P[k]? = some ((w i).1, d) := fun i h => by
    rcases (hw i h).2.2 with q | ⟨k, t, q1, q2⟩
    · exact .inl q
    · exact .inr ⟨k, t, (w i).2, q1, q2⟩
  have getQ : ∀ (k : Nat) (A : List Nat) (d : D), (is.map w)[k]? = some (A, d) → ∃ i, is[k]? = some i ∧ w i = (A, d) := fun k A d h => by
    rw [List.getElem?_map] at h
    exact Option.map_eq_some_iff.mp h
  refine ⟨is.map w, by simp, fun k i s t hk hl ht => ?_, ⟨fun k A d h a ha => ?_, fun k l A B d e hkl h h' a ha hb => ?_⟩, fun m' ts fr hlen has => ?_⟩
  · have hi := List.mem_of_getElem? hk
    refine ⟨(w i).1, (w i).2, by rw [List.getElem?_map, hk]; rfl, (hw i hi).1, (hw i hi).2.1 s t hl ht⟩
  · obtain ⟨i, hi, e⟩ := getQ k A d h
    have hi' := List.mem_of_getElem? hi
    obtain ⟨s, t, hl, ht⟩ := hs i hi'
    have := (hw i hi').2.1 s t hl ht
    rw [e] at this
    exact this.lt a ha
  · obtain ⟨i, hi, e1⟩ := getQ k A d h
    obtain ⟨j, hj, e2⟩ := getQ l B e h'
    have hij : i ≠ j := fun z => by
      subst z
      exact hkl (L2.nd_ix nd hi hj)
    have q1 := hw' i (List.mem_of_getElem? hi)
    have q2 := hw' j (List.mem_of_getElem? hj)
    rw [e1] at q1
    rw [e2] at q2
    exact apart i j A B hij q1 q2 a ha hb
  · -- slots of is
    have inQ : ∀ (k i : Nat), is[k]? = some i → (is.map w)[k]? = some ((w i).1, (w i).2) := fun k i h => by rw [List.getElem?_map, h]; rfl
    -- what stands outside of all of them stands
    have out : ∀ (a : Nat) (c : Cell), a < m.length → (∀ i ∈ is, a ∉ (w i).1) → m'[a]? = some c → m[a]? = some c := fun a c ha hn hc => by
      rcases fr.old a c ha hc with q | ⟨⟨k, A, d, q1, q2⟩, _⟩
      · exact q
      · obtain ⟨i, hi, e⟩ := getQ k A d q1
        exact absurd (by rw [e]; exact q2) (hn i (List.mem_of_getElem? hi))
    have out' : ∀ (a : Nat), a < m.length → (∀ i ∈ is, a ∉ (w i).1) → m'[a]? = m[a]? := fun a ha hn => by
      have : a < m'.length := Nat.lt_of_lt_of_le ha fr.len
      rw [List.getElem?_eq_getElem this]
      exact (out a _ ha hn (List.getElem?_eq_getElem this)).symm
    -- the slots behind
    have look : ∀ (js : List Nat) (us : List T), us.length = js.length → js.Nodup → (∀ i ∈ js, i ∈ is) → ∀ (j : Nat) (s' : S), lk (putTs Γ js us) j = some s' → (∃ (k : Nat) (t : T) (s : S), js[k]? = some j ∧ us[k]? = some t ∧ lk Γ j = some s ∧ s' = asTree s t) ∨ (j ∉ js ∧ lk Γ j = some s') := by
      intro js
      induction js with
      | nil => intro us _ _ _ j s' h; exact .inr ⟨by simp, h⟩
      | cons i js ih =>
        intro us hl hn hm j s' h
        cases us with
        | nil => cases hl
        | cons u us =>
          obtain ⟨s, t, hlk, _⟩ := hs i (hm i (List.mem_cons_self ..))
          simp only [putTs, hlk] at h
          by_cases hj : i = j
          · subst hj
            obtain ⟨e, _⟩ := lk_put_eq h
            cases e
            exact .inl ⟨0, u, s, rfl, rfl, hlk, rfl⟩
          · rw [lk_put_ne hj] at h
            rcases ih us (by simpa using hl) (List.nodup_cons.mp hn).2 (fun i hi => hm i (List.mem_cons_of_mem _ hi)) j s' h with ⟨k, t, s0, q1, q2, q3, q4⟩ | ⟨q1, q2⟩
            · exact .inl ⟨k + 1, t, s0, by simpa using q1, by simpa using q2, q3, q4⟩
            · exact .inr ⟨by simp [Ne.symm hj, q1], q2⟩
    have look1 := look is ts hlen nd (fun i h => h)
    have plen : ∀ (js : List Nat) (us : List T), (putTs Γ js us).length = Γ.length := by
      intro js
      induction js with
      | nil => intro us; rfl
      | cons i js ih =>
        intro us
        cases us with
        | nil => rfl
        | cons u us =>
          simp only [putTs]
          split
          · rw [put_len, ih]
          · exact ih us
    have kind : ∀ (j : Nat) (s' : S), lk (putTs Γ is ts) j = some s' → ∃ s, lk Γ j = some s ∧ (match s' with | .v d => s = .v d | .o _ => ∃ t, s = .o t | .p k _ => ∃ t, s = .p k t) := by
      intro j s' h
      rcases look1 j s' h with ⟨k, t, s, q1, q2, q3, rfl⟩ | ⟨q1, q2⟩
      · refine ⟨s, q3, ?_⟩
        cases s <;> simp [asTree]
      · refine ⟨s', q2, ?_⟩
        cases s' <;> simp
    have main : Rel b P (putTs Γ is ts) ρ m' := by
      refine ⟨by rw [plen, r.len], fun j e h => ?_, ⟨As, fun j t h => ?_, fun j k t u hn h h' => ?_⟩, fun j k t h => ?_, fun j l k t u h h' => ?_, ⟨Nat.le_trans r.fr.len fr.len, fun j c hj hc => ?_⟩, r.pd⟩
      · obtain ⟨s, q1, q2⟩ := kind j _ h
        cases q2
        exact r.v j e q1
      · rcases look1 j _ h with ⟨k, t', s, q1, q2, q3, q4⟩ | ⟨q1, q2⟩
        · cases s with
          | v d => cases q4
          | p k0 t0 => cases q4
          | o t0 =>
            cases q4
            obtain ⟨d, p1, p2, p3⟩ := h1 j t0 q3
            have hj := List.mem_of_getElem? q1
            have z := hw j hj
            rcases z.2.2 with ⟨_, _, eA⟩ | ⟨_, _, e, _⟩
            · have := has k (w j).1 (w j).2 t (inQ k j q1) q2
              rw [eA] at this
              exact ⟨(w j).2, z.1, this, p3⟩
            · rw [q3] at e; cases e
        · obtain ⟨d, p1, p2, p3⟩ := h1 j t q2
          exact ⟨d, p1, p2.frame fun a ha => out' a (p2.lt a ha) fun i hi ha' => apart i j _ _ (fun z => q1 (z ▸ hi)) (hw' i hi) (.inl ⟨t, q2, rfl⟩) a ha' ha, p3⟩
      · obtain ⟨s, q1, t1, q2⟩ := kind j _ h
        obtain ⟨s', q1', u1, q2'⟩ := kind k _ h'
        subst q2; subst q2'
        exact h2 j k t1 u1 hn q1 q1'
      · rcases look1 j _ h with ⟨l, t', s, q1, q2, q3, q4⟩ | ⟨q1, q2⟩
        · cases s with
          | v d => cases q4
          | o t0 => cases q4
          | p k0 t0 =>
            cases q4
            have hj := List.mem_of_getElem? q1
            have z := hw j hj
            rcases z.2.2 with ⟨_, e, _⟩ | ⟨k1, t1, e, eP⟩
            · rw [q3] at e; cases e
            · rw [q3] at e
              cases e
              exact ⟨(w j).1, (w j).2, eP, z.1, has l _ _ t (inQ l j q1) q2⟩
        · obtain ⟨A, d, p1, p2, p3⟩ := r.p j k t q2
          exact ⟨A, d, p1, p2, p3.frame fun a ha => out' a (p3.lt a ha) fun i hi ha' => apart i j _ _ (fun z => q1 (z ▸ hi)) (hw' i hi) (.inr ⟨k, t, d, q2, p1⟩) a ha' ha⟩
      · obtain ⟨s, q1, t1, q2⟩ := kind j _ h
        obtain ⟨s', q1', u1, q2'⟩ := kind l _ h'
        subst q2; subst q2'
        exact r.pi j l k t1 u1 q1 q1'
      · rcases fr.old j c (Nat.lt_of_lt_of_le hj r.fr.len) hc with q | ⟨⟨k, A, d, q1, q2⟩, q3⟩
        · exact r.fr.old j c hj q
        · obtain ⟨i, hi, e⟩ := getQ k A d q1
          have hi' := List.mem_of_getElem? hi
          rcases (hw i hi').2.2 with ⟨t, e1, e2⟩ | ⟨k1, t1, e1, e2⟩
          · obtain ⟨_, _, _, p3⟩ := h1 i t e1
            have : j ∈ As i := by rw [← e2, e]; exact q2
            have := p3 j this
            omega
          · rw [e] at e2
            have hk : k < ts.length := by
              have := (List.getElem?_eq_some_iff.mp q1).1
              rw [List.length_map] at this
              omega
            exact .inr ⟨⟨k1, A, d, e2, q2⟩, ((has k A d _ q1 (List.getElem?_eq_getElem hk)).low (r.pd.lt k1 A d e2)).2 j q2 c hc⟩
    refine ⟨main, fun i A x t hx hA => ?_⟩
    -- something new beside
    obtain ⟨l1, l2, _, l4, l5, l6, l7⟩ := main
    have own : ∀ (j : Nat) (t : T), lk (putTs Γ is ts) j = some (.o t) → ∃ d, ρ[j]? = some (some d) ∧ Has m' (As j) d t ∧ (∀ a ∈ As j, b.length ≤ a) ∧ ∀ a ∈ As j, a < m.length := fun j t h => by
      rcases look1 j _ h with ⟨k, t', s, q1, q2, q3, q4⟩ | ⟨q1, q2⟩
      · cases s with
        | v d => cases q4
        | p k0 t0 => cases q4
        | o t0 =>
          cases q4
          obtain ⟨d, p1, p2, p3⟩ := h1 j t0 q3
          have hj := List.mem_of_getElem? q1
          have z := hw j hj
          rcases z.2.2 with ⟨_, _, eA⟩ | ⟨_, _, e, _⟩
          · have := has k (w j).1 (w j).2 t (inQ k j q1) q2
            rw [eA] at this
            exact ⟨(w j).2, z.1, this, p3, p2.lt⟩
          · rw [q3] at e; cases e
      · obtain ⟨d, p1, p2, p3⟩ := h1 j t q2
        exact ⟨d, p1, p2.frame fun a ha => out' a (p2.lt a ha) fun i hi ha' => apart i j _ _ (fun z => q1 (z ▸ hi)) (hw' i hi) (.inl ⟨t, q2, rfl⟩) a ha' ha, p3, p2.lt⟩
    refine ⟨by rw [List.length_set, put_len]; exact l1, fun j e h => ?_, ⟨fun j => if j = i then A else As j, fun j u h => ?_, fun j k u v hn h h' => ?_⟩, fun j k u h => ?_, fun j l k u v h h' => ?_, l6, l7⟩
    · by_cases hj : i = j
      · subst hj; have := (lk_put_eq h).1; cases this
      · rw [lk_put_ne hj] at h
        rw [set_get hj]; exact l2 j e h
    · by_cases hj : i = j
      · subst hj
        obtain ⟨q, hl'⟩ := lk_put_eq h
        cases q
        exact ⟨x, List.getElem?_set_self (by rw [l1]; exact hl'), by simpa using hx, by simp only [if_true]; exact fun a ha => Nat.le_trans r.fr.len (hA a ha)⟩
      · rw [lk_put_ne hj] at h
        obtain ⟨e, q1, q2, q3, q4⟩ := own j u h
        simp only [if_neg (Ne.symm hj)]
        exact ⟨e, by rw [set_get hj]; exact q1, q2, q3⟩
    · by_cases hj : i = j
      · subst hj
        rw [lk_put_ne hn] at h'
        obtain ⟨e, q1, q2, q3, q4⟩ := own k v h'
        simp only [if_true, if_neg (Ne.symm hn)]
        intro a ha hk
        have := q4 a hk
        have := hA a ha
        omega
      · rw [lk_put_ne hj] at h
        by_cases hk : i = k
        · subst hk
          obtain ⟨e, q1, q2, q3, q4⟩ := own j u h
          simp only [if_true, if_neg hn]
          intro a ha hk
          have := q4 a ha
          have := hA a hk
          omega
        · rw [lk_put_ne hk] at h'
          simp only [if_neg (Ne.symm hj), if_neg (Ne.symm hk)]
          obtain ⟨s, q1, t1, q2⟩ := kind j _ h
          obtain ⟨s', q1', u1, q2'⟩ := kind k _ h'
          subst q2; subst q2'
          exact h2 j k t1 u1 hn q1 q1'
    · by_cases hj : i = j
      · subst hj; have := (lk_put_eq h).1; cases this
      · rw [lk_put_ne hj] at h
        obtain ⟨B, e, q1, q2, q3⟩ := l4 j k u h
        exact ⟨B, e, q1, by rw [set_get hj]; exact q2, q3⟩
    · by_cases hj : i = j
      · subst hj; have := (lk_put_eq h).1; cases this
      · rw [lk_put_ne hj] at h
        by_cases hk : i = l
        · subst hk; have := (lk_put_eq h').1; cases this
        · rw [lk_put_ne hk] at h'; exact l5 j l k u v h h'
theorem fit_args {ρ : En} {Γ : Ga} {b : M} {P : Ps} {m : M} (r : Rel b P Γ ρ m) {sl : List Nat} {Q : Ps}
    (hQ : ∀ (k i : Nat) (s : S) (t : T), sl[k]? = some i → lk Γ i = some s → treeOf s = some t → ∃ A d, Q[k]? = some (A, d) ∧ ρ[i]? = some (some d) ∧ Has m A d t) :
    ∀ {as : List Ar} {ss : List S} {ds : List D}, Fit Γ sl as ss → ArV ρ as ds → ArgR m Q ss ds
  | [], [], [], _, _ => trivial
  | .v d :: as, .v e :: ss, x :: xs, h, a => by
    obtain ⟨rfl, h⟩ := h
    exact ⟨a.1, fit_args r hQ h a.2⟩
  | .s i :: as, .p k t :: ss, x :: xs, h, a => by
    obtain ⟨⟨⟨s, h1, h2⟩, h3⟩, h⟩ := h
    obtain ⟨A, d, q1, q2, q3⟩ := hQ k i s t h3 h1 h2
    have e : d = x := by
      have := a.1
      rw [q2] at this
      simpa using this
    subst e
    exact ⟨⟨A, q1, q3⟩, fit_args r hQ h a.2⟩
  | .s i :: as, .v e :: ss, x :: xs, h, a => by
    obtain ⟨h1, h⟩ := h
    obtain ⟨q1, q2⟩ := r.v i e h1
    have e : x = e := by
      have := a.1
      rw [q1] at this
      simpa using this.symm
    exact ⟨⟨e, q2⟩, fit_args r hQ h a.2⟩
  | [], [], _ :: _, _, h => h.elim
  | [], _ :: _, _, h, _ => h.elim
  | .v _ :: _, [], _, h, _ => h.elim
  | .s _ :: _, [], _, h, _ => h.elim
  | .v _ :: _, _ :: _, [], _, h => h.elim
  | .s _ :: _, _ :: _, [], _, h => h.elim
  | .v _ :: _, .o _ :: _, _ :: _, h, _ => h.elim
  | .v _ :: _, .p _ _ :: _, _ :: _, h, _ => h.elim
  | .s _ :: _, .o _ :: _, _ :: _, h, _ => h.elim
end
section
variable {α β : Type} {F : Fn} {args : SA} {Γ : Ga} {t : Option α} {fs : α → List Ar} {G : α → Ga} {u : α → Option β} {f : α → β → Out}
theorem call_fn (sl : List Nat) (ts : α → β → List T) {val : α → β → D} {ss : α → List S} (hA : GA args Γ t fs G) (hF : ∀ a, FnT F (ss a) (u a) (f a)) (nd : sl.Nodup) (hsl : ∀ a, ∀ i ∈ sl, ∃ s t, lk (G a) i = some s ∧ treeOf s = some t) (np : ∀ a, (pix (ss a)).Nodup) (hfit : ∀ a, Fit (G a) sl (fs a) (ss a))
    (hl : ∀ a b, (ts a b).length = sl.length) (hf : ∀ a b, f a b = .rt (val a b) (ts a b) ∨ (f a b = .fin (ts a b) ∧ val a b = .non)) :
    EV (sCall F args) Γ (pairB t u) (fun c => val c.1 c.2) (fun c => putTs (G c.1) sl (ts c.1 c.2)) := fun c hc b P ρ m r => by
  unfold pairB at hc
  obtain ⟨a, ha, hc⟩ := Option.bind_eq_some_iff.mp hc
  obtain ⟨y, hy, hc⟩ := Option.bind_eq_some_iff.mp hc
  cases hc
  obtain ⟨ds, m1, e1, r1, av⟩ := hA a ha b P ρ m r
  obtain ⟨Q, _, hQ, pd, go⟩ := r1.trees sl nd (hsl a)
  have o := hF a y hy Q ds m1 pd (np a) (fit_args r1 hQ (hfit a) av)
  rcases hf a y with e | ⟨e, ev⟩
  · rw [e] at o
    obtain ⟨m', e2, e3, e4, fin⟩ := o
    exact ⟨m', by simp only [sCall, e1, bind_ok, e2], e3, (go m' _ fin.fr (hl a y) fin.has).1⟩
  · rw [e] at o
    obtain ⟨m', e2, e4, fin⟩ := o
    exact ⟨m', by simp only [sCall, e1, bind_ok, e2, ev], by show noRef (val a y) = true; rw [ev]; rfl, (go m' _ fin.fr (hl a y) fin.has).1⟩
theorem call_new (sl : List Nat) (ts : α → β → List T) {val : α → β → T} {ss : α → List S} (hA : GA args Γ t fs G) (hF : ∀ a, FnT F (ss a) (u a) (f a)) (nd : sl.Nodup) (hsl : ∀ a, ∀ i ∈ sl, ∃ s t, lk (G a) i = some s ∧ treeOf s = some t) (np : ∀ a, (pix (ss a)).Nodup) (hfit : ∀ a, Fit (G a) sl (fs a) (ss a))
    (hl : ∀ a b, (ts a b).length = sl.length) (hf : ∀ a b, f a b = .rl (val a b) (ts a b)) :
    EO (sCall F args) Γ (pairB t u) (fun c => val c.1 c.2) (fun c => putTs (G c.1) sl (ts c.1 c.2)) := fun c hc b P ρ m r => by
  unfold pairB at hc
  obtain ⟨a, ha, hc⟩ := Option.bind_eq_some_iff.mp hc
  obtain ⟨y, hy, hc⟩ := Option.bind_eq_some_iff.mp hc
  cases hc
  obtain ⟨ds, m1, e1, r1, av⟩ := hA a ha b P ρ m r
  obtain ⟨Q, _, hQ, pd, go⟩ := r1.trees sl nd (hsl a)
  have o := hF a y hy Q ds m1 pd (np a) (fit_args r1 hQ (hfit a) av)
  rw [hf] at o
  obtain ⟨A, x, m', e2, e3, e4, fin⟩ := o
  exact ⟨x, m', by simp only [sCall, e1, bind_ok, e2], fun i => (go m' _ fin.fr (hl a y) fin.has).2 i A x _ e3 e4⟩
theorem fn_p {ds : List D} {v : β → D} {w : Option β} (hA : AP args Γ ds) (hF : FnT F (ds.map .v) w (fun b => .rt (v b) [])) : EV (sCall F args) Γ w v (fun _ => Γ) := fun y hy b P ρ m r => by
  obtain ⟨e1, n1⟩ := hA b P ρ m r
  have np : (pix (ds.map S.v)) = [] := by
    clear hA hF e1 n1
    induction ds with
    | nil => rfl
    | cons d ds ih => exact ih
  have ar : ∀ ds : List D, noRefs ds = true → ArgR m [] (ds.map .v) ds := by
    intro ds
    induction ds with
    | nil => intro _; trivial
    | cons d ds ih => intro h; obtain ⟨h1, h2⟩ := noRefs_cons h; exact ⟨⟨rfl, h1⟩, ih h2⟩
  obtain ⟨m', e2, e3, e4, fin⟩ := hF y hy [] ds m ⟨fun k A d h => by simp at h, fun k l A B d e _ h => by simp at h⟩ (by rw [np]; exact List.nodup_nil) (ar ds n1)
  have em : m' = m := by
    apply List.ext_getElem?
    intro j
    rcases Nat.lt_or_ge j m.length with q | q
    · have : j < m'.length := by omega
      rw [List.getElem?_eq_getElem this]
      rcases fin.fr.old j _ q (List.getElem?_eq_getElem this) with z | ⟨⟨k, A, d, z, _⟩, _⟩
      · exact z.symm
      · simp at z
    · rw [List.getElem?_eq_none q, List.getElem?_eq_none (by omega)]
  subst em
  exact ⟨m', by simp only [sCall, e1, bind_ok, e2], e3, r⟩
theorem fn_m {ds : α → List D} {v : α → β → D} {w : α → Option β} (hA : AV args Γ t ds G) (hF : ∀ a, FnT F ((ds a).map .v) (w a) (fun b => .rt (v a b) [])) : EV (sCall F args) Γ (pairB t w) (fun c => v c.1 c.2) (fun c => G c.1) := fun c hc b P ρ m r => by
  unfold pairB at hc
  obtain ⟨a, ha, hc⟩ := Option.bind_eq_some_iff.mp hc
  obtain ⟨y, hy, hc⟩ := Option.bind_eq_some_iff.mp hc
  cases hc
  obtain ⟨m1, e1, n1, r1⟩ := hA a ha b P ρ m r
  have h := fn_p (F := F) (args := fun _ m => .ok (ds a) m) (Γ := G a) (fun b P ρ m _ => ⟨rfl, n1⟩) (hF a)
  obtain ⟨m2, e2, n2, r2⟩ := h y hy b P ρ m1 r1
  refine ⟨m2, ?_, n2, r2⟩
  have : F (ds a) m1 = .ok (v a y) m2 := e2
  simp only [sCall, e1, bind_ok, this]
end
end Vi
namespace Vi
open PySem PySem.Spec PyProof.Rows L2
section
variable {i j : Int}
theorem f_add : okDs [D.int i, D.int j] → ∀ m, g2 gAdd [.int i, .int j] m = .ok (.int (i + j)) m ∧ okD (.int (i + j)) := fun _ _ => ⟨rfl, rfl⟩
theorem f_sub : okDs [D.int i, D.int j] → ∀ m, g2 Vi.gSub [.int i, .int j] m = .ok (.int (i - j)) m ∧ okD (.int (i - j)) := fun _ _ => ⟨rfl, rfl⟩
def mulO (i j : Int) : Option Int := if i.natAbs.log2 + j.natAbs.log2 < 1000000 then some (i * j) else none
def divO (i j : Int) : Option Int := if 0 < j ∧ j.natAbs.log2 < 9000 then some (i / j) else none
def modO (i j : Int) : Option Int := if 0 < j then some (i % j) else none
def powO (i j : Int) : Option Int := if (0 ≤ j ∧ j ≤ 1000000) ∧ i.natAbs < 2 ^ 64 then some (i ^ j.toNat) else none
theorem f_mul : okDs [D.int i, D.int j] → ∀ x, mulO i j = some x → ∀ m, g2 Vi.gMul [.int i, .int j] m = .ok (.int x) m ∧ okD (.int x) := fun _ x hx m => by
  unfold mulO at hx
  split at hx
  · cases hx; exact ⟨by simp only [g2, Vi.gMul, gI]; rw [if_pos (by simpa using ‹_›)], rfl⟩
  · cases hx
theorem f_div : okDs [D.int i, D.int j] → ∀ x, divO i j = some x → ∀ m, g2 Vi.gDiv [.int i, .int j] m = .ok (.int x) m ∧ okD (.int x) := fun _ x hx m => by
  unfold divO at hx
  split at hx
  · cases hx; exact ⟨by simp only [g2, Vi.gDiv, gI]; rw [if_pos (by simpa using ‹_›)], rfl⟩
  · cases hx
theorem f_mod : okDs [D.int i, D.int j] → ∀ x, modO i j = some x → ∀ m, g2 Vi.gMod [.int i, .int j] m = .ok (.int x) m ∧ okD (.int x) := fun _ x hx m => by
  unfold modO at hx
  split at hx
  · cases hx; exact ⟨by simp only [g2, Vi.gMod, gI]; rw [if_pos (by simpa using ‹_›)], rfl⟩
  · cases hx
theorem f_pow : okDs [D.int i, D.int j] → ∀ x, powO i j = some x → ∀ m, g2 Vi.gPow [.int i, .int j] m = .ok (.int x) m ∧ okD (.int x) := fun _ x hx m => by
  unfold powO at hx
  split at hx
  · rename_i h
    cases hx; exact ⟨by simp only [g2, Vi.gPow, gI]; rw [if_pos (by simp only [Bool.and_eq_true, decide_eq_true_eq]; exact h)], rfl⟩
  · cases hx
theorem f_divL (h : 0 < j ∧ j.natAbs.log2 < 9000) : okDs [D.int i, D.int j] → ∀ m, g2 Vi.gDiv [.int i, .int j] m = .ok (.int (i / j)) m ∧ okD (.int (i / j)) := fun _ m => ⟨by simp only [g2, Vi.gDiv, gI]; rw [if_pos (by simpa using h)], rfl⟩
theorem f_modL (h : 0 < j) : okDs [D.int i, D.int j] → ∀ m, g2 Vi.gMod [.int i, .int j] m = .ok (.int (i % j)) m ∧ okD (.int (i % j)) := fun _ m => ⟨by simp only [g2, Vi.gMod, gI]; rw [if_pos (by simpa using h)], rfl⟩
theorem f_mulL (h : i.natAbs.log2 + j.natAbs.log2 < 1000000) : okDs [D.int i, D.int j] → ∀ m, g2 Vi.gMul [.int i, .int j] m = .ok (.int (i * j)) m ∧ okD (.int (i * j)) := fun _ m => ⟨by simp only [g2, Vi.gMul, gI]; rw [if_pos (by simpa using h)], rfl⟩
theorem f_powL (h : (0 ≤ j ∧ j ≤ 1000000) ∧ i.natAbs < 2 ^ 64) : okDs [D.int i, D.int j] → ∀ m, g2 Vi.gPow [.int i, .int j] m = .ok (.int (i ^ j.toNat)) m ∧ okD (.int (i ^ j.toNat)) := fun _ m => ⟨by simp only [g2, Vi.gPow, gI]; rw [if_pos (by simp only [Bool.and_eq_true, decide_eq_true_eq]; exact h)], rfl⟩
theorem f_min2 : okDs [D.int i, D.int j] → ∀ m, gMin2 [.int i, .int j] m = .ok (.int (if j < i then j else i)) m ∧ okD (.int (if j < i then j else i)) := fun _ _ => ⟨rfl, rfl⟩
def bI (k : Bool) : Int := if k = true then 1 else 0
theorem f_intB {k : Bool} : okDs [D.bl k] → ∀ m, gInt1 [.bl k] m = .ok (.int (bI k)) m ∧ okD (.int (bI k)) := fun _ _ => ⟨rfl, rfl⟩
theorem f_lt : okDs [D.int i, D.int j] → ∀ m, g2 gLt [.int i, .int j] m = .ok (decide (i < j)) m ∧ okT (decide (i < j)) := fun _ _ => ⟨rfl, trivial⟩
theorem f_gt : okDs [D.int i, D.int j] → ∀ m, g2 gGt [.int i, .int j] m = .ok (decide (j < i)) m ∧ okT (decide (j < i)) := fun _ _ => ⟨rfl, trivial⟩
theorem f_ge : okDs [D.int i, D.int j] → ∀ m, g2 gGe [.int i, .int j] m = .ok (decide (j ≤ i)) m ∧ okT (decide (j ≤ i)) := fun _ _ => ⟨rfl, trivial⟩
end
def IsPy {α : Type} (f : α → D) (p : α → PyData) (k : Nat) : Prop := (∀ a m, toPy (f a) m = some (p a)) ∧ (∀ a, (p a).canLay0 = true) ∧ ∀ a, (p a).depth ≤ k
def IsEq {α : Type} (p : α → PyData) : Prop := ∀ a b, PyData.eqv (p a) (p b) = true ↔ a = b
abbrev pI : Int → PyData := .int
abbrev pT {α : Type} (p : α → PyData) (xs : List α) : PyData := .tuple (xs.map p)
abbrev pL {α : Type} (p : α → PyData) (xs : List α) : PyData := .list (xs.map p)
abbrev p0 : Unit → PyData := fun _ => .tuple []
abbrev p2 {α β : Type} (p : α → PyData) (q : β → PyData) (x : α × β) : PyData := .tuple [p x.1, q x.2]
abbrev p3 {α β γ : Type} (p : α → PyData) (q : β → PyData) (r : γ → PyData) (x : α × β × γ) : PyData := .tuple [p x.1, q x.2.1, r x.2.2]
def pO {α : Type} (p : α → PyData) : Option α → PyData
  | none => .none
  | some a => p a
section
variable {α β γ : Type} {f : α → D} {g : β → D} {h : γ → D} {p : α → PyData} {q : β → PyData} {r : γ → PyData} {k l n : Nat}
theorem y_I : IsPy D.int pI 0 := ⟨fun _ _ => rfl, fun _ => rfl, fun _ => Nat.le_refl _⟩
theorem toPys_map (y : IsPy f p k) (m : M) : ∀ xs : List α, toPys (xs.map f) m = some (xs.map p)
  | [] => rfl
  | x :: xs => by simp only [List.map_cons, toPys, y.1 x m, toPys_map y m xs]
theorem lay_map (y : IsPy f p k) : ∀ xs : List α, PyData.canLayAll0 (xs.map p) = true
  | [] => rfl
  | x :: xs => by simp only [List.map_cons, PyData.canLayAll0, y.2.1 x, lay_map y xs]; rfl
theorem depth_map (y : IsPy f p k) : ∀ xs : List α, PyData.depthAll (xs.map p) ≤ k
  | [] => Nat.zero_le _
  | x :: xs => by
    simp only [List.map_cons, PyData.depthAll]
    exact Nat.max_le.mpr ⟨y.2.2 x, depth_map y xs⟩
theorem y_T (y : IsPy f p k) : IsPy (eT f) (pT p) (k + 1) := ⟨fun a m => by simp only [toPy, toPys_map y m a, Option.map_some], fun a => by simp only [PyData.canLay0, lay_map y a], fun a => by simp only [PyData.depth]; exact Nat.succ_le_succ (depth_map y a)⟩
theorem y_L (y : IsPy f p k) : IsPy (eL f) (pL p) (k + 1) := ⟨fun a m => by simp only [toPy, toPys_map y m a, Option.map_some], fun a => by simp only [PyData.canLay0, lay_map y a], fun a => by simp only [PyData.depth]; exact Nat.succ_le_succ (depth_map y a)⟩
theorem y_O (y : IsPy f p k) : IsPy (eO f) (pO p) k := ⟨fun a m => by cases a <;> simp only [eO, pO, toPy, y.1], fun a => by cases a <;> simp only [pO, PyData.canLay0, y.2.1], fun a => by cases a <;> simp only [pO, PyData.depth, Nat.zero_le, y.2.2]⟩
theorem q_I : IsEq pI := fun a b => by simp [PyData.eqv]
theorem eqv_map (e : IsEq p) : ∀ xs ys : List α, PyData.eqvAll (xs.map p) (ys.map p) = true ↔ xs = ys
  | [], [] => by simp [PyData.eqvAll]
  | [], _ :: _ => by simp [PyData.eqvAll]
  | _ :: _, [] => by simp [PyData.eqvAll]
  | x :: xs, y :: ys => by simp only [List.map_cons, PyData.eqvAll, Bool.and_eq_true, e x y, eqv_map e xs ys, List.cons.injEq]
theorem q_T (e : IsEq p) : IsEq (pT p) := fun a b => by simp only [PyData.eqv]; exact eqv_map e a b
theorem q_L (e : IsEq p) : IsEq (pL p) := fun a b => by simp only [PyData.eqv]; exact eqv_map e a b
theorem eqv_none_l : ∀ d : PyData, PyData.eqv .none d = true → d = .none
  | .none, _ => rfl
theorem eqv_none_r : ∀ d : PyData, PyData.eqv d .none = true → d = .none
  | .none, _ => rfl
theorem q_O (e : IsEq p) (hn : ∀ a, p a ≠ .none) : IsEq (pO p) := fun a b => by
  cases a with
  | none => cases b with
    | none => simp [pO, PyData.eqv]
    | some b => simp only [pO, reduceCtorEq, iff_false]; intro h; exact hn b (eqv_none_l _ h)
  | some a => cases b with
    | none => simp only [pO, reduceCtorEq, iff_false]; intro h; exact hn a (eqv_none_r _ h)
    | some b => simp only [pO, e a b, Option.some.injEq]
theorem eq_gen {x y : D} {dx dy : PyData} {m : M} (hx : toPy x m = some dx) (hy : toPy y m = some dy) (sx : SeqAt.shaped dx = true) (sy : SeqAt.shaped dy = true) : gEq x y m = .ok (PyData.eqv dx dy) m ∧ gNe x y m = .ok (!PyData.eqv dx dy) m := by
  have r : ∀ (x : D) (d : PyData), toPy x m = some d → toPyR x m = some d := by
    intro x d h
    cases x with
    | ref n => simp [toPy] at h
    | _ => exact h
  have g1 : gEqD x y m = .ok (PyData.eqv dx dy) m := by simp only [gEqD, r _ _ hx, r _ _ hy, sx, sy, if_true]
  have g2 : gNeD x y m = .ok (!PyData.eqv dx dy) m := by simp only [gNeD, r _ _ hx, r _ _ hy, sx, sy, if_true]
  cases x with
  | str a => cases y with
    | str b =>
      simp only [toPy, Option.some.injEq] at hx hy
      subst hx; subst hy
      exact ⟨rfl, rfl⟩
    | _ => exact ⟨g1, g2⟩
  | _ => exact ⟨g1, g2⟩
theorem shaped_of (y : IsPy f p k) (hk : k ≤ 64) (a : α) : SeqAt.shaped (p a) = true := by
  simp only [SeqAt.shaped, y.2.1 a, Bool.true_and, decide_eq_true_eq]
  exact Nat.le_trans (y.2.2 a) hk
theorem f_eq [DecidableEq α] (y : IsPy f p k) (e : IsEq p) (hk : k ≤ 64) {a b : α} : okDs [f a, f b] → ∀ m, g2 gEq [f a, f b] m = .ok (decide (a = b)) m ∧ okT (decide (a = b)) := fun _ m => by
  refine ⟨?_, trivial⟩
  show gEq (f a) (f b) m = _
  rw [(eq_gen (y.1 a m) (y.1 b m) (shaped_of y hk a) (shaped_of y hk b)).1]
  congr 1
  rw [Bool.eq_iff_iff, e a b, decide_eq_true_eq]
theorem f_ne [DecidableEq α] (y : IsPy f p k) (e : IsEq p) (hk : k ≤ 64) {a b : α} : okDs [f a, f b] → ∀ m, g2 gNe [f a, f b] m = .ok (!decide (a = b)) m ∧ okT (!decide (a = b)) := fun _ m => by
  refine ⟨?_, trivial⟩
  show gNe (f a) (f b) m = _
  rw [(eq_gen (y.1 a m) (y.1 b m) (shaped_of y hk a) (shaped_of y hk b)).2]
  congr 2
  rw [Bool.eq_iff_iff, e a b, decide_eq_true_eq]
theorem f_notN {a : Option α} (hn : ∀ a, isNon (f a) = false) : okDs [eO f a, .non] → ∀ m, g2 gNotN [eO f a, .non] m = .ok a.isSome m ∧ okT a.isSome := fun _ m => ⟨by cases a with
  | none => rfl
  | some a => simp only [g2, gNotN, eO, hn, Option.isSome_some, Bool.not_false], trivial⟩
def eqO (x y : D) : Option Bool := match toPy x [], toPy y [] with
  | some d, some e => if SeqAt.shaped d = true ∧ SeqAt.shaped e = true then some (PyData.eqv d e) else none
  | _, _ => none
mutual
theorem toPy_mem {m m' : M} : ∀ x : D, toPy x m = toPy x m'
  | .non => rfl
  | .bl _ => rfl
  | .int _ => rfl
  | .str _ => rfl
  | .ref _ => rfl
  | .exc _ => rfl
  | .emp => rfl
  | .obj _ _ _ => rfl
  | .tup xs => by simp only [toPy, toPys_mem (m := m) (m' := m') xs]
  | .lst xs => by simp only [toPy, toPys_mem (m := m) (m' := m') xs]
  | .frz xs => by simp only [toPy, toPys_mem (m := m) (m' := m') xs]
theorem toPys_mem {m m' : M} : ∀ xs : List D, toPys xs m = toPys xs m'
  | [] => rfl
  | x :: xs => by simp only [toPys, toPy_mem (m := m) (m' := m') x, toPys_mem (m := m) (m' := m') xs]
end
theorem f_neA {x y : D} : okDs [x, y] → ∀ b, (eqO x y).map (!·) = some b → ∀ m, g2 gNe [x, y] m = .ok b m ∧ okT b := fun _ b hb m => by
  obtain ⟨c, hc, rfl⟩ := Option.map_eq_some_iff.mp hb
  unfold eqO at hc
  rw [toPy_mem (m' := m) x, toPy_mem (m' := m) y] at hc
  split at hc
  · rename_i d e h1 h2
    split at hc
    · rename_i hs; cases hc; exact ⟨(eq_gen h1 h2 hs.1 hs.2).2, trivial⟩
    · cases hc
  · cases hc
end
theorem noRefs_iff : ∀ {xs : List D}, noRefs xs = true ↔ ∀ x ∈ xs, noRef x = true
  | [] => by simp [noRefs]
  | x :: xs => by simp only [noRefs, Bool.and_eq_true, noRefs_iff (xs := xs), List.mem_cons, forall_eq_or_imp]
theorem ok1 {x : D} (h : okDs [x]) : noRef x = true := (noRefs_cons h).1
theorem ok2 {x y : D} (h : okDs [x, y]) : noRef x = true ∧ noRef y = true := ⟨(noRefs_cons h).1, (noRefs_cons (noRefs_cons h).2).1⟩
section
variable {α β : Type} {f : α → D} {g : β → D} {xs ys : List α} {us : List β} {i : Int}
theorem f_lenT : okDs [eT f xs] → ∀ m, gLen [eT f xs] m = .ok (.int xs.length) m ∧ okD (.int xs.length) := fun _ m => ⟨by simp only [gLen, asSeq, List.length_map], rfl⟩
theorem f_lenL : okDs [eL f xs] → ∀ m, gLen [eL f xs] m = .ok (.int xs.length) m ∧ okD (.int xs.length) := fun _ m => ⟨by simp only [gLen, asSeq, List.length_map], rfl⟩
theorem f_lenZ : okDs [eZ f xs] → ∀ m, gLen [eZ f xs] m = .ok (.int xs.length) m ∧ okD (.int xs.length) := fun _ m => ⟨by simp only [gLen, asSeq, List.length_map], rfl⟩
theorem atI_map (i : Int) : atI (xs.map f) i = (atI xs i).map f := by
  unfold atI
  rw [List.length_map]
  cases ixN xs.length i with
  | none => rfl
  | some j => simp
theorem atI_mem {x : α} (h : atI xs i = some x) : x ∈ xs := by
  unfold atI at h
  obtain ⟨j, _, h2⟩ := Option.bind_eq_some_iff.mp h
  exact List.mem_of_getElem? h2
theorem f_ixT : okDs [eT f xs, .int i] → ∀ x, atI xs i = some x → ∀ m, g2 gIx [eT f xs, .int i] m = .ok (f x) m ∧ okD (f x) := fun o x hx m => ⟨by
  simp only [g2, gIx, asSeq, atI_map, hx, Option.map_some], noRefs_iff.mp (ok2 o).1 _ (List.mem_map_of_mem (atI_mem hx))⟩
theorem f_ixL : okDs [eL f xs, .int i] → ∀ x, atI xs i = some x → ∀ m, g2 gIx [eL f xs, .int i] m = .ok (f x) m ∧ okD (f x) := fun o x hx m => ⟨by
  simp only [g2, gIx, asSeq, atI_map, hx, Option.map_some], noRefs_iff.mp (ok2 o).1 _ (List.mem_map_of_mem (atI_mem hx))⟩
theorem f_ixZ : okDs [eZ f xs, .int i] → ∀ x, atI xs i = some x → ∀ m, g2 gIx [eZ f xs, .int i] m = .ok (f x) m ∧ okD (f x) := fun o x hx m => ⟨by
  simp only [g2, gIx, asSeq, atI_map, hx, Option.map_some], noRefs_iff.mp (ok2 o).1 _ (List.mem_map_of_mem (atI_mem hx))⟩
def catO {α : Type} (xs ys : List α) : Option (List α) := if xs.length + ys.length ≤ big then some (xs ++ ys) else none
theorem noRefs_app {a b : List D} (h : noRefs a = true) (h' : noRefs b = true) : noRefs (a ++ b) = true := noRefs_iff.mpr fun x hx => by
  rcases List.mem_append.mp hx with q | q
  · exact noRefs_iff.mp h x q
  · exact noRefs_iff.mp h' x q
theorem f_catT : okDs [eT f xs, eT f ys] → ∀ zs, catO xs ys = some zs → ∀ m, g2 gCatT [eT f xs, eT f ys] m = .ok (eT f zs) m ∧ okD (eT f zs) := fun o zs hz m => by
  unfold catO at hz
  split at hz
  · rename_i h
    cases hz
    refine ⟨by simp only [g2, gCatT, List.length_map, h, if_true, eT, List.map_append], ?_⟩
    show noRefs ((xs ++ ys).map f) = true
    rw [List.map_append]
    exact noRefs_app (ok2 o).1 (ok2 o).2
  · cases hz
def repI {α : Type} (xs : List α) (k : Int) : List α := (List.replicate k.toNat xs).flatten
def repTO {α : Type} (xs : List α) (k : Int) : Option (List α) := if (-(2 ^ 63) ≤ k ∧ k < 2 ^ 63) ∧ xs.length * k.toNat ≤ big then some (repI xs k) else none
theorem repD_map (k : Int) : repD (xs.map f) k = (repI xs k).map f := by
  unfold repD repI
  rw [List.map_flatten, List.map_replicate]
theorem mem_repI {k : Int} {x : α} (h : x ∈ repI xs k) : x ∈ xs := by
  unfold repI at h
  obtain ⟨l, h1, h2⟩ := List.mem_flatten.mp h
  rw [List.mem_replicate] at h1
  rw [← h1.2]; exact h2
theorem f_repT {k : Int} : okDs [eT f xs, .int k] → ∀ zs, repTO xs k = some zs → ∀ m, g2 gRepT [eT f xs, .int k] m = .ok (eT f zs) m ∧ okD (eT f zs) := fun o zs hz m => by
  unfold repTO at hz
  split at hz
  · rename_i h
    cases hz
    refine ⟨by simp only [g2, gRepT, List.length_map, h, and_self, if_true, repD_map], ?_⟩
    show noRefs ((repI xs k).map f) = true
    refine noRefs_iff.mpr fun x hx => ?_
    obtain ⟨y, hy, rfl⟩ := List.mem_map.mp hx
    exact noRefs_iff.mp (ok2 o).1 _ (List.mem_map_of_mem (mem_repI hy))
  · cases hz
theorem f_tupleL : okDs [eL f xs] → ∀ m, gTuple [eL f xs] m = .ok (eT f xs) m ∧ okD (eT f xs) := fun o m => ⟨rfl, ok1 o⟩
theorem f_listT : okDs [eT f xs] → ∀ m, gList [eT f xs] m = .ok (xs.map f) m ∧ okDs (xs.map f) := fun o m => ⟨rfl, ok1 o⟩
theorem intsD_map : ∀ ns : List Int, intsD (ns.map D.int) = some ns
  | [] => rfl
  | n :: ns => by simp only [List.map_cons, intsD]; rw [intsD_map ns]; rfl
theorem blsD_map : ∀ ns : List Bool, blsD (ns.map D.bl) = some ns
  | [] => rfl
  | n :: ns => by simp only [List.map_cons, blsD]; rw [blsD_map ns]; rfl
theorem f_sumT {ns : List Int} : okDs [eT D.int ns] → ∀ m, gSum [eT D.int ns] m = .ok (.int ns.sum) m ∧ okD (.int ns.sum) := fun _ m => ⟨by simp only [gSum, asSeq, intsD_map], rfl⟩
theorem f_allL {ns : List Bool} : okDs [eL D.bl ns] → ∀ m, gAll [eL D.bl ns] m = .ok (.bl (ns.all id)) m ∧ okD (.bl (ns.all id)) := fun _ m => ⟨by simp only [gAll, gBls, asList, blsD_map], rfl⟩
def maxO (ns : List Int) : Option Int := if ns.length = 0 then none else some (maxI ns)
theorem of_f {h : List Int → Int} {ns : List Int} {x : Int} {d : D} (hd : ∀ m, asSeq d m = some (ns.map D.int)) (hx : (if ns.length = 0 then none else some (h ns)) = some x) (m : M) : gOf h [d] m = .ok (.int x) m := by
  split at hx
  · cases hx
  · rename_i h0; cases hx; simp only [gOf, hd, intsD_map, h0, if_false]
theorem f_maxT {ns : List Int} : okDs [eT D.int ns] → ∀ x, maxO ns = some x → ∀ m, gMaxS [eT D.int ns] m = .ok (.int x) m ∧ okD (.int x) := fun _ x hx m => ⟨of_f (fun _ => rfl) hx m, rfl⟩
def gIS : D → M → R (List D) := fun x m => match fixS x with
  | some xs => .ok xs m
  | none => .bad
theorem i_p {e : SE} {Γ : Ga} {x : D} {ds : List D} (h : EP e Γ x) (hx : fixS x = some ds) (hd : noRef x = noRefs ds := by rfl) : AP (iS e) Γ ds := op_p (ok' := okDs) (g := gIS) h fun o m => ⟨by simp only [gIS, hx], by show noRefs ds = true; rw [← hd]; exact o⟩
theorem i_m {γ : Type} {e : SE} {Γ : Ga} {t : Option γ} {fx : γ → D} {ds : γ → List D} {G : γ → Ga} (h : EV e Γ t fx G) (hx : ∀ z, fixS (fx z) = some (ds z)) (hd : ∀ z, noRef (fx z) = noRefs (ds z) := by intro _; rfl) : AV (iS e) Γ t ds G := op_m (ok' := okDs) (g := gIS) h fun z o m => ⟨by simp only [gIS, hx], by show noRefs (ds z) = true; rw [← hd]; exact o⟩
theorem zipD_map : zipD (xs.map f) (us.map g) = (xs.zip us).map (e2 f g) := by
  unfold zipD
  rw [List.zip_map, List.map_map]
  rfl
theorem noRefs_zip {as bs : List D} (h : noRefs as = true) (h' : noRefs bs = true) : noRefs (zipD as bs) = true := noRefs_iff.mpr fun x hx => by
  obtain ⟨i, hi⟩ := List.getElem?_of_mem hx
  obtain ⟨a, b, ha, hb, rfl⟩ := zipD_get hi
  have h1 := noRefs_iff.mp h a (List.mem_of_getElem? ha)
  have h2 := noRefs_iff.mp h' b (List.mem_of_getElem? hb)
  simp [noRef, noRefs, h1, h2]
def gEnS : List D → M → R (List D) := fun xs m => match xs with
  | [x] => match fixS x with
    | some ys => .ok (enumD ys) m
    | none => .bad
  | _ => .bad
def gZiS : List D → M → R (List D) := fun xs m => match xs with
  | [x, y] => match fixS x, fixS y with
    | some xs, some ys => .ok (zipD xs ys) m
    | _, _ => .bad
  | _ => .bad
theorem zi_p {es : SA} {Γ : Ga} {x y : D} (h : AP es Γ [x, y]) (hx : fixS x = some (xs.map f)) (hy : fixS y = some (us.map g)) (hd : noRef x = noRefs (xs.map f) := by rfl) (he : noRef y = noRefs (us.map g) := by rfl) : AP (iZi es) Γ ((xs.zip us).map (e2 f g)) := op_p (ok' := okDs) (g := gZiS) h fun o m => ⟨by simp only [gZiS, hx, hy, zipD_map], by
  show noRefs _ = true
  rw [← zipD_map]
  exact noRefs_zip (by rw [← hd]; exact (ok2 o).1) (by rw [← he]; exact (ok2 o).2)⟩
def irg (lo : Int) (n : Nat) : List Int := (List.range n).map fun (i : Nat) => lo + (i : Int)
theorem rngD_irg (lo : Int) (n : Nat) : rngD lo 1 n = (irg lo n).map D.int := by
  unfold rngD irg
  rw [List.map_map]
  apply List.map_congr_left
  intro i _
  simp
theorem noRefs_int (ns : List Int) : noRefs (ns.map D.int) = true := noRefs_iff.mpr fun x hx => by obtain ⟨_, _, rfl⟩ := List.mem_map.mp hx; rfl
def rgO (lo hi : Int) : Option (List Int) := if (-lim62 ≤ lo ∧ lo < lim62) ∧ -lim62 ≤ hi ∧ hi < lim62 then some (irg lo (hi - lo).toNat) else none
def gRg1 : List D → M → R (List D) := fun xs m => match xs with
  | [.int j] => if -lim62 ≤ j ∧ j < lim62 then .ok (rngD 0 1 j.toNat) m else .bad
  | _ => .bad
def gRg2 : List D → M → R (List D) := fun xs m => match xs with
  | [.int i, .int j] => if (-lim62 ≤ i ∧ i < lim62) ∧ -lim62 ≤ j ∧ j < lim62 then .ok (rngD i 1 (j - i).toNat) m else .bad
  | _ => .bad
theorem f_rg1 {j : Int} : okDs [D.int j] → ∀ xs, rgO 0 j = some xs → ∀ m, gRg1 [.int j] m = .ok (xs.map D.int) m ∧ okDs (xs.map D.int) := fun _ xs hx m => by
  unfold rgO at hx
  split at hx
  · rename_i h; cases hx; exact ⟨by simp only [gRg1]; rw [if_pos h.2, rngD_irg, Int.sub_zero], noRefs_int _⟩
  · cases hx
theorem f_rg2 {i j : Int} : okDs [D.int i, D.int j] → ∀ xs, rgO i j = some xs → ∀ m, gRg2 [.int i, .int j] m = .ok (xs.map D.int) m ∧ okDs (xs.map D.int) := fun _ xs hx m => by
  unfold rgO at hx
  split at hx
  · rename_i h; cases hx; exact ⟨by simp only [gRg2]; rw [if_pos h, rngD_irg], noRefs_int _⟩
  · cases hx
theorem rg1_c {es : SA} {Γ : Ga} {j : Int} (h : AP es Γ [.int j]) : AV (iR1 es) Γ (rgO 0 j) (fun xs => xs.map D.int) (fun _ => Γ) := op_c (ok' := okDs) (g := gRg1) h f_rg1
theorem rg2_c {es : SA} {Γ : Ga} {i j : Int} (h : AP es Γ [.int i, .int j]) : AV (iR2 es) Γ (rgO i j) (fun xs => xs.map D.int) (fun _ => Γ) := op_c (ok' := okDs) (g := gRg2) h f_rg2
theorem rg2_m {γ : Type} {es : SA} {Γ : Ga} {t : Option γ} {G : γ → Ga} {i j : γ → Int} (h : AV es Γ t (fun z => [.int (i z), .int (j z)]) G) : AV (iR2 es) Γ (pairB t fun z => rgO (i z) (j z)) (fun c => c.2.map D.int) (fun c => G c.1) := op_mc (ok' := okDs) (g := gRg2) (k := fun z => rgO (i z) (j z)) (f := fun _ xs => xs.map D.int) h fun z => f_rg2
end
end Vi
namespace Vi
open PySem PySem.Spec PyProof.Rows L2
def compP {α β : Type} (L : List α) (q : α → Bool) (h : α → β) : Option (List β) := if L.length ≤ big then some ((L.filter q).map h) else none
def compA {α β : Type} (L : List α) (h : α → β) : Option (List β) := if L.length ≤ big then some (L.map h) else none
def eachO {α β σ : Type} (f : σ → α → Option (Option β × σ)) : List α → σ → Option (List β × σ)
  | [], s => some ([], s)
  | x :: xs, s => (f s x).bind fun r => (eachO f xs r.2).bind fun q => match r.1 with
    | some y => some (y :: q.1, q.2)
    | none => some q
def mapO' {α β : Type} (f : α → Option β) : List α → Option (List β)
  | [] => some []
  | x :: xs => (f x).bind fun y => (mapO' f xs).bind fun ys => some (y :: ys)
def compM {α β : Type} (L : List α) (f : α → Option β) : Option (List β) := if L.length ≤ big then mapO' f L else none
def filO {α β : Type} (f : α → Option (Option β)) : List α → Option (List β)
  | [] => some []
  | x :: xs => (f x).bind fun r => (filO f xs).bind fun q => match r with
    | some y => some (y :: q)
    | none => some q
def compF {α β : Type} (L : List α) (f : α → Option (Option β)) : Option (List β) := if L.length ≤ big then filO f L else none
def Cbp (g : SG) (t : SB) (el : SE) (d : D) (Γ : Ga) (k : Bool) (y : D) : Prop := noRef d = true → ∀ b P ρ m, Rel b P Γ ρ m → ∃ ρ1, g d ρ m = .ok ρ1 m ∧ t ρ1 m = .ok k m ∧ (k = true → el ρ1 m = .ok y m ∧ noRef y = true)
def Cbm {γ : Type} (g : SG) (t : SB) (el : SE) (d : D) (Γ : Ga) (u : Option γ) (y : γ → Option D) (G : γ → Ga) : Prop := noRef d = true → ∀ a, u = some a → ∀ b P ρ m, Rel b P Γ ρ m → ∃ ρ1, g d ρ m = .ok ρ1 m ∧ match y a with
  | some z => ∃ m1 m2, t ρ1 m = .ok true m1 ∧ el ρ1 m1 = .ok z m2 ∧ noRef z = true ∧ Rel b P (G a) ρ m2
  | none => ∃ m1, t ρ1 m = .ok false m1 ∧ Rel b P (G a) ρ m1
section
variable {α β γ σ : Type} {Γ : Ga} {own : List Nat} {src : SA} {g : SG} {t : SB} {el : SE} {d e k : D} {i j l : Nat} {q : Bool} {y : D}
theorem tys_p : TP tYs Γ true := fun b P ρ m r => ⟨rfl, trivial⟩
theorem cb_1 (ht : TP t (put Γ i (some (.v d))) q) (he : q = true → EP el (put Γ i (some (.v d))) y) : Cbp (gNm i) t el d Γ q y := fun hd b P ρ m r => by
  have r1 := r.put_v i hd
  exact ⟨_, rfl, (ht b P _ m r1).1, fun h => he h b P _ m r1⟩
theorem cb_2 (ht : TP t (put (put Γ i (some (.v d))) j (some (.v e))) q) (he : q = true → EP el (put (put Γ i (some (.v d))) j (some (.v e))) y) : Cbp (gTp 2 (gsCons (gNm i) (gsCons (gNm j) gsNil))) t el (.tup [d, e]) Γ q y := fun hd b P ρ m r => by
  simp only [noRef, noRefs, Bool.and_true, Bool.and_eq_true] at hd
  have r1 := (r.put_v i hd.1).put_v j hd.2
  exact ⟨_, rfl, (ht b P _ m r1).1, fun h => he h b P _ m r1⟩
theorem comp_core {em : α → D} {f : α → Bool} {h : α → β} {eb : β → D} (hb : ∀ x, Cbp g t el (em x) Γ (f x) (eb (h x))) : ∀ (L : List α), noRefs (L.map em) = true → ∀ b P ρ m, Rel b P Γ ρ m → compL g t el ρ (L.map em) m = .ok (((L.filter f).map h).map eb) m ∧ noRefs (((L.filter f).map h).map eb) = true
  | [], _, b, P, ρ, m, r => ⟨rfl, rfl⟩
  | x :: L, hn, b, P, ρ, m, r => by
    obtain ⟨n1, n2⟩ := noRefs_cons hn
    obtain ⟨ρ1, e1, e2, e3⟩ := hb x n1 b P ρ m r
    obtain ⟨ih, ih2⟩ := comp_core hb L n2 b P ρ m r
    cases q : f x with
    | true =>
      obtain ⟨e4, n4⟩ := e3 q
      rw [q] at e2
      have n4 : noRef (eb (h x)) = true := n4
      simp only [List.map_cons, compL, e1, bind_ok, e2, if_true, e4, ih, List.filter_cons, q]
      exact ⟨trivial, by simp only [noRefs, n4, ih2]; rfl⟩
    | false =>
      rw [q] at e2
      simp only [List.map_cons, compL, e1, bind_ok, e2, Bool.false_eq_true, if_false, ih, List.filter_cons, q]
      exact ⟨trivial, ih2⟩
theorem comp_p {L : List α} {em : α → D} {f : α → Bool} {h : α → β} {eb : β → D} (hs : AP src Γ (L.map em)) (hb : ∀ x, Cbp g t el (em x) (wipeG Γ own) (f x) (eb (h x))) : AV (sComp own src g t el) Γ (compP L f h) (fun ys => ys.map eb) (fun _ => Γ) := fun ys hy b P ρ m r => by
  (try dsimp only at hy)
  unfold compP at hy
  split at hy
  · rename_i hl
    cases hy
    obtain ⟨h1, h2⟩ := hs b P ρ m r
    obtain ⟨e1, e2⟩ := comp_core hb L h2 b P _ m (r.wipe own)
    exact ⟨m, by simp only [sComp, h1, bind_ok, List.length_map, hl, if_true, e1]; rfl, e2, r⟩
  · cases hy
theorem compA_of (L : List α) (h : α → β) : compP L (fun _ => true) h = compA L h := by
  unfold compP compA
  rw [List.filter_eq_self.mpr fun _ _ => rfl]
theorem comp_a {L : List α} {em : α → D} {h : α → β} {eb : β → D} (hs : AP src Γ (L.map em)) (hb : ∀ x, Cbp g t el (em x) (wipeG Γ own) true (eb (h x))) : AV (sComp own src g t el) Γ (compA L h) (fun ys => ys.map eb) (fun _ => Γ) := by
  rw [← compA_of]
  exact comp_p (f := fun _ => true) hs hb
theorem rel_back {b : M} {P : Ps} {ρ : En} {m : M} {x : Option D} (hi : lk Γ i = none) (r : Rel b P Γ (ρ.set i x) m) : Rel b P Γ ρ m := by
  have ne : ∀ j s, lk Γ j = some s → i ≠ j := fun j s h z => by subst z; rw [hi] at h; cases h
  obtain ⟨As, h1, h2⟩ := r.o
  exact ⟨by have := r.len; rwa [List.length_set] at this, fun j e h => by rw [← set_get (ne j _ h)]; exact r.v j e h, ⟨As, fun j t h => by rw [← set_get (ne j _ h)]; exact h1 j t h, h2⟩, fun j k t h => by rw [← set_get (ne j _ h)]; exact r.p j k t h, r.pi, r.fr, r.pd⟩
theorem rel_backs {b : M} {P : Ps} {m : M} : ∀ {own : List Nat} {ρ : En}, (∀ i ∈ own, lk Γ i = none) → Rel b P Γ (wipeE ρ own) m → Rel b P Γ ρ m
  | [], _, _, r => r
  | i :: own, ρ, h, r => rel_backs (own := own) (fun j hj => h j (List.mem_cons_of_mem _ hj)) (rel_back (h i (List.mem_cons_self ..)) r)
def tstO {γ δ : Type} (u : Option γ) (fb : γ → Bool) (v : Option δ) : Option (Option δ) := u.bind fun a => if fb a = true then v.map some else some none
theorem cf_one {δ : Type} {u : Option γ} {fb : γ → Bool} {v : Option δ} {f : δ → D} (ht : TV t (put Γ i (some (.v d))) u fb (fun _ => put Γ i (some (.v d)))) (he : EV el (put Γ i (some (.v d))) v f (fun _ => put Γ i (some (.v d)))) :
    Cbm (gNm i) t el d Γ (tstO u fb v) (fun a => a.map f) (fun _ => put Γ i none) := fun hd a ha b P ρ m r => by
  have back : ∀ m', Rel b P (put Γ i (some (.v d))) (ρ.set i (some d)) m' → Rel b P (put Γ i none) ρ m' := fun m' q => by
    have h1 := q.unset i
    rw [put_put, List.set_set] at h1
    exact rel_back (by
      cases z : lk (put Γ i none) i with
      | none => rfl
      | some s => have := (lk_put_eq z).1; cases this) h1
  unfold tstO at ha
  obtain ⟨z, hz, ha⟩ := Option.bind_eq_some_iff.mp ha
  obtain ⟨m1, e1, _, r1⟩ := ht z hz b P _ m (r.put_v i hd)
  cases q : fb z with
  | true =>
    rw [q, if_pos rfl] at ha
    obtain ⟨y, hy, rfl⟩ := Option.map_eq_some_iff.mp ha
    obtain ⟨m2, e2, n2, r2⟩ := he y hy b P _ m1 r1
    exact ⟨_, rfl, m1, m2, by rw [e1, q], e2, n2, back _ r2⟩
  | false =>
    rw [q] at ha
    simp only [Bool.false_eq_true, if_false, Option.some.injEq] at ha
    subst ha
    exact ⟨_, rfl, m1, by rw [e1, q], back _ r1⟩
theorem filO_core {em : α → D} {δ : Type} {f : α → Option (Option δ)} {eb : δ → D} {Γ' : Ga} (hb : ∀ x, Cbm g t el (em x) Γ (f x) (fun a => a.map eb) (fun _ => Γ')) (hw : Wk Γ' Γ) : ∀ (L : List α) (ys : List δ), filO f L = some ys → noRefs (L.map em) = true → ∀ b P ρ m, Rel b P Γ ρ m →
    ∃ m', compL g t el ρ (L.map em) m = .ok (ys.map eb) m' ∧ noRefs (ys.map eb) = true ∧ Rel b P Γ ρ m'
  | [], ys, h, _, b, P, ρ, m, r => by cases h; exact ⟨m, rfl, rfl, r⟩
  | x :: L, ys, h, hn, b, P, ρ, m, r => by
    obtain ⟨n1, n2⟩ := noRefs_cons hn
    obtain ⟨a, h1, h⟩ := Option.bind_eq_some_iff.mp h
    obtain ⟨zs, h2, h⟩ := Option.bind_eq_some_iff.mp h
    obtain ⟨ρ1, e1, q⟩ := hb x n1 a h1 b P ρ m r
    cases a with
    | none =>
      cases h
      obtain ⟨m1, e2, r1⟩ := q
      obtain ⟨m2, e3, n3, r2⟩ := filO_core hb hw L _ h2 n2 b P ρ m1 (r1.wk hw)
      exact ⟨m2, by simp only [List.map_cons, compL, e1, bind_ok, e2, Bool.false_eq_true, if_false, e3], n3, r2⟩
    | some y =>
      cases h
      obtain ⟨m1, m2, e2, e3, n3, r2⟩ := q
      obtain ⟨m3, e4, n4, r3⟩ := filO_core hb hw L _ h2 n2 b P ρ m2 (r2.wk hw)
      have n3 : noRef (eb y) = true := n3
      exact ⟨m3, by simp only [List.map_cons, compL, e1, bind_ok, e2, if_true, e3, e4], by simp only [List.map_cons, noRefs, n3, n4]; rfl, r3⟩
theorem filO_map {δ : Type} (f : α → Option δ) : ∀ L : List α, filO (fun x => (f x).map some) L = mapO' f L
  | [] => rfl
  | x :: L => by
    simp only [filO, mapO', filO_map f L]
    cases f x <;> rfl
theorem comp_f {L : List α} {em : α → D} {δ : Type} {f : α → Option (Option δ)} {eb : δ → D} {Γ' : Ga} (hs : AP src Γ (L.map em)) (hb : ∀ x, Cbm g t el (em x) (wipeG Γ own) (f x) (fun a => a.map eb) (fun _ => Γ')) (hw : Wk Γ' (wipeG Γ own)) (hn : ∀ i ∈ own, lk (wipeG Γ own) i = none) :
    AV (sComp own src g t el) Γ (compF L f) (fun ys => ys.map eb) (fun _ => wipeG Γ own) := fun ys hy b P ρ m r => by
  (try dsimp only at hy)
  unfold compF at hy
  split at hy
  · rename_i hl
    obtain ⟨h1, h2⟩ := hs b P ρ m r
    obtain ⟨m', e1, e2, r2⟩ := filO_core hb hw L ys hy h2 b P _ m (r.wipe own)
    exact ⟨m', by simp only [sComp, h1, bind_ok, List.length_map, hl, if_true, e1]; rfl, e2, rel_backs hn r2⟩
  · cases hy
theorem comp_fM {w : Option γ} {L : γ → List α} {em : α → D} {δ : Type} {f : γ → α → Option (Option δ)} {eb : δ → D} {G Γ' : γ → Ga} (hs : AV src Γ w (fun z => (L z).map em) G) (hb : ∀ z x, Cbm g t el (em x) (wipeG (G z) own) (f z x) (fun a => a.map eb) (fun _ => Γ' z)) (hw : ∀ z, Wk (Γ' z) (wipeG (G z) own)) (hn : ∀ z, ∀ i ∈ own, lk (wipeG (G z) own) i = none) :
    AV (sComp own src g t el) Γ (pairB w fun z => compF (L z) (f z)) (fun c => c.2.map eb) (fun c => wipeG (G c.1) own) := fun c hc b P ρ m r => by
  unfold pairB at hc
  obtain ⟨z, hz, hc⟩ := Option.bind_eq_some_iff.mp hc
  obtain ⟨y, hy, hc⟩ := Option.bind_eq_some_iff.mp hc
  cases hc
  obtain ⟨m1, h1, h2, r1⟩ := hs z hz b P ρ m r
  (try dsimp only at hy)
  unfold compF at hy
  split at hy
  · rename_i hl
    obtain ⟨m', e1, e2, r2⟩ := filO_core (hb z) (hw z) (L z) y hy h2 b P _ m1 (r1.wipe own)
    exact ⟨m', by simp only [sComp, h1, bind_ok, List.length_map, hl, if_true, e1]; rfl, e2, rel_backs (hn z) r2⟩
  · cases hy
theorem comp_m {L : List α} {em : α → D} {δ : Type} {f : α → Option δ} {eb : δ → D} {Γ' : Ga} (hs : AP src Γ (L.map em)) (hb : ∀ x, Cbm g t el (em x) (wipeG Γ own) ((f x).map some) (fun a => a.map eb) (fun _ => Γ')) (hw : Wk Γ' (wipeG Γ own)) (hn : ∀ i ∈ own, lk (wipeG Γ own) i = none) :
    AV (sComp own src g t el) Γ (compM L f) (fun ys => ys.map eb) (fun _ => wipeG Γ own) := by
  have := comp_f hs hb hw hn
  unfold compF at this
  unfold compM
  simpa only [filO_map] using this
theorem comp_mM {w : Option γ} {L : γ → List α} {em : α → D} {δ : Type} {f : γ → α → Option δ} {eb : δ → D} {G Γ' : γ → Ga} (hs : AV src Γ w (fun z => (L z).map em) G) (hb : ∀ z x, Cbm g t el (em x) (wipeG (G z) own) ((f z x).map some) (fun a => a.map eb) (fun _ => Γ' z)) (hw : ∀ z, Wk (Γ' z) (wipeG (G z) own)) (hn : ∀ z, ∀ i ∈ own, lk (wipeG (G z) own) i = none) :
    AV (sComp own src g t el) Γ (pairB w fun z => compM (L z) (f z)) (fun c => c.2.map eb) (fun c => wipeG (G c.1) own) := by
  have := comp_fM hs hb hw hn
  unfold compF at this
  unfold compM
  simpa only [filO_map] using this
theorem Cbm.map {γ' : Type} {u : Option γ} {y : γ → Option D} {G : γ → Ga} (h : Cbm g t el d Γ u y G) (v : γ → γ') {y' : γ' → Option D} {G' : γ' → Ga} (hy : ∀ a, y a = y' (v a)) (hG : ∀ a, G a = G' (v a)) : Cbm g t el d Γ (u.map v) y' G' := fun hd c hc b P ρ m r => by
  obtain ⟨a, ha, rfl⟩ := Option.map_eq_some_iff.mp hc
  rw [← hy, ← hG]
  exact h hd a ha b P ρ m r
end
def exO {β : Type} (xs ys : List β) : Option (List β) := if xs.length + ys.length ≤ big then some (xs ++ ys) else none
def stO {β : Type} (xs : List β) (k : Int) (v : β) : Option (List β) := (ixN xs.length k).map fun j => xs.set j v
theorem chg_lst {m : M} {n : Nat} {xs ys : List D} (h : m[n]? = some (.lst xs)) (hy : noRefs ys = true) : Chg [n] m (m.set n (.lst ys)) ∧ Has (m.set n (.lst ys)) [n] (.ref n) (.lst ys) := by
  have hn := (List.getElem?_eq_some_iff.mp h).1
  exact ⟨⟨List.length_set .., fun j hj => List.getElem?_set_ne fun e => hj (by simp [e])⟩, .lst (List.getElem?_set_self hn) hy⟩
section
variable {α β γ : Type} {Γ : Ga} {c : SS} {t : Option α} {F : α → Out} {o e ix : SE} {f : β → D} {xs : List β} {up : T → Ga}
theorem hasL_get {m : M} : ∀ {A : List Nat} {ds : List D} {ts : List T} {j : Nat} {t : T}, HasL m A ds ts → ts[j]? = some t → ∃ d B, ds[j]? = some d ∧ Has m B d t ∧ (∀ a ∈ B, a ∈ A) ∧
    ∀ (m' : M) (t' : T), (∀ a ∈ A, a ∉ B → m'[a]? = m[a]?) → Has m' B d t' → HasL m' A ds (ts.set j t')
  | _, _, _, j, _, .nil, h => by simp at h
  | _, _, _, 0, t, .cons (A := A) (B := B) h l n, e => by
    simp at e
    subst e
    refine ⟨_, A, rfl, h, fun a ha => List.mem_append_left _ ha, fun m' t' fr hh => ?_⟩
    exact .cons hh (l.frame fun a ha => fr a (List.mem_append_right _ ha) fun h' => n a h' ha) n
  | _, _, _, j + 1, t, .cons (A := A) (B := B) h l n, e => by
    obtain ⟨d, C, e1, h1, s1, go⟩ := hasL_get (j := j) l (by simpa using e)
    refine ⟨d, C, by simpa using e1, h1, fun a ha => List.mem_append_right _ (s1 a ha), fun m' t' fr hh => ?_⟩
    exact .cons (h.frame fun a ha => fr a (List.mem_append_left _ ha) fun h' => n a ha (s1 a h')) (go m' t' (fun a ha h' => fr a (List.mem_append_right _ ha) h') hh) n
theorem hasL_len {m : M} : ∀ {A : List Nat} {ds : List D} {ts : List T}, HasL m A ds ts → ds.length = ts.length
  | _, _, _, .nil => rfl
  | _, _, _, .cons _ l _ => by simp [hasL_len l]
theorem pl_ix {ts : List T} {k : Int} {j : Nat} {tk : T} (h : Pl o Γ (.lls ts) up) (hi : EP ix Γ (.int k)) (hk : ixN ts.length k = some j) (ht : ts[j]? = some tk) : Pl (sBin gIx o ix) Γ tk (fun t' => up (.lls (ts.set j t'))) := fun b P ρ m r => by
  obtain ⟨A, d, h1, h2, h3⟩ := h b P ρ m r
  obtain ⟨i1, _⟩ := hi b P ρ m r
  cases h2 with
  | @lls n ds B _ hm hl hn =>
    obtain ⟨d', C, e1, q1, s1, go⟩ := hasL_get hl ht
    refine ⟨C, d', ?_, q1, fun m' t' ch hh => h3 m' _ ⟨ch.len, fun a ha => ch.out a fun h' => ha (List.mem_cons_of_mem _ (s1 a h'))⟩ (.lls ?_ (go m' t' (fun a _ ha => ch.out a ha) hh) hn)⟩
    · simp only [sBin, h1, bind_ok, i1, gIx, asSeq, hm]
      have : atI ds k = some d' := by
        unfold atI
        rw [hasL_len hl, hk]
        exact e1
      simp only [this]
    · rw [ch.out n fun h' => hn (s1 n h')]; exact hm
theorem sim_ext {ys : List β} {K : List β → Option α} (hp : Pl o Γ (trL f xs) up) (he : EP e Γ (eL f ys)) (k : ∀ zs, Sim c (up (trL f zs)) (K zs) F) : Sim (sSeq (sDrop (sExt o e)) c) Γ ((exO xs ys).bind K) F := fun y hy b P ρ m r => by
  obtain ⟨zs, hzs, hy⟩ := Option.bind_eq_some_iff.mp hy
  unfold exO at hzs
  split at hzs
  · rename_i hl
    cases hzs
    obtain ⟨A, d, h1, h2, h3⟩ := hp b P ρ m r
    obtain ⟨e1, e2⟩ := he b P ρ m r
    have e2 : noRefs (ys.map f) = true := e2
    cases h2 with
    | @lst n _ hm hn =>
      have hz : noRefs ((xs ++ ys).map f) = true := by
        rw [List.map_append]
        exact noRefs_app hn e2
      obtain ⟨ch, hh⟩ := chg_lst hm hz
      have := k _ y hy b P ρ _ (h3 _ _ ch hh)
      have ev : sExt o e ρ m = .ok .non (m.set n (.lst ((xs ++ ys).map f))) := by
        simp only [sExt, h1, bind_ok, hm, e1, asLst, List.length_map, hl, if_true, List.map_append]
      simpa only [sSeq, sDrop, ev, toO_ok, then_nx] using this
  · cases hzs
theorem noRefs_set {xs : List D} {j : Nat} {v : D} (h : noRefs xs = true) (hv : noRef v = true) : noRefs (xs.set j v) = true := noRefs_iff.mpr fun x hx => by
  rcases List.mem_or_eq_of_mem_set hx with q | q
  · exact noRefs_iff.mp h x q
  · rw [q]; exact hv
theorem sim_setM {w : Option γ} {fv : γ → D} {G : γ → Ga} {v : γ → β} {xs : γ → List β} {kx : γ → Int} {up : γ → T → Ga} {K : γ → List β → Option α} (he : EV e Γ w fv G) (hv : ∀ z, fv z = f (v z)) (hp : ∀ z, Pl o (G z) (trL f (xs z)) (up z)) (hi : ∀ z, EP ix (G z) (.int (kx z))) (k : ∀ z zs, Sim c (up z (trL f zs)) (K z zs) F) :
    Sim (sSeq (sAsg e (gSb o ix)) c) Γ (w.bind fun z => (stO (xs z) (kx z) (v z)).bind (K z)) F := fun y hy b P ρ m r => by
  obtain ⟨z, hz, hy⟩ := Option.bind_eq_some_iff.mp hy
  obtain ⟨zs, hzs, hy⟩ := Option.bind_eq_some_iff.mp hy
  unfold stO at hzs
  obtain ⟨j, hj, rfl⟩ := Option.map_eq_some_iff.mp hzs
  obtain ⟨m1, e1, e2, r1⟩ := he z hz b P ρ m r
  rw [hv] at e1 e2
  obtain ⟨A, d, h1, h2, h3⟩ := hp z b P ρ m1 r1
  obtain ⟨i1, _⟩ := hi z b P ρ m1 r1
  cases h2 with
  | @lst n _ hm hn =>
    have hz : noRefs (((xs z).set j (v z)).map f) = true := by
      rw [List.map_set]
      exact noRefs_set hn e2
    obtain ⟨ch, hh⟩ := chg_lst hm hz
    have := k z _ y hy b P ρ _ (h3 _ _ ch hh)
    have ev : setIt (.ref n) (.int (kx z)) (f (v z)) m1 = .ok () (m1.set n (.lst (((xs z).set j (v z)).map f))) := by
      simp only [setIt, hm, List.length_map, hj, List.map_set]
    simpa only [sSeq, sAsg, gSb, e1, toO_ok, h1, bind_ok, i1, ev, then_nx] using this
theorem rd_call {g : List D → M → R D} {t0 : T} {d : D} (h : RdT o Γ t0) (hg : ∀ A x m, Has m A x t0 → g [x] m = .ok d m ∧ okD d) : EP (sCall g (sCons o sNil)) Γ d := fun b P ρ m r => by
  obtain ⟨A, x, h1, h2⟩ := h b P ρ m r
  obtain ⟨h3, h4⟩ := hg A x m h2
  exact ⟨by simp only [sCall, sCons, sNil, h1, bind_ok, h3], h4⟩
theorem rd_callLC {g : List D → M → R (List D)} {t0 : T} {w : Option γ} {fv : γ → List D} (h : RdT o Γ t0) (hg : ∀ z, w = some z → ∀ A x m, Has m A x t0 → g [x] m = .ok (fv z) m ∧ okDs (fv z)) : AV (sCallL g (sCons o sNil)) Γ w fv (fun _ => Γ) := fun z hz b P ρ m r => by
  obtain ⟨A, x, h1, h2⟩ := h b P ρ m r
  obtain ⟨h3, h4⟩ := hg z hz A x m h2
  exact ⟨m, by simp only [sCallL, sCons, sNil, h1, bind_ok, h3], h4, r⟩
theorem o_tuple {xs : List β} : ∀ A x m, Has m A x (trL f xs) → gTuple [x] m = .ok (eT f xs) m ∧ okD (eT f xs) := fun A x m h => by
  cases h with
  | lst hm hn => exact ⟨by simp only [gTuple, asList, hm], hn⟩
theorem rd_ix {kx : Int} (h : RdT o Γ (trL f xs)) (hi : EP ix Γ (.int kx)) : EV (sBin gIx o ix) Γ (atI xs kx) f (fun _ => Γ) := fun z hz b P ρ m r => by
  obtain ⟨A, x, h1, h2⟩ := h b P ρ m r
  obtain ⟨i1, _⟩ := hi b P ρ m r
  cases h2 with
  | @lst n _ hm hn =>
    refine ⟨m, ?_, noRefs_iff.mp hn _ (List.mem_map_of_mem (atI_mem hz)), r⟩
    simp only [sBin, h1, bind_ok, i1, gIx, asSeq, hm, atI_map, hz, Option.map_some]
end
end Vi
namespace Vi
open PySem PySem.Spec PyProof.Rows L2
section
variable {α β γ δ σ : Type} {Γ : Ga} {a b : SB} {e e' : SE} {c : SS} {t : Option α} {F : α → Out}
theorem or_g {k : Bool} {u : Option α} {f : α → Bool} {G : α → Ga} {z0 : α} (h : TP a Γ k) (h' : k = false → TV b Γ u f G) (hf : f z0 = true) (hw : Wk Γ (G z0)) : TV (sOr a b) Γ (if k = true then some z0 else u) f G := fun x hx b' P ρ m r => by
  obtain ⟨h1, _⟩ := h b' P ρ m r
  cases k with
  | false =>
    simp only [Bool.false_eq_true, if_false] at hx
    obtain ⟨m', h3, h4, h5⟩ := h' rfl x hx b' P ρ m r
    exact ⟨m', by simp only [sOr, h1, bind_ok]; exact h3, h4, h5⟩
  | true =>
    rw [if_pos rfl] at hx
    cases hx
    exact ⟨m, by simp only [sOr, h1, bind_ok, hf]; rfl, trivial, r.wk hw⟩
theorem or_gm {w : Option γ} {fa : γ → Bool} {Ga' : γ → Ga} {u : γ → Option α} {f : α → Bool} {G : α → Ga} {z0 : γ → α} (h : TV a Γ w fa Ga') (h' : ∀ z, fa z = false → TV b (Ga' z) (u z) f G) (hf : ∀ z, f (z0 z) = true) (hw : ∀ z, Wk (Ga' z) (G (z0 z))) :
    TV (sOr a b) Γ (w.bind fun z => if fa z = true then some (z0 z) else u z) f G := fun x hx b' P ρ m r => by
  obtain ⟨z, hz, hx⟩ := Option.bind_eq_some_iff.mp hx
  obtain ⟨m1, h1, _, r1⟩ := h z hz b' P ρ m r
  cases q : fa z with
  | false =>
    rw [q] at hx
    simp only [Bool.false_eq_true, if_false] at hx
    obtain ⟨m', h3, h4, h5⟩ := h' z q x hx b' P ρ m1 r1
    exact ⟨m', by simp only [sOr, h1, bind_ok, q]; exact h3, h4, h5⟩
  | true =>
    rw [q, if_pos rfl] at hx
    cases hx
    exact ⟨m1, by simp only [sOr, h1, bind_ok, q, hf]; rfl, trivial, r1.wk (hw z)⟩
theorem Rel.grow {b : M} {P : Ps} {ρ : En} {m : M} (r : Rel b P Γ ρ m) (x : Cell) : Rel b P Γ ρ (m ++ [x]) := by
  have g : ∀ (j : Nat), j < m.length → (m ++ [x])[j]? = m[j]? := fun j hj => List.getElem?_append_left hj
  obtain ⟨As, h1, h2⟩ := r.o
  exact ⟨r.len, r.v, ⟨As, fun i t h => let ⟨d, q1, q2, q3⟩ := h1 i t h; ⟨d, q1, q2.frame fun a ha => g a (q2.lt a ha), q3⟩, h2⟩, fun i k t h => let ⟨A, d, q1, q2, q3⟩ := r.p i k t h; ⟨A, d, q1, q2, q3.frame fun a ha => g a (q3.lt a ha)⟩, r.pi,
    ⟨by simp only [List.length_append]; have := r.fr.len; omega, fun j c hj hc => by rw [g j (Nat.lt_of_lt_of_le hj r.fr.len)] at hc; exact r.fr.old j c hj hc⟩, r.pd⟩
inductive It' where
  | v (d : D) | n (ds : List D) | dt (kvs : List (List Key × D))
end
section
variable {α β γ δ ε : Type} {Γ : Ga} {c : SS} {t : Option α} {F : α → Out} {i j l : Nat}
end
section
variable {α β : Type} {F : Fn} {args : SA} {Γ : Ga} {u : Option β} {f : β → Out}
theorem fn_exit' {n : Nat} {body : SS} {ss : List S} {Γ0 : Ga} {t : Option α} {f : α → Out} (hΓ : ga0 n ss = Γ0) (hf : ∀ a, (∃ d ts, f a = .rt d ts) ∨ (∃ ts, f a = .fin ts) ∨ ∃ c ts, f a = .ex c ts) (h : Sim body Γ0 t f) : FnT (exitF (runDef n body)) ss t f := by
  subst hΓ; exact fn_exit hf h
theorem fn_new' {n : Nat} {body : SS} {ss : List S} {Γ0 : Ga} {t : Option α} {f : α → Out} (hΓ : ga0 n ss = Γ0) (hf : ∀ a, ∃ t ts, f a = .rl t ts) (h : Sim body Γ0 t f) : FnT (runDef n body) ss t f := by
  subst hΓ; exact fn_new hf h
theorem call_fnP (sl : List Nat) (ts : β → List T) {val : β → D} {ss : List S} {ars : List Ar} {Γ' : Ga} (hA : GA args Γ (some ()) (fun _ => ars) (fun _ => Γ')) (hF : FnT F ss u f) (nd : sl.Nodup) (hsl : ∀ i ∈ sl, ∃ s t, lk Γ' i = some s ∧ treeOf s = some t) (np : (pix ss).Nodup) (hfit : Fit Γ' sl ars ss)
    (hl : ∀ b, (ts b).length = sl.length) (hf : ∀ b, f b = .rt (val b) (ts b) ∨ (f b = .fin (ts b) ∧ val b = .non)) :
    EV (sCall F args) Γ u val (fun c => putTs Γ' sl (ts c)) := fun y hy b P ρ m r => by
  have := call_fn (α := Unit) (t := some ()) (u := fun _ => u) (f := fun _ => f) sl (fun _ => ts) (val := fun _ => val) (ss := fun _ => ss) hA (fun _ => hF) nd (fun _ => hsl) (fun _ => np) (fun _ => hfit) (fun _ => hl) (fun _ => hf)
  exact this ((), y) (by simp [pairB, hy]) b P ρ m r
theorem call_newP (sl : List Nat) (ts : β → List T) {val : β → T} {ss : List S} {ars : List Ar} {Γ' : Ga} (hA : GA args Γ (some ()) (fun _ => ars) (fun _ => Γ')) (hF : FnT F ss u f) (nd : sl.Nodup) (hsl : ∀ i ∈ sl, ∃ s t, lk Γ' i = some s ∧ treeOf s = some t) (np : (pix ss).Nodup) (hfit : Fit Γ' sl ars ss)
    (hl : ∀ b, (ts b).length = sl.length) (hf : ∀ b, f b = .rl (val b) (ts b)) :
    EO (sCall F args) Γ u val (fun c => putTs Γ' sl (ts c)) := fun y hy b P ρ m r => by
  have := call_new (α := Unit) (t := some ()) (u := fun _ => u) (f := fun _ => f) sl (fun _ => ts) (val := fun _ => val) (ss := fun _ => ss) hA (fun _ => hF) nd (fun _ => hsl) (fun _ => np) (fun _ => hfit) (fun _ => hl) (fun _ => hf)
  exact this ((), y) (by simp [pairB, hy]) b P ρ m r
theorem sl_0 {Γ : Ga} : ∀ j ∈ ([] : List Nat), ∃ s t, lk Γ j = some s ∧ treeOf s = some t := fun j hj => by cases hj
theorem sl_c {Γ : Ga} {i : Nat} {is : List Nat} {s : S} {t : T} (h : lk Γ i = some s) (h' : treeOf s = some t) (r : ∀ j ∈ is, ∃ s t, lk Γ j = some s ∧ treeOf s = some t) : ∀ j ∈ i :: is, ∃ s t, lk Γ j = some s ∧ treeOf s = some t := fun j hj => by
  rcases List.mem_cons.mp hj with e | e
  · rw [e]; exact ⟨s, t, h, h'⟩
  · exact r j e
end
section
variable {α β γ : Type} {Γ : Ga} {f : α → D} {xs : List α} {lo hi : Option Int} {o : SE} {dl dh : SO}
def cutI {α : Type} (xs : List α) (lo hi : Option Int) : List α := (xs.drop (HT.sIx xs.length 0 lo)).take (HT.sIx xs.length xs.length hi - HT.sIx xs.length 0 lo)
theorem cutD_map : cutD (xs.map f) lo hi = (cutI xs lo hi).map f := by
  unfold cutD cutI
  rw [List.length_map, List.map_take, List.map_drop]
theorem mem_cutI {x : α} (h : x ∈ cutI xs lo hi) : x ∈ xs := List.mem_of_mem_drop (List.mem_of_mem_take h)
abbrev OP (e : SO) (Γ : Ga) (d : Option Int) : Prop := EpG okT e Γ d
theorem so_no : OP sNo Γ none := fun b P ρ m r => ⟨rfl, trivial⟩
theorem so_some {e : SE} {i : Int} (h : EP e Γ (.int i)) : OP (sSome e) Γ (some i) := fun b P ρ m r => ⟨by simp only [sSome, (h b P ρ m r).1, bind_ok], trivial⟩
theorem cutT_p (h : EP o Γ (eT f xs)) (hl : OP dl Γ lo) (hh : OP dh Γ hi) : EP (sCutT o dl dh) Γ (eT f (cutI xs lo hi)) := fun b P ρ m r => by
  obtain ⟨h1, h2⟩ := h b P ρ m r
  refine ⟨by simp only [sCutT, h1, bind_ok, (hl b P ρ m r).1, (hh b P ρ m r).1, cutD_map], ?_⟩
  refine noRefs_iff.mpr fun x hx => ?_
  obtain ⟨y, hy, rfl⟩ := List.mem_map.mp hx
  exact noRefs_iff.mp h2 _ (List.mem_map_of_mem (mem_cutI hy))
theorem rev_p (h : EP o Γ (eL f xs)) : AP (sRev o) Γ (xs.reverse.map f) := fun b P ρ m r => by
  obtain ⟨h1, h2⟩ := h b P ρ m r
  refine ⟨by simp only [sRev, h1, bind_ok, asList, List.map_reverse], ?_⟩
  refine noRefs_iff.mpr fun x hx => ?_
  obtain ⟨y, hy, rfl⟩ := List.mem_map.mp hx
  exact noRefs_iff.mp h2 _ (List.mem_map_of_mem (List.mem_reverse.mp hy))
theorem rev_m {t : Option γ} {xs : γ → List α} {G : γ → Ga} (h : EV o Γ t (fun z => eL f (xs z)) G) : AV (sRev o) Γ t (fun z => (xs z).reverse.map f) G := fun z hz b P ρ m r => by
  obtain ⟨m', h1, h2, r1⟩ := h z hz b P ρ m r
  refine ⟨m', by simp only [sRev, h1, bind_ok, asList, List.map_reverse], ?_, r1⟩
  refine noRefs_iff.mpr fun x hx => ?_
  obtain ⟨y, hy, rfl⟩ := List.mem_map.mp hx
  exact noRefs_iff.mp h2 _ (List.mem_map_of_mem (List.mem_reverse.mp hy))
def sortI (rev : Bool) (ns : List Int) : List Int := ns.mergeSort fun a b => if rev = true then decide (b ≤ a) else decide (a ≤ b)
theorem sortI_perm (rev : Bool) (ns : List Int) : (sortI rev ns).Perm ns := List.mergeSort_perm _ _
theorem sortI_up (ns : List Int) : (sortI false ns).Pairwise (· ≤ ·) := by
  have := List.pairwise_mergeSort (le := fun a b : Int => if false = true then decide (b ≤ a) else decide (a ≤ b)) (fun a b c h1 h2 => by simp at *; omega) (fun a b => by simp; omega) ns
  exact this.imp fun h => by simpa using h
theorem sortI_down (ns : List Int) : (sortI true ns).Pairwise (fun a b => b ≤ a) := by
  have := List.pairwise_mergeSort (le := fun a b : Int => if true = true then decide (b ≤ a) else decide (a ≤ b)) (fun a b c h1 h2 => by simp at *; omega) (fun a b => by simp; omega) ns
  exact this.imp fun h => by simpa using h
theorem sort_uniq {r : Int → Int → Prop} (anti : ∀ a b, r a b → r b a → a = b) : ∀ {xs ys : List Int}, xs.Pairwise r → ys.Pairwise r → xs.Perm ys → xs = ys
  | [], ys, _, _, p => by rw [List.nil_perm.mp p]
  | x :: xs, [], _, _, p => by have := p.length_eq; simp at this
  | x :: xs, y :: ys, h1, h2, p => by
    have e : x = y := by
      have m1 : x ∈ y :: ys := p.subset (List.mem_cons_self ..)
      have m2 : y ∈ x :: xs := p.symm.subset (List.mem_cons_self ..)
      rcases List.mem_cons.mp m1 with q | q
      · exact q
      · rcases List.mem_cons.mp m2 with q' | q'
        · exact q'.symm
        · exact anti _ _ ((List.pairwise_cons.mp h1).1 y q') ((List.pairwise_cons.mp h2).1 x q)
    subst e
    rw [sort_uniq anti (List.pairwise_cons.mp h1).2 (List.pairwise_cons.mp h2).2 (List.perm_cons x |>.mp p)]
theorem v_sort (rev : Bool) (ns : List Int) (m : M) : gSorted rev [.lst (ns.map D.int)] m = .ok ((sortI rev ns).map D.int) m := by
  obtain ⟨qs, h1, h2, h3⟩ := v_sortI ns m rev
  rw [h1]
  have : qs = sortI rev ns := by
    cases rev with
    | true => exact sort_uniq (r := fun a b => b ≤ a) (fun a b h h' => Int.le_antisymm h' h) (by simpa using h3) (sortI_down ns) (h2.trans (sortI_perm true ns).symm)
    | false => exact sort_uniq (r := fun a b => a ≤ b) (fun a b h h' => Int.le_antisymm h h') (by simpa using h3) (sortI_up ns) (h2.trans (sortI_perm false ns).symm)
  rw [this]
theorem f_flDs : ∀ ns : List Int, flDs (ns.map D.int) = some (ns.map V.int)
  | [] => rfl
  | n :: ns => by simp only [List.map_cons, flDs, flD, f_flDs ns]
end
section
variable {Γ : Ga} {e : SE} {d : D} {T U : String} {k l : Bool}
def kindO : D → Option String
  | .non => some "NoneType"
  | .bl _ => some "bool"
  | .int _ => some "int"
  | .str _ => some "str"
  | .tup _ => some "tuple"
  | .lst _ => some "list"
  | .frz _ => some "list"
  | .ref _ => none
  | .exc _ => none
  | .emp => some "dict"
  | .obj _ _ _ => none
def isiO (T : String) (d : D) : Option Bool := (kindO d).bind fun n => kitB n T
theorem tyN_kind {d : D} {m : M} (h : noRef d = true) : tyN d m = kindO d := by cases d <;> first | rfl | cases h
theorem isi_p (h : EP e Γ d) (hk : isiO T d = some k) : EP (sIsi T e) Γ (.bl k) := fun b P ρ m r => by
  obtain ⟨h1, h2⟩ := h b P ρ m r
  unfold isiO at hk
  obtain ⟨n, q1, q2⟩ := Option.bind_eq_some_iff.mp hk
  exact ⟨by simp only [sIsi, h1, bind_ok, tyN_kind h2, q1, q2], rfl⟩
end
section
variable {α β γ σ : Type} {Γ : Ga} {a c : SS} {F : α → Out}
theorem sim_forRP {ρ' : Type} {it : SA} {g : SG} {em : β → D} {xs : List β} {s0 : σ} (G : σ → Ga) {step : σ → β → Option (Lp ρ' σ)} {wr : ρ' → α} {K : σ → Option α} (hi : AP it Γ (xs.map em)) (hG : Wk Γ (G s0))
    (hw : ∀ v, isRet (F (wr v)) = true) (hb : ∀ s x, Bod g a (em x) (G s) (step s x) (FR G fun v => F (wr v))) (k : ∀ s, Sim c (G s) (K s) F) : Sim (sSeq (sFor it g a) c) Γ (bindR wr (forR step xs s0) K) F :=
  sim_forR (w := some ()) (xs := fun _ => xs) (s0 := fun _ => s0) G hi.ev (fun _ => hG) hw hb k
end
section
variable {α β γ σ : Type} {Γ : Ga} {c : SS} {F : α → Out} {f : β → D}
theorem sim_retNew {es : SA} {u : Option γ} {fs : γ → List D} {G : γ → Ga} {k : γ → α} {ts : γ → List T} {t0 : γ → T} (h : AV es Γ u fs G) (ht : ∀ z, .lst (fs z) = t0 z) (hF : ∀ z, F (k z) = .rl (t0 z) (ts z)) (w : ∀ z, Fins (G z) (ts z)) : Sim (sSeq (sRet (sNew es)) c) Γ (u.bind fun z => some (k z)) F := fun y hy b P ρ m r => by
  obtain ⟨z, hz, hy⟩ := Option.bind_eq_some_iff.mp hy
  cases hy
  rw [hF]
  obtain ⟨m', h1, h2, h3⟩ := h z hz b P ρ m r
  have r2 := h3.grow (.lst (fs z))
  refine ⟨[m'.length], .ref m'.length, m' ++ [.lst (fs z)], by simp only [sSeq, sRet, sNew, h1, bind_ok, toO_ok, then_rt], ?_, ?_, (w z).fin r2⟩
  · rw [← ht]; exact .lst (by simp) h2
  · intro a ha
    rw [List.mem_singleton.mp ha]
    exact h3.fr.len
section
variable [DecidableEq β] {p : β → PyData} {k : Nat} {xs ys : List β} {o e : SE}
end
end
theorem np_of {ss : List S} (ks : List Nat) (h : pix ss = ks) (n : ks.Nodup) : (pix ss).Nodup := h ▸ n
end Vi
namespace Vi
open PySem PySem.Spec PyProof.Rows L2
section
variable {α β γ δ ε : Type} {Γ : Ga} {c : SS} {F : α → Out} {i j l : Nat} {e : SE} {es : SA} {its : List It'}
end
section
variable {α β γ : Type} {Γ : Ga} {e : SE} {f : β → D}
end
section
variable {α β γ : Type} {Γ : Ga} {i : Nat} {s : S} {f : β → D} {xs : List β}
end
end Vi
namespace Vi
open PySem PySem.Spec PyProof.Rows L2
section
variable {α β γ : Type} {Γ : Ga} {o e i : SE} {f : β → D}
end
def kI : Int → Key := .inl
def kS : Str → Key := .inr
abbrev trD {κ β : Type} (k : κ → Key) (f : β → D) (kvs : List (κ × β)) : T := .dic (kvs.map fun p => (k p.1, f p.2))
def dget {κ β : Type} [DecidableEq κ] (kvs : List (κ × β)) (k : κ) : Option β := (kvs.find? fun p => decide (p.1 = k)).map (·.2)
def dput {κ β : Type} [DecidableEq κ] (kvs : List (κ × β)) (k : κ) (v : β) : List (κ × β) := if (kvs.any fun p => decide (p.1 = k)) = true then kvs.map (fun p => if p.1 = k then (p.1, v) else p) else kvs ++ [(k, v)]
def dpO {κ β : Type} [DecidableEq κ] (kvs : List (κ × β)) (k : κ) (v : β) : Option (List (κ × β)) := if kvs.length < big then some (dput kvs k v) else none
section
variable {κ β α γ : Type} [DecidableEq κ] {kf : κ → Key} {f : β → D} {kvs : List (κ × β)} {k : κ} {Γ : Ga} {o e i : SE} {F : α → Out} {c : SS} {up : T → Ga}
theorem valD_map (inj : ∀ a b, kf a = kf b → a = b) : valD (kvs.map fun p => (kf p.1, f p.2)) (kf k) = (dget kvs k).map f := by
  unfold valD dget
  induction kvs with
  | nil => rfl
  | cons p kvs ih =>
    by_cases h : p.1 = k
    · simp [h]
    · have : ¬ kf p.1 = kf k := fun z => h (inj _ _ z)
      simp only [List.map_cons, List.find?_cons, h, this, decide_false]
      exact ih
theorem putD_map (inj : ∀ a b, kf a = kf b → a = b) {v : β} : putD (kvs.map fun p => (kf p.1, f p.2)) (kf k) (f v) = (dput kvs k v).map fun p => (kf p.1, f p.2) := by
  have e1 : ((kvs.map fun p => (kf p.1, f p.2)).any fun kv => decide (kv.1 = kf k)) = kvs.any fun p => decide (p.1 = k) := by
    rw [List.any_map]
    congr 1
    funext p
    simp only [Function.comp]
    rw [Bool.eq_iff_iff]
    simp only [decide_eq_true_eq]
    exact ⟨inj _ _, fun h => by rw [h]⟩
  unfold putD dput
  rw [e1]
  split
  · rw [List.map_map, List.map_map]
    apply List.map_congr_left
    intro p _
    simp only [Function.comp]
    by_cases h : p.1 = k
    · simp [h]
    · have : ¬ kf p.1 = kf k := fun z => h (inj _ _ z)
      simp [h, this]
  · simp
theorem kI_inj : ∀ a b, kI a = kI b → a = b := fun a b h => Sum.inl.inj h
theorem noKV_val : ∀ {κ : Type} [DecidableEq κ] {kvs : List (κ × D)} {k : κ} {d : D}, noKV kvs = true → valD kvs k = some d → noRef d = true
  | _, _, [], _, _, _, h => by cases h
  | _, _, p :: kvs, k, d, hn, h => by
    simp only [noKV, Bool.and_eq_true] at hn
    unfold valD at h
    by_cases q : p.1 = k
    · simp [q] at h; rw [← h]; exact hn.1
    · simp only [List.find?_cons, q, decide_false] at h
      exact noKV_val hn.2 h
theorem noKV_put {kvs : List (Key × D)} {k : Key} {d : D} (h : noKV kvs = true) (hd : noRef d = true) : noKV (putD kvs k d) = true := by
  have e : ∀ kvs : List (Key × D), noKV kvs = true ↔ ∀ p ∈ kvs, noRef p.2 = true := by
    intro kvs
    induction kvs with
    | nil => simp [noKV]
    | cons p kvs ih => simp only [noKV, Bool.and_eq_true, ih, List.mem_cons, forall_eq_or_imp]
  rw [e] at h ⊢
  intro p hp
  unfold putD at hp
  split at hp
  · obtain ⟨q, hq, rfl⟩ := List.mem_map.mp hp
    split
    · exact hd
    · exact h q hq
  · rcases List.mem_append.mp hp with q | q
    · exact h p q
    · rw [List.mem_singleton.mp q]; exact hd
theorem sim_dnew {j : Nat} {K : List (κ × β) → Option α} (kf : κ → Key) (f : β → D) (k : ∀ x, Sim c (put Γ j (some (.o (trD kf f x)))) (K x) F) : Sim (sSeq (sAsg sDNew (gNm j)) c) Γ (vlet [] K) F := fun y hy b P ρ m r => by
  have h2 : Rel b P (put Γ j (some (.o (.dic [])))) (ρ.set j (some (.ref m.length))) (m ++ [.dic []]) := r.put_o j (by simp) (fun q hq => List.getElem?_append_left hq) (A := [m.length]) (.dic (by simp) rfl) (by simp)
  have := k [] y hy b P _ _ h2
  simpa only [sSeq, sAsg, sDNew, toO_ok, gNm, then_nx] using this
theorem dicOf_has {m : M} {A : List Nat} {d : D} {xs : List (Key × D)} (h : Has m A d (.dic xs)) : dicOf d m = some xs ∧ noKV xs = true := by
  cases h with
  | dic hm hn => exact ⟨by simp only [dicOf, hm], hn⟩
theorem dget2_p (inj : ∀ a b, kf a = kf b → a = b) (h : RdT o Γ (trD kf f kvs)) {dk : D} (hk : EP i Γ dk) (ek : keyD dk = some (kf k)) {v : β} (hv : EP e Γ (f v)) : EP (sDGet2 o i e) Γ (f ((dget kvs k).getD v)) := fun b P ρ m r => by
  obtain ⟨A, d, h1, h2⟩ := h b P ρ m r
  obtain ⟨q1, q2⟩ := dicOf_has h2
  obtain ⟨v1, v2⟩ := hv b P ρ m r
  have e : (valD (kvs.map fun p => (kf p.1, f p.2)) (kf k)).getD (f v) = f ((dget kvs k).getD v) := by
    rw [valD_map inj]; cases dget kvs k <;> rfl
  refine ⟨by simp only [sDGet2, h1, bind_ok, q1, (hk b P ρ m r).1, v1, ek, e], ?_⟩
  show noRef _ = true
  rw [← e]
  cases z : valD (kvs.map fun p => (kf p.1, f p.2)) (kf k) with
  | none => exact v2
  | some x => exact noKV_val q2 z
theorem sim_dset (inj : ∀ a b, kf a = kf b → a = b) {v : β} {K : List (κ × β) → Option α} (hv : EP e Γ (f v)) (hp : Pl o Γ (trD kf f kvs) up) {dk : D} (hk : EP i Γ dk) (ek : keyD dk = some (kf k)) (kk : ∀ zs, Sim c (up (trD kf f zs)) (K zs) F) :
    Sim (sSeq (sAsg e (gDSet o i)) c) Γ ((dpO kvs k v).bind K) F := fun y hy b P ρ m r => by
  obtain ⟨zs, hzs, hy⟩ := Option.bind_eq_some_iff.mp hy
  unfold dpO at hzs
  split at hzs
  · rename_i hl
    cases hzs
    obtain ⟨A, d, h1, h2, h3⟩ := hp b P ρ m r
    obtain ⟨e1, e2⟩ := hv b P ρ m r
    obtain ⟨i1, _⟩ := hk b P ρ m r
    cases h2 with
    | @dic n _ hm hn =>
      have hn' := (List.getElem?_eq_some_iff.mp hm).1
      have ez : putD (kvs.map fun p => (kf p.1, f p.2)) (kf k) (f v) = (dput kvs k v).map fun p => (kf p.1, f p.2) := putD_map inj
      have hz : noKV ((dput kvs k v).map fun p => (kf p.1, f p.2)) = true := by rw [← ez]; exact noKV_put hn e2
      have ch : Chg [n] m (m.set n (.dic ((dput kvs k v).map fun p => (kf p.1, f p.2)))) := ⟨List.length_set .., fun j hj => List.getElem?_set_ne fun e => hj (by simp [e])⟩
      have := kk _ y hy b P ρ _ (h3 _ _ ch (.dic (List.getElem?_set_self hn') hz))
      have ev : gDSet o i (f v) ρ m = .ok ρ (m.set n (.dic ((dput kvs k v).map fun p => (kf p.1, f p.2)))) := by
        simp only [gDSet, h1, bind_ok, i1, dicOf, hm, ek, List.length_map, hl, if_true, ez]
      simpa only [sSeq, sAsg, e1, toO_ok, ev, then_nx] using this
  · cases hzs
end
end Vi
namespace Vi
open PySem PySem.Spec PyProof.Rows L2
section
variable {α β γ δ ε : Type} {Γ : Ga} {c : SS} {F : α → Out} {i j l : Nat} {e : SE} {es : SA} {its : List It'}
theorem pb2 {t : Option β} {f : β → Option γ} {c : β × γ} (h : pairB t f = some c) : f c.1 = some c.2 := by
  obtain ⟨x, hx, h⟩ := Option.bind_eq_some_iff.mp h
  obtain ⟨y, hy, h⟩ := Option.bind_eq_some_iff.mp h
  cases h; exact hy
end
end Vi
namespace Vi
open PySem PySem.Spec PyProof.Rows L2
end Vi
namespace Vi
theorem EvG.wkG {ι α : Type} {ok : ι → Prop} {e : En → M → R ι} {Γ : Ga} {t : Option α} {f f' : α → ι} {G G' : α → Ga} (h : EvG ok e Γ t f G) (hf : ∀ a, f a = f' a) (hG : ∀ a, Wk (G a) (G' a)) : EvG ok e Γ t f' G' := fun a ha b P ρ m r => by
  obtain ⟨m', h1, h2, h3⟩ := h a ha b P ρ m r
  exact ⟨m', by rw [h1, hf], hf a ▸ h2, h3.wk (hG a)⟩
end Vi
namespace Vi
theorem cf_one0 {δ : Type} {Γ : Ga} {i : Nat} {d : D} {el : SE} {v : Option δ} {f : δ → D} (he : EV el (put Γ i (some (.v d))) v f (fun _ => put Γ i (some (.v d)))) :
    Cbm (gNm i) tYs el d Γ (v.map some) (fun a => a.map f) (fun _ => put Γ i none) := by
  have := cf_one (u := some ()) (fb := fun _ => true) (tys_p (Γ := put Γ i (some (.v d)))).ev he
  simpa [tstO] using this
end Vi
namespace Vi
end Vi
namespace Vi
open PySem PySem.Spec PyProof.Rows L2
def maxDI (ns : List Int) (d : Int) : Int := if ns.length = 0 then d else maxI ns
section
variable {Γ : Ga} {e z : SE} {ns : List Int} {d : Int} {γ : Type}
end
end Vi
namespace Vi
open PySem PySem.Spec PyProof.Rows L2
section
variable {α β γ : Type} {Γ : Ga} {c : SS} {F : α → Out} {o e : SE} {up : T → Ga} {ns : List Int} {k : Int}
theorem iiD_map : ∀ ps : List (Int × Int), iiD (ps.map fun p => (kI p.1, D.int p.2)) = some ps
  | [] => rfl
  | p :: ps => by
    show (match iiD (ps.map fun p => (kI p.1, D.int p.2)) with | some qs => some ((p.1, p.2) :: qs) | none => none) = _
    rw [iiD_map ps]
theorem noRefs_dII : ∀ ps : List (Int × Int), noRefs (ps.map (e2 D.int D.int)) = true
  | [] => rfl
  | p :: ps => by
    simp only [List.map_cons, noRefs, noRefs_dII ps]; rfl
theorem dsort_p {kvs : List (Int × Int)} (h : RdT o Γ (trD kI D.int kvs)) : AP (sSortItems o) Γ ((sortPI kvs).map (e2 D.int D.int)) := fun b P ρ m r => by
  obtain ⟨A, d, h1, h2⟩ := h b P ρ m r
  obtain ⟨h3, _⟩ := dicOf_has h2
  refine ⟨?_, noRefs_dII _⟩
  simp only [sSortItems, h1, bind_ok, h3, iiD_map]
  rfl
theorem inV_ints : ∀ ns : List Int, inV (.int k) (ns.map V.int) = decide (k ∈ ns)
  | [] => rfl
  | n :: ns => by
    have ih := inV_ints ns
    unfold inV at ih ⊢
    rw [List.map_cons, List.any_cons, ih]
    have e : eqV (.int n) (.int k) = decide (n = k) := by
      show (n == k) = _
      rfl
    rw [e, Bool.eq_iff_iff]
    simp only [Bool.or_eq_true, decide_eq_true_eq, List.mem_cons]
    constructor
    · rintro (h | h)
      · exact .inl h.symm
      · exact .inr h
    · rintro (h | h)
      · exact .inl h.symm
      · exact .inr h
theorem flat_ints : ∀ ns : List Int, (ns.map V.int).all flatV = true
  | [] => rfl
  | n :: ns => by rw [List.map_cons, List.all_cons, flat_ints ns]; rfl
theorem inD_ints {neg : Bool} {y : D} {m : M} (h : asSeq y m = some (ns.map D.int)) : inD neg (.int k) y m = .ok (if neg then !decide (k ∈ ns) else decide (k ∈ ns)) m := by
  have e1 : (asSeq y m).bind flDs = some (ns.map V.int) := by rw [h]; exact f_flDs ns
  have e2 : flD (.int k) = some (.int k) := rfl
  unfold inD
  simp only [e1, e2, flat_ints, inV_ints]
  rfl
theorem notIn_o (h : RdT o Γ (trL D.int ns)) (he : EP e Γ (.int k)) : TP (sBinT gNotIn e o) Γ (!decide (k ∈ ns)) := fun b P ρ m r => by
  obtain ⟨A, d, h1, h2⟩ := h b P ρ m r
  cases h2 with
  | lst hm hn =>
    refine ⟨?_, trivial⟩
    simp only [sBinT, (he b P ρ m r).1, bind_ok, h1]
    exact inD_ints (neg := true) (by simp only [asSeq, hm])
def rmO (xs : List Int) (k : Int) : Option (List Int) := if k ∈ xs then some (xs.erase k) else none
theorem sim_rem {xs : List Int} {K : List Int → Option α} (hp : Pl o Γ (trL D.int xs) up) (he : EP e Γ (.int k)) (kk : ∀ ys, Sim c (up (trL D.int ys)) (K ys) F) : Sim (sSeq (sDrop (sRem o e)) c) Γ ((rmO xs k).bind K) F := fun y hy b P ρ m r => by
  obtain ⟨ys, hys, hy⟩ := Option.bind_eq_some_iff.mp hy
  unfold rmO at hys
  split at hys
  · rename_i hl
    cases hys
    obtain ⟨A, d, h1, h2, h3⟩ := hp b P ρ m r
    obtain ⟨e1, e2⟩ := he b P ρ m r
    cases h2 with
    | @lst n _ hm hn =>
      obtain ⟨ch, hh⟩ := chg_lst hm (noRefs_int (xs.erase k))
      have := kk _ y hy b P ρ _ (h3 _ _ ch hh)
      have ev : sRem o e ρ m = .ok .non (m.set n (.lst ((xs.erase k).map D.int))) := by
        simp only [sRem, h1, bind_ok, hm, e1, intsD_map, hl, if_true]
      simpa only [sSeq, sDrop, ev, toO_ok, then_nx] using this
  · cases hys
theorem f_sortT {ns : List Int} : okDs [eT D.int ns] → ∀ m, gSortedT [eT D.int ns] m = .ok ((sortI false ns).map D.int) m ∧ okDs ((sortI false ns).map D.int) := fun _ m => by
  refine ⟨?_, noRefs_int _⟩
  have h := v_sort false ns m
  have q : tagPy (ns.map D.int) m = some (ns.map fun i => (D.int i, PyData.int i)) := tag_ints m ns
  have q' := sortOk_ints ns
  simp only [gSorted, asList, q] at h
  rw [if_pos (.inr q')] at h
  simp only [gSortedT, q]
  rw [if_pos q']
  exact h
end
end Vi
namespace Vi
open PySem PySem.Spec PyProof.Rows L2
end Vi
namespace Vi
open PySem PySem.Spec PyProof.Rows L2
theorem EvG.wkL {ι α : Type} {ok : ι → Prop} {e : En → M → R ι} {Γ Γ0 : Ga} {t : Option α} {f : α → ι} {G : α → Ga} (w : Wk Γ Γ0) (h : EvG ok e Γ0 t f G) : EvG ok e Γ t f G := fun a ha b P ρ m r => h a ha b P ρ m (r.wk w)
end Vi
namespace Vi
open PySem PySem.Spec PyProof.Rows L2
abbrev tr2 {β : Type} (f : β → D) (xss : List (List β)) : T := .lls (xss.map fun xs => .lst (xs.map f))
section
variable {α β γ : Type} {Γ : Ga} {c : SS} {F : α → Out} {o e ix : SE} {up : T → Ga} {f : β → D} {xss : List (List β)} {k : Int}
theorem rows_go {α : Type} {g : α → List β} {em : α → D} {i : Nat} {es : SA} {Γw : Ga} (hb : ∀ x, AP es (put Γw i (some (.v (em x)))) ((g x).map f)) : ∀ (L : List α), noRefs (L.map em) = true → ∀ (b : M) (P : Ps) (ρ : En) (m : M), Rel b P Γw ρ m →
    ∃ (ds : List D) (m' : M) (A : List Nat), compL (gNm i) tYs (sNew es) ρ (L.map em) m = .ok ds m' ∧ m.length ≤ m'.length ∧ (∀ j, j < m.length → m'[j]? = m[j]?) ∧ HasL m' A ds (L.map fun x => .lst ((g x).map f)) ∧ ∀ a ∈ A, m.length ≤ a
  | [], _, b, P, ρ, m, r => ⟨[], m, [], rfl, Nat.le_refl _, fun _ _ => rfl, .nil, fun a ha => by cases ha⟩
  | x :: L, hn, b, P, ρ, m, r => by
    obtain ⟨n1, n2⟩ := noRefs_cons hn
    obtain ⟨e1, e2⟩ := hb x b P _ m (r.put_v i n1)
    obtain ⟨ds, m', A, q1, q2, q3, q4, q5⟩ := rows_go hb L n2 b P ρ (m ++ [.lst ((g x).map f)]) (r.grow _)
    rw [List.length_append, List.length_singleton] at q2
    have hm : m'[m.length]? = some (.lst ((g x).map f)) := by
      rw [q3 m.length (by simp)]
      simp
    refine ⟨.ref m.length :: ds, m', [m.length] ++ A, ?_, by omega, fun j hj => ?_, .cons (.lst hm e2) q4 fun a ha ha' => ?_, fun a ha => ?_⟩
    · rw [List.map_cons, compL]
      simp only [gNm, bind_ok, tYs, if_true, sNew, e1, q1]
    · rw [q3 j (by simp; omega)]
      exact List.getElem?_append_left hj
    · rw [List.mem_singleton.mp ha] at ha'
      have := q5 _ ha'
      simp at this
      omega
    · rcases List.mem_append.mp ha with e | e
      · rw [List.mem_singleton.mp e]; exact Nat.le_refl _
      · have := q5 a e
        simp at this
        omega
end
end Vi
namespace Vi
open PySem PySem.Spec PyProof.Rows L2
def AVm {γ : Type} (es : SA) (Γ : Ga) (w : Option γ) (fs : γ → List D) : Prop := ∀ z, w = some z → ∀ b P ρ m, Rel b P Γ ρ m → es ρ m = .ok (fs z) m ∧ noRefs (fs z) = true
def exD {β : Type} (xss : List (List β)) (k : Int) (ys : List β) : Option (List (List β)) := (atI xss k).bind fun xs => (exO xs ys).bind fun zs => stO xss k zs
section
variable {α β γ δ : Type} {Γ : Ga} {c : SS} {F : α → Out} {o e ix el : SE} {es : SA} {up : T → Ga} {f : β → D} {xss : List (List β)} {k : Int}
theorem sim_extD {w : Option γ} {ys : γ → List β} {K : γ → List (List β) → Option α} (hp : Pl o Γ (tr2 f xss) up) (hi : EP ix Γ (.int k)) (he : AVm es Γ w (fun z => (ys z).map f)) (kk : ∀ z zs, Sim c (up (tr2 f zs)) (K z zs) F) :
    Sim (sSeq (sDrop (sExt (sBin gIx o ix) (sFrz es))) c) Γ (w.bind fun z => (exD xss k (ys z)).bind (K z)) F := fun y hy b P ρ m r => by
  obtain ⟨z, hz, hy⟩ := Option.bind_eq_some_iff.mp hy
  obtain ⟨zs, hzs, hy⟩ := Option.bind_eq_some_iff.mp hy
  have he' : EP (sFrz es) Γ (eL f (ys z)) := fun b P ρ m r => by
    obtain ⟨q1, q2⟩ := he z hz b P ρ m r
    exact ⟨by simp only [sFrz, q1, bind_ok], q2⟩
  unfold exD at hzs
  obtain ⟨xs, hx, hzs⟩ := Option.bind_eq_some_iff.mp hzs
  obtain ⟨ws, hws, hzs⟩ := Option.bind_eq_some_iff.mp hzs
  unfold atI at hx
  obtain ⟨j, hj, hx⟩ := Option.bind_eq_some_iff.mp hx
  unfold stO at hzs
  rw [hj] at hzs
  cases hzs
  have ht : (xss.map fun xs => T.lst (xs.map f))[j]? = some (trL f xs) := by rw [List.getElem?_map, hx]; rfl
  have hp' := pl_ix hp hi (by rw [List.length_map]; exact hj) ht
  refine sim_ext (xs := xs) (ys := ys z) (K := fun ws => K z (xss.set j ws)) hp' he' (fun ws => ?_) y (Option.bind_eq_some_iff.mpr ⟨ws, hws, hy⟩) b P ρ m r
  have q : (xss.map fun xs => T.lst (xs.map f)).set j (trL f ws) = (xss.set j ws).map fun xs => T.lst (xs.map f) := (List.map_set ..).symm
  rw [q]
  exact kk z (xss.set j ws)
def AVr {γ β : Type} (es : SA) (Γ : Ga) (w : Option γ) (f : β → D) (yss : γ → List (List β)) : Prop := ∀ z, w = some z → ∀ b P ρ m, Rel b P Γ ρ m →
  ∃ (ds : List D) (m' : M) (A : List Nat), es ρ m = .ok ds m' ∧ m.length ≤ m'.length ∧ (∀ j, j < m.length → m'[j]? = m[j]?) ∧ HasL m' A ds ((yss z).map fun xs => .lst (xs.map f)) ∧ (∀ a ∈ A, m.length ≤ a) ∧ Rel b P Γ ρ m'
theorem hasL_app {m : M} : ∀ {A B : List Nat} {ds es : List D} {ts us : List T}, HasL m A ds ts → HasL m B es us → (∀ a ∈ A, a ∉ B) → HasL m (A ++ B) (ds ++ es) (ts ++ us)
  | _, _, _, _, _, _, .nil, h, _ => h
  | _, _, _, _, _, _, .cons (A := A) (B := C) h1 h2 h3, h, hd => by
    rw [List.append_assoc]
    exact .cons h1 (hasL_app h2 h fun a ha => hd a (List.mem_append_right _ ha)) fun a ha hb => by
      rcases List.mem_append.mp hb with q | q
      · exact h3 a ha q
      · exact hd a (List.mem_append_left _ ha) q
theorem rel_ext {b : M} {P : Ps} {ρ : En} {m m' : M} (r : Rel b P Γ ρ m) (hl : m.length ≤ m'.length) (hs : ∀ j, j < m.length → m'[j]? = m[j]?) : Rel b P Γ ρ m' := by
  obtain ⟨As, h1, h2⟩ := r.o
  refine ⟨r.len, r.v, ⟨As, fun i t h => ?_, h2⟩, fun i k t h => ?_, r.pi, ⟨Nat.le_trans r.fr.len hl, fun j x hj hx => ?_⟩, r.pd⟩
  · obtain ⟨d, q1, q2, q3⟩ := h1 i t h
    exact ⟨d, q1, q2.frame fun a ha => hs a (q2.lt a ha), q3⟩
  · obtain ⟨A, d, q0, q1, q2⟩ := r.p i k t h
    exact ⟨A, d, q0, q1, q2.frame fun a ha => hs a (q2.lt a ha)⟩
  · rw [hs j (Nat.lt_of_lt_of_le hj r.fr.len)] at hx
    exact r.fr.old j x hj hx
theorem rows_one {ys : List β} (h : AP es Γ (ys.map f)) : AVr (sLst (sCons (sNew es) sNil)) Γ (some ()) f (fun _ => [ys]) := fun z _ b P ρ m r => by
  obtain ⟨h1, h2⟩ := h b P ρ m r
  have hs : ∀ j, j < m.length → (m ++ [Cell.lst (ys.map f)])[j]? = m[j]? := fun j hj => List.getElem?_append_left hj
  refine ⟨[.ref m.length], m ++ [.lst (ys.map f)], [m.length] ++ [], ?_, by simp, hs, .cons (.lst (by simp) h2) .nil (fun a _ h => by cases h), fun a ha => ?_, rel_ext r (by simp) hs⟩
  · have hb : (1 : Nat) ≤ big := by decide
    simp only [sLst, sCons, sNew, sNil, h1, bind_ok, List.length_cons, List.length_nil, Nat.zero_add, hb, if_true]
  · simp at ha; omega
theorem rg1_r {j : Int} (h : AP es Γ [.int j]) : AVm (iR1 es) Γ (rgO 0 j) (fun xs => xs.map D.int) := fun xs hx b P ρ m r => by
  obtain ⟨h1, h2⟩ := h b P ρ m r
  obtain ⟨q1, q2⟩ := f_rg1 h2 xs hx m
  refine ⟨?_, q2⟩
  simp only [iR1, h1, bind_ok]
  exact q1
theorem rows_comp {w : Option γ} {L : γ → List δ} {g : δ → List β} {em : δ → D} {i : Nat} {own : List Nat} {src : SA} (hs : AVm src Γ w (fun z => (L z).map em)) (hb : ∀ x, AP es (put (wipeG Γ own) i (some (.v (em x)))) ((g x).map f)) :
    AVr (sComp own src (gNm i) tYs (sNew es)) Γ (pairB w fun z => compA (L z) g) f (fun p => p.2) := fun p hp b P ρ m r => by
  unfold pairB at hp
  obtain ⟨z, hz, hp⟩ := Option.bind_eq_some_iff.mp hp
  obtain ⟨y, hy, hp⟩ := Option.bind_eq_some_iff.mp hp
  cases hp
  have hy : compA (L z) g = some y := hy
  unfold compA at hy
  split at hy
  · rename_i hl
    cases hy
    obtain ⟨h1, h2⟩ := hs z hz b P ρ m r
    obtain ⟨ds, m', A, q1, q2, q3, q4, q5⟩ := rows_go hb (L z) h2 b P _ m (r.wipe own)
    refine ⟨ds, m', A, ?_, q2, q3, by rw [List.map_map]; exact q4, q5, rel_ext r q2 q3⟩
    simp only [sComp, h1, bind_ok, List.length_map, hl, if_true, q1]; rfl
  · cases hy
theorem rows_cat {e1 e2 : SA} {w1 : Option γ} {w2 : Option δ} {y1 : γ → List (List β)} {y2 : δ → List (List β)} (h1 : AVr e1 Γ w1 f y1) (h2 : AVr e2 Γ w2 f y2) :
    AVr (sCatL (sFrz e1) (sFrz e2)) Γ (pairB (pairB w1 fun _ => w2) fun p => catO (y1 p.1) (y2 p.2)) f (fun p => p.2) := fun p hp b P ρ m r => by
  unfold pairB at hp
  obtain ⟨p1, hp1, hp⟩ := Option.bind_eq_some_iff.mp hp
  obtain ⟨z1, hz1, hp1⟩ := Option.bind_eq_some_iff.mp hp1
  obtain ⟨z2, hz2, hp1⟩ := Option.bind_eq_some_iff.mp hp1
  cases hp1
  obtain ⟨y, hy, hp⟩ := Option.bind_eq_some_iff.mp hp
  cases hp
  have hy : catO (y1 z1) (y2 z2) = some y := hy
  unfold catO at hy
  split at hy
  · rename_i hl
    cases hy
    obtain ⟨ds1, m1, A1, a1, a2, a3, a4, a5, a6⟩ := h1 z1 hz1 b P ρ m r
    obtain ⟨ds2, m2, A2, b1, b2, b3, b4, b5, b6⟩ := h2 z2 hz2 b P ρ m1 a6
    have l1 := hasL_len a4
    have l2 := hasL_len b4
    rw [List.length_map] at l1 l2
    have lf := a4.lt
    refine ⟨ds1 ++ ds2, m2, A1 ++ A2, ?_, Nat.le_trans a2 b2, fun j hj => by rw [b3 j (by omega), a3 j hj], ?_, fun a ha => ?_, b6⟩
    · have : ds1.length + ds2.length ≤ big := by rw [l1, l2]; exact hl
      simp only [sCatL, sFrz, a1, b1, bind_ok, asLst, this, if_true]
    · rw [List.map_append]
      refine hasL_app (a4.frame fun a ha => b3 a (a4.lt a ha)) b4 fun a ha hb => ?_
      have h3 := a4.lt a ha
      have h4 := b5 a hb
      omega
    · rcases List.mem_append.mp ha with q | q
      · exact a5 a q
      · have := b5 a q; omega
  · cases hy
theorem eo_avr {w : Option γ} {yss : γ → List (List β)} (h : AVr es Γ w f yss) : EO (sNew es) Γ w (fun z => tr2 f (yss z)) (fun _ => Γ) := fun z hz b P ρ m r => by
  obtain ⟨ds, m', A, q1, q2, q3, q4, q5, q6⟩ := h z hz b P ρ m r
  refine ⟨.ref m'.length, m' ++ [.lst ds], by simp only [sNew, q1, bind_ok], fun j => ?_⟩
  refine r.put_o j (by simp; omega) (fun a ha => by rw [List.getElem?_append_left (by omega)]; exact q3 a ha) (A := m'.length :: A) (.lls (ds := ds) (by simp) (q4.frame fun a ha => ?_) fun h => ?_) (fun a ha => ?_)
  · exact List.getElem?_append_left (q4.lt a ha)
  · exact absurd (q4.lt _ h) (Nat.lt_irrefl _)
  · rcases List.mem_cons.mp ha with e | e
    · rw [e]; exact q2
    · exact q5 a e
end
def EVe {γ : Type} (e : SE) (Γ : Ga) (w : Option γ) (f : γ → D) : Prop := ∀ z, w = some z → ∀ b P ρ m, Rel b P Γ ρ m → e ρ m = .ok (f z) m ∧ noRef (f z) = true
theorem bin_e {Γ : Ga} {γ : Type} {g : G2} {a b : SE} {ds : List D} {t : Option γ} {f : γ → D} (h : AP (sC2 a b) Γ ds) (hg : okDs ds → ∀ x, t = some x → ∀ m, g2 g ds m = .ok (f x) m ∧ okD (f x)) : EVe (sBin g a b) Γ t f := fun z hz b' P ρ m r => by
  obtain ⟨h1, h2⟩ := h b' P ρ m r
  obtain ⟨h3, h4⟩ := hg h2 z hz m
  refine ⟨?_, h4⟩
  rw [bin_eq, ← h3]
  show bindS (sC2 a b) (g2 g) ρ m = _
  unfold bindS
  rw [h1]; rfl
section
variable {β δ : Type} {Γ : Ga} {o ix el : SE} {up : T → Ga} {xss : List (List β)} {k : Int}
theorem compLM_goM {em : β → D} {h : β → Option δ} {eb : δ → D} {i : Nat} {Γw : Ga} {n : Nat} {ys : List D} (hb : ∀ x, EVe el (put Γw i (some (.v (em x)))) (h x) eb) : ∀ (L : List β) (zs : List δ), mapO' h L = some zs → noRefs (L.map em) = true → ∀ b P ρ m, Rel b P Γw ρ m → m[n]? = some (.lst ys) →
    compLM n ys (gNm i) tYs el ρ (L.map em) m = .ok (zs.map eb) m ∧ noRefs (zs.map eb) = true
  | [], zs, hz, _, b, P, ρ, m, r, hm => by cases hz; exact ⟨by rw [List.map_nil, compLM, if_pos (chkM_ok hm)]; rfl, rfl⟩
  | x :: L, zs, hz, hn, b, P, ρ, m, r, hm => by
    obtain ⟨y, hy, hz⟩ := Option.bind_eq_some_iff.mp hz
    obtain ⟨ws, hw, hz⟩ := Option.bind_eq_some_iff.mp hz
    cases hz
    obtain ⟨n1, n2⟩ := noRefs_cons hn
    obtain ⟨e1, e2⟩ := hb x y hy b P _ m (r.put_v i n1)
    obtain ⟨q1, q2⟩ := compLM_goM hb L ws hw n2 b P ρ m r hm
    refine ⟨?_, by simp only [List.map_cons, noRefs, e2, q2]; rfl⟩
    rw [List.map_cons, compLM, if_pos (chkM_ok hm)]
    simp only [gNm, bind_ok, tYs, if_true, e1, q1, List.map_cons]
theorem row_compM {em : β → D} {h : β → Option δ} {eb : δ → D} {i : Nat} {own : List Nat} (hp : Pl o Γ (tr2 em xss) up) (hi : EP ix Γ (.int k)) (hb : ∀ x, EVe el (put (wipeG Γ own) i (some (.v (em x)))) (h x) eb) :
    AVm (sCompM own (sBin gIx o ix) (gNm i) tYs el) Γ ((atI xss k).bind fun row => compM row h) (fun ys => ys.map eb) := fun z hz b P ρ m r => by
  obtain ⟨row, hx, hz⟩ := Option.bind_eq_some_iff.mp hz
  unfold compM at hz
  split at hz
  · rename_i hl
    unfold atI at hx
    obtain ⟨j, hj, hx⟩ := Option.bind_eq_some_iff.mp hx
    have ht : (xss.map fun xs => T.lst (xs.map em))[j]? = some (trL em row) := by rw [List.getElem?_map, hx]; rfl
    obtain ⟨A, d, h1, h2, _⟩ := pl_ix hp hi (by rw [List.length_map]; exact hj) ht b P ρ m r
    cases h2 with
    | @lst n _ hm hn =>
      obtain ⟨q1, q2⟩ := compLM_goM (n := n) hb row z hz hn b P _ m (r.wipe own) hm
      refine ⟨?_, q2⟩
      simp only [sCompM, h1, bind_ok, hm, List.length_map, hl, if_true, q1]; rfl
  · cases hz
end
def leR (a b : List Int) : Bool := decide (a ≤ b)
def sortRO (xss : List (List Int)) : Option (List (List Int)) := if xss.length < 2 ∨ (xss.all fun r => !r.isEmpty) = true then some (xss.mergeSort leR) else none
def rowP (r : List Int) : PyData := .tuple (r.map PyData.int)
theorem toPys_row (m : M) : ∀ r : List Int, toPys (r.map D.int) m = some (r.map PyData.int)
  | [] => rfl
  | n :: r => by simp only [List.map_cons, toPys, toPy]; rw [toPys_row m r]
theorem tag_rows (m : M) : ∀ xss : List (List Int), tagPy (xss.map (eT D.int)) m = some (xss.map fun r => (eT D.int r, rowP r))
  | [] => rfl
  | r :: xss => by
    simp only [List.map_cons, tagPy, eT, toPy, toPys_row, Option.map_some]
    rw [tag_rows m xss]; rfl
theorem alikeAll_ints : ∀ r s : List Int, PySem.W.alikeAll (r.map PyData.int) (s.map PyData.int) = true
  | [], _ => by simp [PySem.W.alikeAll]
  | _ :: _, [] => by simp [PySem.W.alikeAll]
  | x :: r, y :: s => by simp [PySem.W.alikeAll, PySem.W.alike, alikeAll_ints r s]
theorem sortOk_rows {xss : List (List Int)} (h : (xss.all fun r => !r.isEmpty) = true) : sortOk ((xss.map fun r => (eT D.int r, rowP r)).map Prod.snd) = true := by
  have e : (xss.map fun r => (eT D.int r, rowP r)).map Prod.snd = xss.map rowP := by simp [List.map_map, Function.comp_def]
  rw [e]
  have hd : ∀ r : List Int, (rowP r).depth ≤ 64 := fun r => by
    have : PyData.depthAll (r.map PyData.int) = 0 := by
      induction r with
      | nil => rfl
      | cons x r ih => simp [PyData.depthAll, PyData.depth, ih]
    simp [rowP, PyData.depth, this]
  have ha : ∀ r s : List Int, PySem.W.alike (rowP r) (rowP s) = true := fun r s => by simp [rowP, PySem.W.alike, alikeAll_ints]
  have ht : ∀ r ∈ xss, tupCons (rowP r) = true := fun r hr => by
    have := List.all_eq_true.mp h r hr
    cases r with
    | nil => simp at this
    | cons x r => rfl
  unfold sortOk
  rw [Bool.and_eq_true, Bool.and_eq_true, Bool.or_eq_true]
  refine ⟨⟨?_, .inl ?_⟩, ?_⟩
  · simp only [List.all_eq_true, List.mem_map]
    rintro _ ⟨r, _, rfl⟩ _ ⟨s, _, rfl⟩
    exact ha r s
  · simp only [List.all_eq_true, List.mem_map]
    rintro _ ⟨r, hr, rfl⟩
    exact ht r hr
  · simp only [List.all_eq_true, List.mem_map]
    rintro _ ⟨r, hr, rfl⟩
    exact decide_eq_true (hd r)
theorem sortD_rows (xss : List (List Int)) : sortD false (xss.map fun r => (eT D.int r, rowP r)) = (xss.mergeSort leR).map (eT D.int) := by
  unfold sortD
  have := List.map_mergeSort (r := leR) (s := PySem.W.dataLe false Prod.snd) (f := fun r => (eT D.int r, rowP r)) (l := xss) fun a _ b _ => by
    rw [PySem.W.dataLe_eq]
    show leR a b = !PySem.W.dataLt (.tuple (b.map .int)) (.tuple (a.map .int))
    rw [PySem.W.dataLt_tuple]
    show _ = !PySem.W.rowLt (b.map .int) (a.map .int)
    rw [PySem.W.dataLt_ints]
    unfold leR
    by_cases h : b < a
    · have h' : ¬ a ≤ b := fun r => List.not_lt.mpr r h
      simp [h, h']
    · have h' : a ≤ b := List.not_lt.mp h
      simp [h, h']
  rw [← this]
  simp [List.map_map, Function.comp_def]
theorem sort_rows_at {xss ys : List (List Int)} (h : sortRO xss = some ys) {x : D} {m : M} (hx : asList x m = some (xss.map (eT D.int))) : gSorted false [x] m = .ok (ys.map (eT D.int)) m := by
  unfold sortRO at h
  split at h
  · rename_i hc
    cases h
    have q : (xss.map fun r => (eT D.int r, rowP r)).length < 2 ∨ sortOk ((xss.map fun r => (eT D.int r, rowP r)).map Prod.snd) = true := by
      rcases hc with hc | hc
      · exact .inl (by rw [List.length_map]; exact hc)
      · exact .inr (sortOk_rows hc)
    simp only [gSorted, hx, tag_rows]
    rw [if_pos q, sortD_rows]
  · cases h
theorem noRefs_rows : ∀ xss : List (List Int), noRefs (xss.map (eT D.int)) = true
  | [] => rfl
  | r :: xss => by
    have : noRefs (r.map D.int) = true := noRefs_int r
    simp only [List.map_cons, noRefs, noRefs_rows xss, eT, noRef, this]; rfl
theorem f_sortR {xss : List (List Int)} : okDs [eL (eT D.int) xss] → ∀ ys, sortRO xss = some ys → ∀ m, gSorted false [eL (eT D.int) xss] m = .ok (ys.map (eT D.int)) m ∧ okDs (ys.map (eT D.int)) := fun _ ys h m => ⟨sort_rows_at h rfl, noRefs_rows ys⟩
theorem o_sortR {xss : List (List Int)} : ∀ ys, sortRO xss = some ys → ∀ A x m, Has m A x (trL (eT D.int) xss) → gSorted false [x] m = .ok (ys.map (eT D.int)) m ∧ okDs (ys.map (eT D.int)) := fun ys h A x m hh => by
  cases hh with
  | @lst n _ hm hn => exact ⟨sort_rows_at h (by simp only [asList, hm]), noRefs_rows ys⟩
theorem sort_row {Γ : Ga} {o ix : SE} {up : T → Ga} {k : Int} {xsss : List (List (List Int))} (hp : Pl o Γ (tr2 (eT D.int) xsss) up) (hi : EP ix Γ (.int k)) : AV (sCallL (gSorted false) (sCons (sBin gIx o ix) sNil)) Γ ((atI xsss k).bind sortRO) (fun ys => ys.map (eT D.int)) (fun _ => Γ) := fun z hz b P ρ m r => by
  obtain ⟨row, hx, hz⟩ := Option.bind_eq_some_iff.mp hz
  unfold atI at hx
  obtain ⟨j, hj, hx⟩ := Option.bind_eq_some_iff.mp hx
  have ht : (xsss.map fun xs => T.lst (xs.map (eT D.int)))[j]? = some (trL (eT D.int) row) := by rw [List.getElem?_map, hx]; rfl
  have hp' := pl_ix hp hi (by rw [List.length_map]; exact hj) ht
  exact rd_callLC hp'.rd (fun ys hy => o_sortR (xss := row) ys hy) z hz b P ρ m r
end Vi
namespace Vi
open PySem PySem.Spec PyProof.Rows L2
section
variable {α β γ : Type} {Γ : Ga} {o : SE} {dl dh : SO} {f : α → D} {xs : List α} {lo : Option Int}
end
section
variable {k : Str} {ns : List Str}
end
section
variable {α β σ : Type} {Γ : Ga} {c a : SS} {F : α → Out}
end
end Vi
namespace Vi
open PySem PySem.Spec PyProof.Rows L2
section
variable {α β γ κ : Type} [DecidableEq κ] {Γ : Ga} {o e i : SE} {f : β → D} {kf : κ → Key}
end
end Vi
namespace Vi
open PySem PySem.Spec PyProof.Rows L2
end Vi
namespace Vi
open PySem PySem.Spec PyProof.Rows L2
section
variable {α β γ κ : Type} [DecidableEq κ] {Γ : Ga} {o e i : SE} {f : β → D} {kf : κ → Key}
end
end Vi
namespace Vi
open PySem PySem.Spec PyProof.Rows L2
section
variable {α β γ δ : Type} {Γ : Ga} {f : α → D} {g : β → D} {h : δ → D}
end
end Vi
namespace Vi
open PySem PySem.Spec PyProof.Rows L2
end Vi
namespace Vi
open PySem PySem.Spec PyProof.Rows L2
end Vi
namespace Vi
open PySem PySem.Spec PyProof.Rows L2
end Vi
namespace Vi
open PySem PySem.Spec PyProof.Rows L2
end Vi
namespace Vi
open PySem PySem.Spec PyProof.Rows L2
section
variable {α β γ : Type} {Γ : Ga} {o : SE} {f : α → D} {xs : List α} {lo hi : Option Int} {dl dh : SO}
theorem f_notQ {a c : Bool} : okDs [D.bl a, D.bl c] → ∀ m, g2 gNotQ [.bl a, .bl c] m = .ok (!decide (a = c)) m ∧ okT (!decide (a = c)) := fun _ m => ⟨rfl, trivial⟩
end
section
variable {κ β γ : Type} [DecidableEq κ] {Γ : Ga} {o i : SE} {kf : κ → Key} {f : β → D} {kvs : List (κ × β)}
end
end Vi
namespace Vi
open PySem PySem.Spec PyProof.Rows L2
theorem dRows_map : ∀ xss : List (List Int), dRows (xss.map (eT D.int)) = some xss
  | [] => rfl
  | xs :: xss => by
    rw [List.map_cons]
    show (intsD (xs.map D.int)).bind _ = _
    rw [intsD_map, Option.bind_some, dRows_map xss]; rfl
end Vi
namespace Vi
open PySem PySem.Spec PyProof.Rows L2
end Vi
namespace Vi
open PySem PySem.Spec PyProof.Rows L2
end Vi
namespace Vi
open PySem PySem.Spec PyProof.Rows L2
def sortNO (xss : List (List Int)) : Option (List (List Int)) := if xss.length ≤ 4000 ∧ xss.Nodup ∧ (xss.length < 2 ∨ ∀ r ∈ xss, r ≠ []) then some (xss.mergeSort leR) else none
theorem f_sortN {xss : List (List Int)} : okDs [eT (eT D.int) xss] → ∀ ys, sortNO xss = some ys → ∀ m, gSortN [eT (eT D.int) xss] m = .ok (ys.map (eT D.int)) m ∧ okDs (ys.map (eT D.int)) := fun _ ys h m => by
  unfold sortNO at h
  split at h
  · rename_i c
    cases h
    have e : rowsD (eT (eT D.int) xss) = some xss := dRows_map xss
    refine ⟨?_, noRefs_rows _⟩
    simp only [gSortN, e]
    rw [if_pos c]
    rfl
  · cases h
end Vi
namespace Vi
open PySem PySem.Spec PyProof.Rows L2
def wpO {α : Type} (t : Option α) (Q : α → Prop) : Prop := ∃ a, t = some a ∧ Q a
section
variable {α β γ σ : Type} {Q : α → Prop}
theorem wp_some {a : α} : wpO (some a) Q ↔ Q a := ⟨fun ⟨_, e, h⟩ => by cases e; exact h, fun h => ⟨a, rfl, h⟩⟩
theorem wp_bind {t : Option β} {f : β → Option α} : wpO (t.bind f) Q ↔ wpO t (fun b => wpO (f b) Q) := by
  constructor
  · rintro ⟨a, e, h⟩
    obtain ⟨b, e1, e2⟩ := Option.bind_eq_some_iff.mp e
    exact ⟨b, e1, a, e2, h⟩
  · rintro ⟨b, e1, a, e2, h⟩
    exact ⟨a, by rw [e1]; exact e2, h⟩
theorem wp_pair {t : Option β} {f : β → Option γ} {Q : β × γ → Prop} : wpO (pairB t f) Q ↔ wpO t (fun b => wpO (f b) (fun c => Q (b, c))) := by
  unfold pairB
  rw [wp_bind]
  simp only [wp_bind, wp_some]
theorem wp_vlet {b : β} {f : β → Option α} : wpO (vlet b f) Q ↔ wpO (f b) Q := Iff.rfl
theorem wp_ite {c : Prop} [Decidable c] {t u : Option α} : wpO (if c then t else u) Q ↔ (c → wpO t Q) ∧ (¬c → wpO u Q) := by
  split
  · exact ⟨fun h => ⟨fun _ => h, fun n => absurd ‹c› n⟩, fun h => h.1 ‹_›⟩
  · exact ⟨fun h => ⟨fun n => absurd n ‹¬c›, fun _ => h⟩, fun h => h.2 ‹_›⟩
theorem wpO.imp {t : Option α} {Q' : α → Prop} (h : wpO t Q) (i : ∀ a, Q a → Q' a) : wpO t Q' := let ⟨a, e, q⟩ := h; ⟨a, e, i a q⟩
theorem wp_eq {t : Option α} {a : α} (e : t = some a) (h : Q a) : wpO t Q := ⟨a, e, h⟩
theorem wp_get {t : Option α} {a : α} (h : wpO t (fun b => b = a)) : t = some a := let ⟨_, e, q⟩ := h; q ▸ e
theorem log2_lt {n k : Nat} (h : n < 2 ^ k) (hk : 0 < k) : n.log2 < k := by
  by_cases h0 : n = 0
  · subst h0; simpa using hk
  · exact (Nat.log2_lt h0).mpr h
theorem mulO_ok {i j : Int} {a b : Nat} (h : i.natAbs < 2 ^ a) (h' : j.natAbs < 2 ^ b) (hab : a + b < 1000000 := by decide) (ha : 0 < a := by decide) (hb : 0 < b := by decide) : mulO i j = some (i * j) := by
  have h1 := log2_lt h ha
  have h2 := log2_lt h' hb
  exact if_pos (by omega)
theorem mulO_s {i j : Int} (h : -(2 ^ 100) < i ∧ i < 2 ^ 100) (h' : -(2 ^ 100) < j ∧ j < 2 ^ 100) : mulO i j = some (i * j) := mulO_ok (a := 100) (b := 100) (by omega) (by omega)
theorem wp_mulS {i j : Int} {Q : Int → Prop} (h : -(2 ^ 100) < i ∧ i < 2 ^ 100) (h' : -(2 ^ 100) < j ∧ j < 2 ^ 100) (q : Q (i * j)) : wpO (mulO i j) Q := wp_eq (mulO_s h h') q
theorem rgO_ok {lo hi : Int} (h : -(2 ^ 60) ≤ lo ∧ lo < 2 ^ 60) (h' : -(2 ^ 60) ≤ hi ∧ hi < 2 ^ 60) : rgO lo hi = some (irg lo (hi - lo).toNat) := if_pos ⟨⟨by unfold lim62; omega, by unfold lim62; omega⟩, by unfold lim62; omega, by unfold lim62; omega⟩
theorem wp_rgS {lo hi : Int} {Q : List Int → Prop} (h : -(2 ^ 60) ≤ lo ∧ lo < 2 ^ 60) (h' : -(2 ^ 60) ≤ hi ∧ hi < 2 ^ 60) (q : Q (irg lo (hi - lo).toNat)) : wpO (rgO lo hi) Q := wp_eq (rgO_ok h h') q
theorem wp_catO {xs ys : List β} {Q : List β → Prop} : wpO (catO xs ys) Q ↔ xs.length + ys.length ≤ 16777216 ∧ Q (xs ++ ys) := by
  unfold catO wpO
  split <;> simp [*]
theorem repI_one (x : β) (k : Int) : repI [x] k = List.replicate k.toNat x := by
  unfold repI
  induction k.toNat with
  | zero => rfl
  | succ n ih => rw [List.replicate_succ, List.flatten_cons, ih]; rfl
theorem wp_repT {x : β} {k : Int} {Q : List β → Prop} : wpO (repTO [x] k) Q ↔ ((-(2 ^ 63) ≤ k ∧ k < 2 ^ 63) ∧ k.toNat ≤ 16777216) ∧ Q (List.replicate k.toNat x) := by
  unfold repTO wpO
  rw [repI_one]
  simp only [List.length_cons, List.length_nil, Nat.zero_add, Nat.one_mul]
  split
  · rename_i h; simp only [Option.some.injEq, exists_eq_left', h, true_and]
  · rename_i h; simp only [reduceCtorEq, false_and, exists_false, h]
theorem wp_compA {L : List β} {h : β → γ} {Q : List γ → Prop} : wpO (compA L h) Q ↔ L.length ≤ 16777216 ∧ Q (L.map h) := by
  unfold compA wpO
  split <;> simp [*]
theorem wp_maxO {ns : List Int} {Q : Int → Prop} : wpO (maxO ns) Q ↔ ns ≠ [] ∧ Q (maxI ns) := by
  unfold maxO wpO
  cases ns <;> simp
theorem atI_nn {xs : List β} {i : Nat} {x : β} (h : xs[i]? = some x) : atI xs (i : Int) = some x := by
  unfold atI ixN
  have := (List.getElem?_eq_some_iff.mp h).1
  rw [if_pos (by omega), if_pos (by omega)]
  simpa using h
theorem wp_at {xs : List β} {i : Int} {Q : β → Prop} (h0 : 0 ≤ i) (h1 : i < xs.length) (q : ∀ x, xs[i.toNat]? = some x → Q x) : wpO (atI xs i) Q := by
  have h2 : i.toNat < xs.length := by omega
  refine ⟨xs[i.toNat], ?_, q _ (List.getElem?_eq_getElem h2)⟩
  have := atI_nn (List.getElem?_eq_getElem h2)
  rwa [show ((i.toNat : Nat) : Int) = i by omega] at this
theorem ixN_nn {n : Nat} {i : Int} (h0 : 0 ≤ i) (h1 : i < n) : ixN n i = some i.toNat := by
  unfold ixN
  rw [if_pos h0, if_pos h1]
theorem wp_for {f : σ → β → Option σ} (I : Nat → σ → Prop) {Q : σ → Prop} : ∀ (xs : List β) (s : σ) (k : Nat), I k s → (∀ (i : Nat) (x : β) (s : σ), xs[i]? = some x → I (k + i) s → wpO (f s x) (I (k + i + 1))) → (∀ s, I (k + xs.length) s → Q s) → wpO (forO f xs s) Q
  | [], s, k, h, _, q => ⟨s, rfl, q s h⟩
  | x :: xs, s, k, h, st, q => by
    unfold forO
    rw [wp_bind]
    refine (st 0 x s rfl h).imp fun s' h' => ?_
    refine wp_for I xs s' (k + 1) h' (fun i y s2 e h2 => ?_) (fun s2 h2 => q s2 ?_)
    · have := st (i + 1) y s2 (by simpa using e) (by rw [← Nat.add_assoc, Nat.add_right_comm]; exact h2)
      rwa [← Nat.add_assoc, Nat.add_right_comm k i 1] at this
    · rw [List.length_cons, ← Nat.add_assoc, Nat.add_right_comm]; exact h2
theorem wp_for0 {f : σ → β → Option σ} (I : Nat → σ → Prop) {xs : List β} {s : σ} {Q : σ → Prop} (h : I 0 s) (st : ∀ (i : Nat) (x : β) (s : σ), xs[i]? = some x → I i s → wpO (f s x) (I (i + 1))) (q : ∀ s, I xs.length s → Q s) : wpO (forO f xs s) Q :=
  wp_for I xs s 0 h (fun i x s e hi => by rw [Nat.zero_add] at hi ⊢; exact st i x s e hi) (fun s hs => q s (by rwa [Nat.zero_add] at hs))
theorem wp_forR {ρ : Type} {f : σ → β → Option (Lp ρ σ)} (I : Nat → σ → Prop) {w : ρ → α} {K : σ → Option α} : ∀ (xs : List β) (s : σ) (k : Nat), I k s → (∀ (i : Nat) (x : β) (s : σ), xs[i]? = some x → I (k + i) s → wpO (f s x) (fun l => ∃ s', l = .nx s' ∧ I (k + i + 1) s')) → (∀ s, I (k + xs.length) s → wpO (K s) Q) → wpO (bindR w (forR f xs s) K) Q
  | [], s, k, h, _, q => q s h
  | x :: xs, s, k, h, st, q => by
    obtain ⟨l, e, s', rfl, h'⟩ := st 0 x s rfl h
    have ih := wp_forR (w := w) (K := K) I xs s' (k + 1) h' (fun i y s2 e h2 => by
      have := st (i + 1) y s2 (by simpa using e) (by rw [← Nat.add_assoc, Nat.add_right_comm]; exact h2)
      rwa [← Nat.add_assoc, Nat.add_right_comm k i 1] at this) (fun s2 h2 => q s2 (by rw [List.length_cons, ← Nat.add_assoc, Nat.add_right_comm]; exact h2))
    have e2 : forR f (x :: xs) s = forR f xs s' := by
      show (f s x).bind _ = _
      rw [e]; rfl
    rw [e2]
    exact ih
theorem wp_forR0 {ρ : Type} {f : σ → β → Option (Lp ρ σ)} (I : Nat → σ → Prop) {w : ρ → α} {K : σ → Option α} {xs : List β} {s : σ} (h : I 0 s) (st : ∀ (i : Nat) (x : β) (s : σ), xs[i]? = some x → I i s → wpO (f s x) (fun l => ∃ s', l = .nx s' ∧ I (i + 1) s')) (q : ∀ s, I xs.length s → wpO (K s) Q) : wpO (bindR w (forR f xs s) K) Q :=
  wp_forR I xs s 0 h (fun i x s e hi => by rw [Nat.zero_add] at hi ⊢; exact st i x s e hi) (fun s hs => q s (by rwa [Nat.zero_add] at hs))
theorem irg_get {lo : Int} {n i : Nat} {x : Int} (h : (irg lo n)[i]? = some x) : i < n ∧ x = lo + (i : Int) := by
  unfold irg at h
  rw [List.getElem?_map] at h
  obtain ⟨j, hj, rfl⟩ := Option.map_eq_some_iff.mp h
  have := List.getElem?_range (n := n) (i := i)
  have hi : i < n := by
    have := (List.getElem?_eq_some_iff.mp hj).1
    simpa using this
  rw [List.getElem?_range hi] at hj
  cases hj
  exact ⟨hi, rfl⟩
theorem irg_len (lo : Int) (n : Nat) : (irg lo n).length = n := by simp [irg]
theorem law_of {F : Fn} {d : D} {t : Option Bool} (h : FnT F [.v d] t (fun r => .rt (.bl r) [])) (e : t = some true) (hd : noRef d = true) : ∃ m, F [d] [] = .ok (.bl true) m := by
  obtain ⟨m', h1, _⟩ := h true e [] [d] [] ⟨fun k A d h => by simp at h, fun k l A B d e _ h => by simp at h⟩ List.nodup_nil ⟨⟨rfl, hd⟩, trivial⟩
  exact ⟨m', h1⟩
theorem law_in {F : Fn} {ns : List Int} {t : Option Bool} (h : FnT F [.v (eZ D.int ns)] t (fun r => .rt (.bl r) [])) (e : t = some true) : ∃ m, F [.frz (ns.map D.int)] [] = .ok (.bl true) m := law_of h e (noRefs_int ns)
end
section
variable {α β : Type} {f : α → D} {g : β → D} {p : α → PyData} {q : β → PyData} {L c d : Nat} {B : α → Prop} {B' : β → Prop}
end
end Vi
namespace Vi
open PySem PySem.Spec PyProof.Rows L2
def one0 : Nat → Int := fun n => if n = 0 then 1 else 0
def dnR (op : Int → Int → Int) (s : Nat) (g : Nat → Int) : Nat → Int := fun n => if s ≤ n then op (g n) (g (n - s)) else g n
def upR (op : Int → Int → Int) (s : Nat) (g : Nat → Int) (n : Nat) : Int := if h : 0 < s ∧ s ≤ n then op (g n) (upR op s g (n - s)) else g n
  termination_by n
  decreasing_by omega
end Vi
namespace Vi
open PySem PySem.Spec PyProof.Rows L2
def Pt (p : List Int) : Prop := (∀ x ∈ p, 1 ≤ x) ∧ p.Pairwise (fun a b => b ≤ a)
theorem maxI_head {x : Int} {xs : List Int} (h : (x :: xs).Pairwise (fun a b => b ≤ a)) : maxI (x :: xs) = x := by
  obtain ⟨h1, h2⟩ := maxI_of x xs
  have h3 := h2 x (List.mem_cons_self ..)
  rcases List.mem_cons.mp h1 with e | e
  · exact e
  · have := (List.pairwise_cons.mp h).1 _ e
    omega
theorem maxDI_head {x d : Int} {xs : List Int} (h : (x :: xs).Pairwise (fun a b => b ≤ a)) : maxDI (x :: xs) d = x := by
  unfold maxDI
  rw [if_neg (by simp), maxI_head h]
theorem compP_id {L : List Int} (q : Int → Bool) (h : L.length ≤ 16777216) : compP L q (fun x => x) = some (L.filter q) := by
  unfold compP
  rw [if_pos h, List.map_id']
theorem compM_ok {α β : Type} {L : List α} {f : α → Option β} {g : α → β} (hl : L.length ≤ 16777216) (h : ∀ x ∈ L, f x = some (g x)) : compM L f = some (L.map g) := by
  have : ∀ L : List α, (∀ x ∈ L, f x = some (g x)) → mapO' f L = some (L.map g) := by
    intro L
    induction L with
    | nil => intro _; rfl
    | cons x L ih =>
      intro h
      unfold mapO'
      rw [h x (List.mem_cons_self ..), Option.bind_some, ih fun y hy => h y (List.mem_cons_of_mem _ hy)]
      rfl
  unfold compM
  rw [if_pos hl, this L h]
theorem catO_ok {β : Type} {xs ys : List β} (h : xs.length + ys.length ≤ 16777216) : catO xs ys = some (xs ++ ys) := if_pos h
def cnt (p : List Int) (s : Int) : Int := ((p.filter fun x => decide (s ≤ x)).length : Int)
theorem cnt_nn (p : List Int) (s : Int) : 0 ≤ cnt p s := Int.natCast_nonneg _
theorem cnt_all {p : List Int} {s : Int} (h : ∀ x ∈ p, s ≤ x) : cnt p s = p.length := by
  unfold cnt
  rw [List.filter_eq_self.mpr fun x hx => by simpa using h x hx]
theorem cnt_mono {p : List Int} {s t : Int} (h : s ≤ t) : cnt p t ≤ cnt p s := by
  unfold cnt
  have : (p.filter fun x => decide (t ≤ x)).length ≤ (p.filter fun x => decide (s ≤ x)).length := by
    induction p with
    | nil => exact Nat.le_refl _
    | cons x p ih =>
      rw [List.filter_cons, List.filter_cons]
      by_cases h1 : t ≤ x
      · rw [if_pos (by simpa using h1), if_pos (by simp; omega), List.length_cons, List.length_cons]; omega
      · rw [if_neg (by simpa using h1)]
        split
        · rw [List.length_cons]; omega
        · exact ih
  omega
theorem cnt_pos {p : List Int} {s x : Int} (hx : x ∈ p) (h : s ≤ x) : 1 ≤ cnt p s := by
  unfold cnt
  have : x ∈ p.filter fun x => decide (s ≤ x) := List.mem_filter.mpr ⟨hx, by simpa using h⟩
  have := List.length_pos_of_mem this
  omega
def maxD0 (p : List Int) : Int := maxDI p 0
theorem maxD0_nn {p : List Int} (h : Pt p) : 0 ≤ maxD0 p ∧ (∀ x ∈ p, x ≤ maxD0 p) ∧ (p ≠ [] → maxD0 p ∈ p) := by
  cases p with
  | nil => exact ⟨Int.le_refl _, (fun x hx => (List.not_mem_nil hx).elim), fun h => absurd rfl h⟩
  | cons x xs =>
    unfold maxD0
    rw [maxDI_head h.2]
    exact ⟨by have := h.1 x (List.mem_cons_self ..); omega, fun y hy => by
      rcases List.mem_cons.mp hy with e | e
      · omega
      · exact (List.pairwise_cons.mp h.2).1 y e, fun _ => List.mem_cons_self ..⟩
def turn (p : List Int) : List Int := (irg 1 (maxD0 p).toNat).map (cnt p)
theorem turn_len (p : List Int) : (turn p).length = (maxD0 p).toNat := by simp [turn, irg]
theorem irg_up (lo : Int) (n : Nat) : (irg lo n).Pairwise (· < ·) := by
  unfold irg
  rw [List.pairwise_map]
  exact List.Pairwise.imp (fun h => by omega) (List.pairwise_lt_range (n := n))
theorem mem_irg {lo x : Int} {n : Nat} : x ∈ irg lo n ↔ lo ≤ x ∧ x < lo + n := by
  unfold irg
  rw [List.mem_map]
  constructor
  · rintro ⟨i, hi, rfl⟩
    have := List.mem_range.mp hi
    omega
  · rintro ⟨h1, h2⟩
    exact ⟨(x - lo).toNat, List.mem_range.mpr (by omega), by omega⟩
theorem turn_pt {p : List Int} (h : Pt p) : Pt (turn p) := by
  obtain ⟨m0, m1, m2⟩ := maxD0_nn h
  refine ⟨fun y hy => ?_, ?_⟩
  · obtain ⟨s, hs, rfl⟩ := List.mem_map.mp hy
    rw [mem_irg] at hs
    have hne : p ≠ [] := by
      intro e; subst e
      have : maxD0 [] = 0 := rfl
      omega
    exact cnt_pos (m2 hne) (by omega)
  · unfold turn
    rw [List.pairwise_map]
    exact (irg_up 1 _).imp fun h => cnt_mono (by omega)
theorem turn_head {p : List Int} (h : Pt p) (hne : p ≠ []) : ∃ r, turn p = (p.length : Int) :: r := by
  obtain ⟨m0, m1, m2⟩ := maxD0_nn h
  have := h.1 _ (m2 hne)
  obtain ⟨k, hk⟩ : ∃ k, (maxD0 p).toNat = k + 1 := ⟨(maxD0 p).toNat - 1, by omega⟩
  unfold turn
  rw [hk, irg, List.range_succ_eq_map, List.map_cons, List.map_cons]
  refine ⟨_, by rw [cnt_all (p := p) (s := 1 + ((0 : Nat) : Int)) fun x hx => by have := h.1 x hx; omega]⟩
end Vi
namespace TA
open PySem PySem.Spec PyProof.Rows L2 Vi
abbrev up (s : Nat) (g : Nat → Int) : Nat → Int := upR (fun a b => a + b) s g
abbrev dn (s : Nat) (g : Nat → Int) : Nat → Int := dnR (fun a b => a - b) s g
def GB : Nat → Nat → Nat → Int
  | 0, _, n => one0 n
  | _ + 1, 0, n => one0 n
  | k + 1, l + 1, n => GB k (l + 1) n + if k + 1 ≤ n then GB (k + 1) l (n - (k + 1)) else 0
inductive Kd where
  | all | most (k : Nat) | few (l : Nat) | off (d : Nat) | box (k l : Nat) | times (m : Nat) | rests (m : Nat) (rs : List Int)
def Kd.ok : Kd → Prop
  | .all => True
  | .most k => 1 ≤ k ∧ k ≤ 600
  | .few l => 1 ≤ l ∧ l ≤ 600
  | .off d => 1 ≤ d ∧ d ≤ 600
  | .box k l => (1 ≤ k ∧ k ≤ 600) ∧ 1 ≤ l ∧ l ≤ 600
  | .times m => 2 ≤ m ∧ m ≤ 600
  | .rests m rs => (2 ≤ m ∧ m ≤ 600) ∧ rs.length ≤ 600
def Kd.rm : Kd → Option Nat
  | .few l => some l
  | .box _ l => some l
  | _ => none
def Kd.al (K : Kd) (p : Nat) : Bool := match K with
  | .rests m rs => decide (((p : Int) % (m : Int)) ∈ rs)
  | _ => true
def Kd.top (K : Kd) (r : Nat) : Nat := match K with
  | .most k => min r k
  | .box k _ => min r k
  | _ => r
def Kd.cap (K : Kd) (last used : Nat) : Nat := match K with
  | .off d => last - d
  | .times m => if used + 1 = m then last - 1 else last
  | _ => last
def T (K : Kd) : Nat → Nat → Int
  | 0, n => one0 n
  | s + 1, n => match K with
    | .off d => T K s n + if s + 1 ≤ n then T K (s - (d - 1)) (n - (s + 1)) else 0
    | .times m => ((List.range (min (m - 1) (n / (s + 1)) + 1)).map fun o => T K s (n - (s + 1) * o)).sum
    | _ => if K.al (s + 1) = true then up (s + 1) (T K s) n else T K s n
  termination_by s => s
  decreasing_by all_goals omega
def Kd.plain : Kd → Bool
  | .off _ => false
  | .times _ => false
  | _ => true
def C (K : Kd) (r last used room : Nat) : Int := match K with
  | .few _ => GB last room r
  | .box _ _ => GB last room r
  | .off d => T (.off d) (last - d) r
  | .times m => ((List.range (min (m - 1 - used) (r / last) + 1)).map fun o => T (.times m) (last - 1) (r - last * o)).sum
  | K => T K last r
def Kd.parts (K : Kd) (r lim : Nat) : List Nat := ((List.range (min (K.top r) lim)).map (· + 1)).filter K.al
theorem parts_mem {K : Kd} {r lim p : Nat} : p ∈ K.parts r lim ↔ (1 ≤ p ∧ p ≤ K.top r ∧ p ≤ lim) ∧ K.al p = true := by
  unfold Kd.parts
  rw [List.mem_filter, List.mem_map]
  constructor
  · rintro ⟨⟨a, ha, rfl⟩, h⟩
    rw [List.mem_range] at ha
    exact ⟨⟨by omega, by omega, by omega⟩, h⟩
  · rintro ⟨⟨h1, h2, h3⟩, h⟩
    exact ⟨⟨p - 1, List.mem_range.mpr (by omega), by omega⟩, h⟩
theorem parts_up (K : Kd) (r lim : Nat) : (K.parts r lim).Pairwise (· < ·) := by
  unfold Kd.parts
  refine List.Pairwise.filter _ ?_
  rw [List.pairwise_map]
  exact List.pairwise_lt_range.imp fun h => by omega
def nu (last : Option Nat) (used p : Nat) : Nat := if last = some p then used + 1 else 1
def V (K : Kd) (last used : Nat) : Prop := 1 ≤ last ∧ K.top last = last ∧ ∀ m, K = .times m → 1 ≤ used ∧ used < m
def lim (K : Kd) (r : Nat) (last : Option Nat) (used : Nat) : Nat := match last with
  | none => r
  | some l => K.cap l used
def tl (K : Kd) : Nat → Nat → Option Nat → Nat → Nat → List (List Nat)
  | 0, r, _, _, _ => if r = 0 then [[]] else []
  | f + 1, r, last, used, room => if r = 0 then [[]] else if K.rm.isSome = true ∧ room = 0 then [] else (K.parts r (lim K r last used)).flatMap fun p => (tl K f (r - p) (some p) (nu last used p) (room - 1)).map (p :: ·)
theorem tl_S (K : Kd) (f r : Nat) (last : Option Nat) (used room : Nat) : tl K (f + 1) r last used room = if r = 0 then [[]] else if K.rm.isSome = true ∧ room = 0 then [] else (K.parts r (lim K r last used)).flatMap fun p => (tl K f (r - p) (some p) (nu last used p) (room - 1)).map (p :: ·) := rfl
theorem tl_mem {K : Kd} {f r used room : Nat} {last : Option Nat} {q : List Nat} (h : q ∈ tl K (f + 1) r last used room) (hr : r ≠ 0) : ∃ p q', q = p :: q' ∧ p ∈ K.parts r (lim K r last used) ∧ q' ∈ tl K f (r - p) (some p) (nu last used p) (room - 1) ∧ (K.rm ≠ none → 1 ≤ room) := by
  unfold tl at h
  rw [if_neg hr] at h
  split at h
  · cases h
  · rename_i hroom
    obtain ⟨p, hp, h⟩ := List.mem_flatMap.mp h
    obtain ⟨q', hq, rfl⟩ := List.mem_map.mp h
    refine ⟨p, q', rfl, hp, hq, fun h => ?_⟩
    rcases Nat.eq_zero_or_pos room with q | q
    · exact absurd ⟨by cases e : K.rm with | none => exact absurd e h | some _ => rfl, q⟩ hroom
    · exact q
theorem tl_in {K : Kd} {f r used room p : Nat} {last : Option Nat} {q : List Nat} (hr : r ≠ 0) (hp : p ∈ K.parts r (lim K r last used)) (hq : q ∈ tl K f (r - p) (some p) (nu last used p) (room - 1)) (hroom : K.rm ≠ none → 1 ≤ room) : p :: q ∈ tl K (f + 1) r last used room := by
  unfold tl
  rw [if_neg hr, if_neg (by
    rintro ⟨h1, h2⟩
    have := hroom (by intro e; rw [e] at h1; cases h1)
    omega)]
  exact List.mem_flatMap.mpr ⟨p, hp, List.mem_map.mpr ⟨q, hq, rfl⟩⟩
theorem bs {α β : Type} (a : α) (f : α → Option β) : (some a).bind f = f a := id rfl
theorem vl {α β : Type} (a : α) (f : α → Option β) : vlet a f = f a := id rfl
theorem ms {α β : Type} (a : α) (f : α → β) : (some a).map f = some (f a) := id rfl
def okp (K : Kd) : Option Nat → Nat → Nat → List Nat → Prop
  | _, _, _, [] => True
  | last, used, room, p :: q => (1 ≤ p ∧ K.top p = p ∧ (∀ l, last = some l → p ≤ K.cap l used) ∧ K.al p = true) ∧ (K.rm ≠ none → 1 ≤ room) ∧ okp K (some p) (nu last used p) (room - 1) q
theorem top_iff (K : Kd) {p r : Nat} : p ≤ K.top r ↔ p ≤ r ∧ K.top p = p := by cases K <;> simp only [Kd.top, and_true] <;> omega
theorem okp_sum {K : Kd} : ∀ {q : List Nat} {last : Option Nat} {used room : Nat}, okp K last used room q → q.length ≤ q.sum
  | [], _, _, _, _ => Nat.le_refl _
  | p :: q, _, _, _, h => by
    have := okp_sum h.2.2
    have := h.1.1
    simp only [List.length_cons, List.sum_cons]
    omega
theorem lim_iff {K : Kd} {r used p : Nat} {last : Option Nat} (h : p ≤ r) : p ≤ lim K r last used ↔ ∀ l, last = some l → p ≤ K.cap l used := by
  cases last with
  | none => exact ⟨fun _ l e => by (cases e), fun _ => h⟩
  | some l => exact ⟨fun h l' e => by (cases e; exact h), fun h => h l rfl⟩
theorem tl_iff (K : Kd) : ∀ (f r : Nat) (last : Option Nat) (used room : Nat) (q : List Nat), r ≤ f → (q ∈ tl K f r last used room ↔ okp K last used room q ∧ q.sum = r)
  | 0, r, last, used, room, q, hf => by
    have : r = 0 := by omega
    subst this
    show q ∈ [[]] ↔ _
    rw [List.mem_singleton]
    constructor
    · rintro rfl; exact ⟨trivial, rfl⟩
    · rintro ⟨h1, h2⟩
      have := okp_sum h1
      exact List.length_eq_zero_iff.mp (by omega)
  | f + 1, r, last, used, room, q, hf => by
    by_cases hr : r = 0
    · subst hr
      unfold tl
      rw [if_pos rfl, List.mem_singleton]
      constructor
      · rintro rfl; exact ⟨trivial, rfl⟩
      · rintro ⟨h1, h2⟩
        have := okp_sum h1
        exact List.length_eq_zero_iff.mp (by omega)
    constructor
    · intro h
      obtain ⟨p, q', rfl, hp, hq, hroom⟩ := tl_mem h hr
      obtain ⟨⟨h1, h2, h3⟩, h4⟩ := parts_mem.mp hp
      obtain ⟨t1, t2⟩ := (top_iff K).mp h2
      obtain ⟨o1, o2⟩ := (tl_iff K f (r - p) (some p) (nu last used p) (room - 1) q' (by omega)).mp hq
      exact ⟨⟨⟨h1, t2, (lim_iff t1).mp h3, h4⟩, hroom, o1⟩, by rw [List.sum_cons, o2]; omega⟩
    · rintro ⟨h1, h2⟩
      cases q with
      | nil => exact absurd h2.symm hr
      | cons p q =>
        obtain ⟨⟨a1, a2, a3, a4⟩, hroom, o1⟩ := h1
        rw [List.sum_cons] at h2
        refine tl_in hr (parts_mem.mpr ⟨⟨a1, (top_iff K).mpr ⟨by omega, a2⟩, (lim_iff (by omega)).mpr a3⟩, a4⟩) ?_ hroom
        exact (tl_iff K f (r - p) (some p) (nu last used p) (room - 1) q (by omega)).mpr ⟨o1, by omega⟩
def gapN (d : Nat) : List Nat → Bool
  | a :: b :: q => decide (b + d ≤ a) && gapN d (b :: q)
  | _ => true
def kof : Kd → List Nat → Bool
  | .all, _ => true
  | .most k, p => p.all fun x => decide (x ≤ k)
  | .few l, p => decide (p.length ≤ l)
  | .off d, p => gapN d p
  | .box k l, p => decide (p.length ≤ l) && p.all fun x => decide (x ≤ k)
  | .times m, p => p.all fun x => decide (p.count x < m)
  | .rests m rs, p => p.all fun x => decide (((x : Int) % (m : Int)) ∈ rs)
def PtN' (p : List Nat) : Prop := (∀ x ∈ p, 1 ≤ x) ∧ p.Pairwise (fun a b => b ≤ a)
def rm0 (K : Kd) (n : Nat) : Nat := match K.rm with
  | some l => l
  | none => n
def Beh (last : Option Nat) (q : List Nat) : Prop := (∀ x ∈ q, 1 ≤ x) ∧ q.Pairwise (fun a b => b ≤ a) ∧ ∀ l, last = some l → ∀ x ∈ q, x ≤ l
theorem beh_cons {last : Option Nat} {p : Nat} {q : List Nat} : Beh last (p :: q) ↔ (1 ≤ p ∧ ∀ l, last = some l → p ≤ l) ∧ Beh (some p) q := by
  unfold Beh
  simp only [List.mem_cons, List.pairwise_cons]
  constructor
  · rintro ⟨h1, ⟨h2, h3⟩, h4⟩
    exact ⟨⟨h1 p (.inl rfl), fun l e => h4 l e p (.inl rfl)⟩, fun x hx => h1 x (.inr hx), h3, fun l e x hx => by cases e; exact h2 x hx⟩
  · rintro ⟨⟨h1, h2⟩, h3, h4, h5⟩
    refine ⟨?_, ⟨h5 p rfl, h4⟩, ?_⟩
    · rintro x (rfl | hx)
      · exact h1
      · exact h3 x hx
    · rintro l e x (rfl | hx)
      · exact h2 l e
      · exact Nat.le_trans (h5 p rfl x hx) (h2 l e)
theorem okp_plain {K : Kd} (hc : ∀ l u, K.cap l u = l) (hr : K.rm = none) : ∀ (q : List Nat) (last : Option Nat) (used room : Nat), okp K last used room q ↔ Beh last q ∧ ∀ x ∈ q, K.top x = x ∧ K.al x = true
  | [], last, used, room => ⟨fun _ => ⟨⟨fun x hx => by (cases hx), .nil, fun l e x hx => by cases hx⟩, fun x hx => by cases hx⟩, fun _ => trivial⟩
  | p :: q, last, used, room => by
    unfold okp
    rw [okp_plain hc hr q, beh_cons]
    simp only [List.mem_cons, hc]
    constructor
    · rintro ⟨⟨a1, a2, a3, a4⟩, _, b1, b2⟩
      exact ⟨⟨⟨a1, a3⟩, b1⟩, fun x hx => hx.elim (fun e => by rw [e]; exact ⟨a2, a4⟩) (b2 x)⟩
    · rintro ⟨⟨⟨a1, a3⟩, b1⟩, b2⟩
      exact ⟨⟨a1, (b2 p (.inl rfl)).1, a3, (b2 p (.inl rfl)).2⟩, fun h => absurd hr h, b1, fun x hx => b2 x (.inr hx)⟩
theorem okp_room {K : Kd} {l0 : Nat} (hc : ∀ l u, K.cap l u = l) (hr : K.rm = some l0) : ∀ (q : List Nat) (last : Option Nat) (used room : Nat), okp K last used room q ↔ Beh last q ∧ (∀ x ∈ q, K.top x = x ∧ K.al x = true) ∧ q.length ≤ room
  | [], last, used, room => ⟨fun _ => ⟨⟨fun x hx => by (cases hx), .nil, fun l e x hx => by cases hx⟩, fun x hx => by (cases hx), Nat.zero_le _⟩, fun _ => trivial⟩
  | p :: q, last, used, room => by
    unfold okp
    rw [okp_room hc hr q, beh_cons]
    simp only [List.mem_cons, hc, List.length_cons]
    constructor
    · rintro ⟨⟨a1, a2, a3, a4⟩, a5, b1, b2, b3⟩
      have := a5 (by rw [hr]; simp)
      exact ⟨⟨⟨a1, a3⟩, b1⟩, fun x hx => hx.elim (fun e => by rw [e]; exact ⟨a2, a4⟩) (b2 x), by omega⟩
    · rintro ⟨⟨⟨a1, a3⟩, b1⟩, b2, b3⟩
      exact ⟨⟨a1, (b2 p (.inl rfl)).1, a3, (b2 p (.inl rfl)).2⟩, fun _ => by omega, b1, fun x hx => b2 x (.inr hx), by omega⟩
theorem okp_off {d : Nat} (hd : 1 ≤ d) : ∀ (q : List Nat) (last : Option Nat) (used room : Nat), okp (.off d) last used room q ↔ Beh last q ∧ gapN d (last.toList ++ q) = true
  | [], last, used, room => ⟨fun _ => ⟨⟨fun x hx => by (cases hx), .nil, fun l e x hx => by cases hx⟩, by cases last <;> rfl⟩, fun _ => trivial⟩
  | p :: q, last, used, room => by
    unfold okp
    rw [okp_off hd q, beh_cons]
    have e : gapN d ((some p).toList ++ q) = gapN d (p :: q) := rfl
    rw [e]
    cases last with
    | none =>
      show _ ↔ _ ∧ gapN d (p :: q) = true
      constructor
      · rintro ⟨⟨a1, a2, a3, a4⟩, _, b1, b2⟩
        exact ⟨⟨⟨a1, fun l e => by cases e⟩, b1⟩, b2⟩
      · rintro ⟨⟨⟨a1, a3⟩, b1⟩, b2⟩
        exact ⟨⟨a1, rfl, fun l e => by (cases e), rfl⟩, fun h => absurd rfl h, b1, b2⟩
    | some l =>
      have e2 : gapN d ((some l).toList ++ p :: q) = (decide (p + d ≤ l) && gapN d (p :: q)) := rfl
      rw [e2, Bool.and_eq_true, decide_eq_true_eq]
      constructor
      · rintro ⟨⟨a1, a2, a3, a4⟩, _, b1, b2⟩
        have : p ≤ l - d := a3 l rfl
        exact ⟨⟨⟨a1, fun l' e => by cases e; omega⟩, b1⟩, by omega, b2⟩
      · rintro ⟨⟨⟨a1, a3⟩, b1⟩, b2, b3⟩
        exact ⟨⟨a1, rfl, fun l' e => by cases e; show p ≤ l - d; omega, rfl⟩, fun h => absurd rfl h, b1, b3⟩
theorem count_far {q : List Nat} {x : Nat} (h : x ∉ q) : q.count x = 0 := List.count_eq_zero.mpr h
theorem okp_times {m : Nat} (hm : 2 ≤ m) : ∀ (q : List Nat) (last : Option Nat) (used room : Nat), (∀ l, last = some l → 1 ≤ used ∧ used < m) → (okp (.times m) last used room q ↔ Beh last q ∧ (∀ x ∈ q, q.count x < m) ∧ ∀ l, last = some l → used + q.count l < m)
  | [], last, used, room, hu => ⟨fun _ => ⟨⟨fun x hx => by (cases hx), .nil, fun l e x hx => by cases hx⟩, fun x hx => by (cases hx), fun l e => (hu l e).2⟩, fun _ => trivial⟩
  | p :: q, last, used, room, hu => by
    unfold okp
    have cap : ∀ l, Kd.cap (.times m) l used = if used + 1 = m then l - 1 else l := fun _ => rfl
    have step : ∀ (h : ∀ l, last = some l → p ≤ Kd.cap (.times m) l used) (p1 : 1 ≤ p), 1 ≤ nu last used p ∧ nu last used p < m := fun h p1 => by
      unfold nu
      split
      · rename_i e
        obtain ⟨u1, u2⟩ := hu p e
        have := h p e
        rw [cap] at this
        refine ⟨by omega, ?_⟩
        split at this <;> omega
      · exact ⟨Nat.le_refl _, by omega⟩
    rw [beh_cons]
    have cp : (p :: q).count p = q.count p + 1 := List.count_cons_self
    constructor
    · rintro ⟨⟨a1, a2, a3, a4⟩, _, o⟩
      obtain ⟨b1, b2, b3⟩ := (okp_times hm q (some p) _ _ (fun l e => by (cases e; exact step a3 a1))).mp o
      have b3 := b3 p rfl
      refine ⟨⟨⟨a1, fun l e => ?_⟩, b1⟩, fun x hx => ?_, fun l e => ?_⟩
      · have := a3 l e; rw [cap] at this; split at this <;> omega
      · by_cases hxp : x = p
        · subst hxp
          rw [cp]
          unfold nu at b3
          split at b3 <;> omega
        · rw [List.count_cons_of_ne (Ne.symm hxp)]
          exact b2 x ((List.mem_cons.mp hx).resolve_left hxp)
      · by_cases hlp : l = p
        · subst hlp
          rw [cp]
          unfold nu at b3
          rw [if_pos e] at b3
          omega
        · have hl := a3 l e
          have hn : l ∉ q := fun hq => by
            have := b1.2.2 p rfl l hq
            rw [cap] at hl; split at hl <;> omega
          rw [List.count_cons_of_ne (Ne.symm hlp), count_far hn]
          have := hu l e; omega
    · rintro ⟨⟨⟨a1, a3⟩, b1⟩, b2, b3⟩
      have a3' : ∀ l, last = some l → p ≤ Kd.cap (.times m) l used := fun l e => by
        rw [cap]
        have h1 := a3 l e
        split
        · rename_i hum
          by_cases hlp : l = p
          · subst hlp
            have := b3 l e
            rw [cp] at this; omega
          · omega
        · exact h1
      refine ⟨⟨a1, rfl, a3', rfl⟩, fun h => absurd rfl h, (okp_times hm q (some p) _ _ (fun l e => by (cases e; exact step a3' a1))).mpr ⟨b1, fun x hx => ?_, fun l e => ?_⟩⟩
      · exact Nat.lt_of_le_of_lt List.count_le_count_cons (b2 x (List.mem_cons_of_mem _ hx))
      · cases e
        unfold nu
        split
        · rename_i e
          have := b3 p e
          rw [cp] at this; omega
        · have := b2 p (List.mem_cons_self ..)
          rw [cp] at this; omega
theorem beh_none {q : List Nat} : Beh none q ↔ PtN' q := ⟨fun h => ⟨h.1, h.2.1⟩, fun h => ⟨h.1, h.2, fun l e => by cases e⟩⟩
theorem okp_kof {K : Kd} (hK : K.ok) {q : List Nat} {n : Nat} : okp K none 0 (rm0 K n) q ↔ PtN' q ∧ kof K q = true := by
  cases K with
  | off d => rw [okp_off hK.1, beh_none]; rfl
  | times m =>
    rw [okp_times hK.1 _ _ _ _ (fun l e => by cases e), beh_none]
    show _ ↔ _ ∧ (q.all fun x => decide (q.count x < m)) = true
    rw [List.all_eq_true]
    simp only [decide_eq_true_eq]
    exact ⟨fun h => ⟨h.1, h.2.1⟩, fun h => ⟨h.1, h.2, fun l e => by cases e⟩⟩
  | all => rw [okp_plain (fun _ _ => rfl) rfl, beh_none]; exact ⟨fun h => ⟨h.1, rfl⟩, fun h => ⟨h.1, fun x _ => ⟨rfl, rfl⟩⟩⟩
  | most k =>
    rw [okp_plain (fun _ _ => rfl) rfl, beh_none]
    show _ ↔ _ ∧ (q.all fun x => decide (x ≤ k)) = true
    rw [List.all_eq_true]
    simp only [decide_eq_true_eq, Kd.top, Kd.al]
    exact ⟨fun h => ⟨h.1, fun x hx => by have := (h.2 x hx).1; omega⟩, fun h => ⟨h.1, fun x hx => ⟨by have := h.2 x hx; omega, trivial⟩⟩⟩
  | rests m rs =>
    rw [okp_plain (fun _ _ => rfl) rfl, beh_none]
    show _ ↔ _ ∧ (q.all fun x => decide (((x : Int) % (m : Int)) ∈ rs)) = true
    rw [List.all_eq_true]
    exact ⟨fun h => ⟨h.1, fun x hx => (h.2 x hx).2⟩, fun h => ⟨h.1, fun x hx => ⟨rfl, h.2 x hx⟩⟩⟩
  | few l =>
    rw [okp_room (fun _ _ => rfl) rfl, beh_none]
    show _ ↔ _ ∧ decide (q.length ≤ l) = true
    rw [decide_eq_true_eq]
    exact ⟨fun h => ⟨h.1, h.2.2⟩, fun h => ⟨h.1, fun x _ => ⟨rfl, rfl⟩, h.2⟩⟩
  | box k l =>
    rw [okp_room (fun _ _ => rfl) rfl, beh_none]
    show _ ↔ _ ∧ (decide (q.length ≤ l) && q.all fun x => decide (x ≤ k)) = true
    rw [Bool.and_eq_true, decide_eq_true_eq, List.all_eq_true]
    simp only [decide_eq_true_eq, Kd.top, Kd.al]
    exact ⟨fun h => ⟨h.1, h.2.2, fun x hx => by have := (h.2.1 x hx).1; omega⟩, fun h => ⟨h.1, fun x hx => ⟨by have := h.2.2 x hx; omega, trivial⟩, h.2.1⟩⟩
end TA
namespace Vi
open PySem PySem.Spec PyProof.Rows L2
theorem uniq_str {α : Type} {r : α → α → Prop} (asym : ∀ a b, r a b → ¬ r b a) : ∀ {xs ys : List α}, xs.Pairwise r → ys.Pairwise r → (∀ z, z ∈ xs ↔ z ∈ ys) → xs = ys
  | [], [], _, _, _ => rfl
  | [], y :: ys, _, _, h => ((List.not_mem_nil ((h y).mpr (List.mem_cons_self ..)))).elim
  | x :: xs, [], _, _, h => ((List.not_mem_nil ((h x).mp (List.mem_cons_self ..)))).elim
  | x :: xs, y :: ys, h1, h2, h => by
    have hx := List.pairwise_cons.mp h1
    have hy := List.pairwise_cons.mp h2
    have irr : ∀ a, ¬ r a a := fun a q => asym a a q q
    have e : x = y := by
      rcases List.mem_cons.mp ((h x).mp (List.mem_cons_self ..)) with q | q
      · exact q
      · rcases List.mem_cons.mp ((h y).mpr (List.mem_cons_self ..)) with q' | q'
        · exact q'.symm
        · exact absurd (hy.1 x q) (asym _ _ (hx.1 y q'))
    subst e
    rw [uniq_str asym hx.2 hy.2 fun z => ⟨fun q => ?_, fun q => ?_⟩]
    · rcases List.mem_cons.mp ((h z).mp (List.mem_cons_of_mem _ q)) with e | e
      · subst e; exact absurd (hx.1 _ q) (irr _)
      · exact e
    · rcases List.mem_cons.mp ((h z).mpr (List.mem_cons_of_mem _ q)) with e | e
      · subst e; exact absurd (hy.1 _ q) (irr _)
      · exact e
def keysOf (s : List (Int × Int)) : List Int := s.map (·.1)
theorem dget_mem : ∀ {s : List (Int × Int)} {k c : Int}, (keysOf s).Nodup → (dget s k = some c ↔ (k, c) ∈ s)
  | [], k, c, _ => by simp [dget]
  | (k0, c0) :: s, k, c, h => by
    have h' := List.nodup_cons.mp h
    have ih := dget_mem (s := s) (k := k) (c := c) h'.2
    unfold dget at ih ⊢
    by_cases e : k0 = k
    · subst e
      simp only [List.find?_cons, decide_true, Option.map_some, Option.some.injEq, List.mem_cons, Prod.mk.injEq, true_and]
      constructor
      · exact fun q => .inl q.symm
      · rintro (q | q)
        · exact q.symm
        · exact absurd (List.mem_map.mpr ⟨_, q, rfl⟩) h'.1
    · simp only [List.find?_cons, e, decide_false, List.mem_cons, Prod.mk.injEq]
      rw [ih]
      constructor
      · exact fun q => .inr q
      · rintro (q | q)
        · exact absurd q.1.symm e
        · exact q
theorem dget_none {s : List (Int × Int)} {k : Int} (h : k ∉ keysOf s) : dget s k = none := by
  unfold dget
  rw [List.find?_eq_none.mpr fun p hp => ?_]
  · rfl
  · simp only [decide_eq_true_eq]
    intro e
    exact h (List.mem_map.mpr ⟨p, hp, e⟩)
theorem dput_keys (s : List (Int × Int)) (k c : Int) : keysOf (dput s k c) = if k ∈ keysOf s then keysOf s else keysOf s ++ [k] := by
  have e1 : (s.any fun p => decide (p.1 = k)) = decide (k ∈ keysOf s) := by
    rw [Bool.eq_iff_iff]
    simp only [List.any_eq_true, decide_eq_true_eq, keysOf, List.mem_map]
  unfold dput
  rw [e1]
  by_cases h : k ∈ keysOf s
  · rw [if_pos (by simpa using h), if_pos h]
    unfold keysOf
    rw [List.map_map]
    apply List.map_congr_left
    intro p _
    simp only [Function.comp]
    split <;> rfl
  · rw [if_neg (by simpa using h), if_neg h]
    simp [keysOf]
theorem dput_mem {s : List (Int × Int)} {k c : Int} (hn : (keysOf s).Nodup) (a b : Int) : (a, b) ∈ dput s k c ↔ if a = k then b = c else (a, b) ∈ s := by
  have e1 : (s.any fun p => decide (p.1 = k)) = decide (k ∈ keysOf s) := by
    rw [Bool.eq_iff_iff]
    simp only [List.any_eq_true, decide_eq_true_eq, keysOf, List.mem_map]
  unfold dput
  rw [e1]
  by_cases h : k ∈ keysOf s
  · rw [if_pos (by simpa using h), List.mem_map]
    by_cases e : a = k
    · rw [if_pos e]
      subst e
      constructor
      · rintro ⟨p, hp, q⟩
        by_cases z : p.1 = a
        · rw [if_pos z] at q
          exact (Prod.mk.inj q).2.symm
        · rw [if_neg z] at q
          exact absurd (by rw [q]) z
      · intro q
        obtain ⟨p, hp, z⟩ := List.mem_map.mp h
        exact ⟨p, hp, by rw [if_pos z, z, q]⟩
    · rw [if_neg e]
      constructor
      · rintro ⟨p, hp, q⟩
        by_cases z : p.1 = k
        · rw [if_pos z] at q
          exact absurd ((Prod.mk.inj q).1.symm.trans z) e
        · rw [if_neg z] at q
          rw [← q]; exact hp
      · intro q
        exact ⟨_, q, by rw [if_neg e]⟩
  · rw [if_neg (by simpa using h), List.mem_append, List.mem_singleton]
    by_cases e : a = k
    · rw [if_pos e]
      subst e
      constructor
      · rintro (q | q)
        · exact absurd (List.mem_map.mpr ⟨_, q, rfl⟩) h
        · exact (Prod.mk.inj q).2
      · intro q; exact .inr (by rw [q])
    · rw [if_neg e]
      constructor
      · rintro (q | q)
        · exact q
        · exact absurd (Prod.mk.inj q).1 e
      · exact .inl
structure Often (p : List Int) (s : List (Int × Int)) : Prop where
  nd : (keysOf s).Nodup
  mem : ∀ k c : Int, (k, c) ∈ s ↔ k ∈ p ∧ c = ((p.count k : Nat) : Int)
theorem Often.keys {p : List Int} {s : List (Int × Int)} (h : Often p s) (k : Int) : k ∈ keysOf s ↔ k ∈ p := by
  constructor
  · intro q
    obtain ⟨⟨a, b⟩, hx, e⟩ := List.mem_map.mp q
    have e : a = k := e
    subst e
    exact ((h.mem _ _).mp hx).1
  · intro q
    exact List.mem_map.mpr ⟨(k, _), (h.mem k _).mpr ⟨q, rfl⟩, rfl⟩
theorem Often.len {p : List Int} {s : List (Int × Int)} (h : Often p s) : s.length ≤ p.length := by
  have := List.Nodup.length_le_of_subset h.nd (l₂ := p) fun k hk => (h.keys k).mp hk
  simpa [keysOf] using this
theorem Often.step {p : List Int} {s : List (Int × Int)} (h : Often p s) (x : Int) : Often (p ++ [x]) (dput s x ((dget s x).getD 0 + 1)) := by
  have hg : (dget s x).getD 0 = ((p.count x : Nat) : Int) := by
    by_cases q : x ∈ p
    · rw [(dget_mem h.nd).mpr ((h.mem x _).mpr ⟨q, rfl⟩)]; rfl
    · rw [dget_none fun z => q ((h.keys x).mp z), List.count_eq_zero_of_not_mem q]; rfl
  refine ⟨?_, fun k c => ?_⟩
  · rw [dput_keys]
    split
    · exact h.nd
    · rename_i q
      rw [List.nodup_append]
      exact ⟨h.nd, List.nodup_cons.mpr ⟨List.not_mem_nil, .nil⟩, fun a ha b hb => by
        rw [List.mem_singleton.mp hb]
        exact fun e => q (e ▸ ha)⟩
  · rw [dput_mem h.nd, hg, List.mem_append, List.mem_singleton, List.count_append]
    by_cases e : k = x
    · subst e
      rw [if_pos rfl]
      simp only [or_true, true_and, List.count_singleton_self]
      omega
    · rw [if_neg e, h.mem]
      have : List.count k [x] = 0 := List.count_eq_zero_of_not_mem (by simp [e])
      rw [this]
      simp [e]
theorem often_fold {f : List (Int × Int) → Int → Option (List (Int × Int))} (hf : ∀ s x, s.length < 16777216 → f s x = some (dput s x ((dget s x).getD 0 + 1))) : ∀ (p q : List Int) (s : List (Int × Int)), Often q s → q.length + p.length < 16777216 → ∃ r, forO f p s = some r ∧ Often (q ++ p) r
  | [], q, s, h, _ => ⟨s, rfl, by rw [List.append_nil]; exact h⟩
  | x :: p, q, s, h, hl => by
    rw [List.length_cons] at hl
    obtain ⟨r, e, hr⟩ := often_fold hf p (q ++ [x]) _ (h.step x) (by simp; omega)
    refine ⟨r, ?_, by rw [List.append_assoc] at hr; exact hr⟩
    unfold forO
    rw [hf s x (by have := h.len; omega), Option.bind_some, e]
theorem often_nil : Often [] [] := ⟨.nil, fun k c => by simp⟩
structure IsSz (p : List Int) (t : List (Int × Int)) : Prop where
  dn : t.Pairwise (fun a b => b.1 < a.1)
  mem : ∀ k c : Int, (k, c) ∈ t ↔ k ∈ p ∧ c = ((p.count k : Nat) : Int)
theorem IsSz.uniq {p : List Int} {t u : List (Int × Int)} (h : IsSz p t) (h' : IsSz p u) : t = u :=
  uniq_str (fun a b q q' => by omega) h.dn h'.dn fun z => by rw [h.mem z.1 z.2, h'.mem z.1 z.2]
theorem leP_sort (s : List (Int × Int)) : (sortPI s).Pairwise (fun a b => a.1 < b.1 ∨ (a.1 = b.1 ∧ a.2 ≤ b.2)) := by
  have := List.pairwise_mergeSort (le := leP) (fun a b c h1 h2 => by simp [leP] at *; omega) (fun a b => by simp [leP]; omega) s
  exact this.imp fun h => by simpa [leP] using h
theorem Often.sz {p : List Int} {s : List (Int × Int)} (h : Often p s) : IsSz p (sortPI s).reverse := by
  have pm : (sortPI s).Perm s := List.mergeSort_perm _ _
  refine ⟨?_, fun k c => by rw [List.mem_reverse, pm.mem_iff, h.mem]⟩
  rw [List.pairwise_reverse]
  have nd : ((sortPI s).map (fun x : Int × Int => x.1)).Nodup := (pm.map (fun x : Int × Int => x.1)).nodup_iff.mpr h.nd
  have nd' : (sortPI s).Pairwise (fun a b => a.1 ≠ b.1) := List.pairwise_map.mp nd
  exact List.Pairwise.imp (fun ⟨a, b⟩ => by omega) ((leP_sort s).and nd')
def unf (L : List Int) (c : Int → Nat) : List Int := L.flatMap fun k => List.replicate (c k) k
theorem mem_unf {L : List Int} {c : Int → Nat} {x : Int} (h : x ∈ unf L c) : x ∈ L := by
  obtain ⟨k, hk, hx⟩ := List.mem_flatMap.mp h
  rw [mem_rep' hx]; exact hk
where mem_rep' {n : Nat} {x y : Int} (h : y ∈ List.replicate n x) : y = x := (List.mem_replicate.mp h).2
theorem count_unf {c : Int → Nat} (a : Int) : ∀ {L : List Int}, L.Nodup → (unf L c).count a = if a ∈ L then c a else 0
  | [], _ => rfl
  | k :: L, h => by
    have h' := List.nodup_cons.mp h
    have ih := count_unf (c := c) a h'.2
    unfold unf at ih ⊢
    rw [List.flatMap_cons, List.count_append, ih, List.count_replicate]
    by_cases e : k = a
    · subst e
      rw [if_neg h'.1, if_pos (List.mem_cons_self ..)]
      simp
    · have : (a ∈ k :: L) ↔ a ∈ L := by
        rw [List.mem_cons]
        exact ⟨fun q => q.resolve_left fun z => e z.symm, .inr⟩
      simp only [this]
      rw [if_neg (by simpa using e), Nat.zero_add]
theorem unf_desc {c : Int → Nat} : ∀ {L : List Int}, L.Pairwise (fun a b => b < a) → (unf L c).Pairwise (fun a b => b ≤ a)
  | [], _ => .nil
  | k :: L, h => by
    have h' := List.pairwise_cons.mp h
    unfold unf
    rw [List.flatMap_cons, List.pairwise_append]
    refine ⟨?_, unf_desc h'.2, fun a ha b hb => ?_⟩
    · rw [List.pairwise_replicate]; exact .inr (Int.le_refl _)
    · rw [(List.mem_replicate.mp ha).2]
      exact Int.le_of_lt (h'.1 b (mem_unf hb))
theorem unf_eq {p L : List Int} {c : Int → Nat} (hp : p.Pairwise (fun a b => b ≤ a)) (hL : L.Pairwise (fun a b => b < a)) (hm : ∀ x ∈ p, x ∈ L) (hc : ∀ x ∈ L, c x = p.count x) : unf L c = p := by
  have nd : L.Nodup := hL.imp fun h e => by omega
  refine sort_uniq (r := fun a b => b ≤ a) (fun a b h h' => Int.le_antisymm h' h) (unf_desc hL) hp (List.perm_iff_count.mpr fun a => ?_)
  rw [count_unf a nd]
  split
  · rename_i h; exact hc a h
  · rename_i h
    rw [List.count_eq_zero_of_not_mem fun q => h (hm a q)]
theorem flat_fold {f : List Int → Int × Int → Option (List Int)} {n : Nat} (hn : n ≤ 16777216) : ∀ (t : List (Int × Int)) (s : List Int), s.length + (t.flatMap fun k => List.replicate k.2.toNat k.1).length ≤ n → (∀ s x, x ∈ t → s.length + x.2.toNat ≤ n → f s x = some (s ++ List.replicate x.2.toNat x.1)) → forO f t s = some (s ++ t.flatMap fun k => List.replicate k.2.toNat k.1)
  | [], s, _, _ => by simp [forO]
  | x :: t, s, h, hf => by
    rw [List.flatMap_cons, List.length_append, List.length_replicate] at h
    unfold forO
    rw [hf s x (List.mem_cons_self ..) (by omega), Option.bind_some, flat_fold hn t _ (by simp; simp at h; omega) fun s y hy => hf s y (List.mem_cons_of_mem _ hy)]
    rw [List.flatMap_cons, List.append_assoc]
def dng (n : Nat) : List Int := (List.range n).map fun (i : Nat) => (n : Int) + (i : Int) * (-1)
theorem mem_dng {n : Nat} {x : Int} : x ∈ dng n ↔ 1 ≤ x ∧ x ≤ n := by
  unfold dng
  rw [List.mem_map]
  constructor
  · rintro ⟨i, hi, rfl⟩
    have := List.mem_range.mp hi
    omega
  · rintro ⟨h1, h2⟩
    exact ⟨(n - x).toNat, List.mem_range.mpr (by omega), by omega⟩
theorem dng_dn (n : Nat) : (dng n).Pairwise (fun a b => b < a) := by
  unfold dng
  rw [List.pairwise_map]
  exact List.Pairwise.imp (fun h => by omega) (List.pairwise_lt_range (n := n))
end Vi
namespace Vi
open PySem PySem.Spec PyProof.Rows L2
def Rw (s n : Nat) : List (List Int) := match s with
  | 0 => if n = 0 then [[]] else []
  | s + 1 => Rw s n ++ if h : s + 1 ≤ n then (Rw (s + 1) (n - (s + 1))).map (((s + 1 : Nat) : Int) :: ·) else []
termination_by (n, s)
decreasing_by
  · exact Prod.Lex.right _ (by omega)
  · exact Prod.Lex.left _ _ (by omega)
theorem Rw_0 (n : Nat) : Rw 0 n = if n = 0 then [[]] else [] := by rw [Rw]
theorem Rw_ge {s n : Nat} (h : s + 1 ≤ n) : Rw (s + 1) n = Rw s n ++ (Rw (s + 1) (n - (s + 1))).map (((s + 1 : Nat) : Int) :: ·) := by
  rw [Rw, dif_pos h]
theorem Rw_lt {s n : Nat} (h : n < s + 1) : Rw (s + 1) n = Rw s n := by
  rw [Rw, dif_neg (by omega), List.append_nil]
theorem Rw_top {s n : Nat} (h : n ≤ s) : Rw s n = Rw n n := by
  induction s with
  | zero => rw [Nat.le_zero.mp h]
  | succ s ih =>
    by_cases e : n = s + 1
    · rw [e]
    · rw [Rw_lt (by omega), ih (by omega)]
theorem Rw_row : ∀ (n s : Nat), ∀ r ∈ Rw s n, (∀ x ∈ r, 1 ≤ x ∧ x ≤ (s : Int)) ∧ r.length ≤ n ∧ (1 ≤ n → r ≠ []) := by
  intro n
  induction n using Nat.strongRecOn with
  | _ n ihn =>
    intro s
    induction s with
    | zero =>
      intro r hr
      rw [Rw_0] at hr
      split at hr
      · rename_i e
        rw [List.mem_singleton.mp hr]
        exact ⟨fun x hx => (List.not_mem_nil hx).elim, Nat.zero_le _, by omega⟩
      · exact (List.not_mem_nil hr).elim
    | succ s ih =>
      have old : ∀ r ∈ Rw s n, (∀ x ∈ r, 1 ≤ x ∧ x ≤ ((s + 1 : Nat) : Int)) ∧ r.length ≤ n ∧ (1 ≤ n → r ≠ []) := fun r hr => by
        obtain ⟨h1, h2⟩ := ih r hr
        exact ⟨fun x hx => by have := h1 x hx; omega, h2⟩
      intro r hr
      by_cases h : s + 1 ≤ n
      · rw [Rw_ge h, List.mem_append, List.mem_map] at hr
        rcases hr with hr | ⟨q, hq, rfl⟩
        · exact old r hr
        · obtain ⟨h1, h2, _⟩ := ihn (n - (s + 1)) (by omega) (s + 1) q hq
          refine ⟨fun x hx => ?_, by rw [List.length_cons]; omega, fun _ => by simp⟩
          rcases List.mem_cons.mp hx with e | e
          · rw [e]; omega
          · exact h1 x e
      · rw [Rw_lt (by omega)] at hr
        exact old r hr
theorem Rw_up : ∀ (n s : Nat), (Rw s n).Pairwise (fun a b => leR a b = true) := by
  intro n
  induction n using Nat.strongRecOn with
  | _ n ihn =>
    intro s
    induction s with
    | zero =>
      rw [Rw_0]
      split
      · exact List.pairwise_singleton _ _
      · exact .nil
    | succ s ih =>
      by_cases h : s + 1 ≤ n
      · rw [Rw_ge h, List.pairwise_append]
        refine ⟨ih, ?_, fun a ha b hb => ?_⟩
        · rw [List.pairwise_map]
          refine (ihn (n - (s + 1)) (by omega) (s + 1)).imp fun {a b} hab => ?_
          unfold leR at hab ⊢
          have := of_decide_eq_true hab
          exact decide_eq_true (List.cons_le_cons_iff.mpr (.inr ⟨rfl, this⟩))
        · obtain ⟨q, hq, rfl⟩ := List.mem_map.mp hb
          obtain ⟨h1, _, h3⟩ := Rw_row n s a ha
          cases a with
          | nil => exact absurd rfl (h3 (by omega))
          | cons x a =>
            have := h1 x (List.mem_cons_self ..)
            unfold leR
            refine decide_eq_true (List.le_of_lt ?_)
            rw [List.cons_lt_cons_iff]
            exact .inl (by omega)
      · rw [Rw_lt (by omega)]
        exact ih
theorem sort_Rw (n s : Nat) : sortRO (Rw s n) = some (Rw s n) := by
  have e : (Rw s n).mergeSort leR = Rw s n := List.mergeSort_of_pairwise (Rw_up n s)
  unfold sortRO
  rw [e, if_pos]
  by_cases h : n = 0
  · refine .inl ?_
    rw [h]
    have : ∀ s, Rw s 0 = [[]] := fun s => by
      induction s with
      | zero => rw [Rw_0]; rfl
      | succ s ih => rw [Rw_lt (by omega), ih]
    rw [this]; decide
  · refine .inr (List.all_eq_true.mpr fun r hr => ?_)
    have := (Rw_row n s r hr).2.2 (by omega)
    cases r with
    | nil => exact absurd rfl this
    | cons x r => rfl
def ell : Nat → Nat → Nat → Nat
  | 0, _, _ => 0
  | _ + 1, 0, n => if n = 0 then 1 else 0
  | f + 1, s + 1, n => ell f s n + if s + 1 ≤ n then ell f (s + 1) (n - (s + 1)) else 0
theorem Rw_len : ∀ (f s n : Nat), s + n < f → (Rw s n).length = ell f s n
  | 0, _, _, h => by omega
  | f + 1, 0, n, h => by
    rw [Rw_0, ell]
    split <;> rfl
  | f + 1, s + 1, n, h => by
    rw [ell]
    by_cases q : s + 1 ≤ n
    · rw [Rw_ge q, List.length_append, List.length_map, if_pos q, Rw_len f s n (by omega), Rw_len f (s + 1) (n - (s + 1)) (by omega)]
    · rw [Rw_lt (by omega), if_neg q, Rw_len f s n (by omega), Nat.add_zero]
theorem Rw_mono {s t n : Nat} (h : s ≤ t) : (Rw s n).length ≤ (Rw t n).length := by
  induction t with
  | zero => rw [Nat.le_zero.mp h]; exact Nat.le_refl _
  | succ t ih =>
    by_cases e : s = t + 1
    · rw [e]; exact Nat.le_refl _
    · refine Nat.le_trans (ih (by omega)) ?_
      by_cases q : t + 1 ≤ n
      · rw [Rw_ge q, List.length_append]; omega
      · rw [Rw_lt (by omega)]; exact Nat.le_refl _
theorem ell_all : ∀ n, n < 31 → ell 62 30 n ≤ 6000 := by decide +kernel
theorem Rw_few {s n : Nat} (hs : s ≤ 30) (hn : n ≤ 30) : (Rw s n).length ≤ 6000 := by
  refine Nat.le_trans (Rw_mono hs) ?_
  rw [Rw_len 62 30 n (by omega)]
  exact ell_all n (by omega)
end Vi
namespace Vi
section
variable {A B : Nat → Int → Nat} {p : Nat → Int → Nat} {w : List Nat}
end
def FitL (p q : List Int) : Prop := ∀ a, q.count a ≤ p.count a
theorem count_eraseI (p : List Int) (x a : Int) : (p.erase x).count a = p.count a - if x = a then 1 else 0 := by
  rw [List.count_erase]
  by_cases e : a = x
  · subst e; simp
  · have e' : ¬ x = a := fun z => e z.symm
    simp [e, e']
def remL (p q : List Int) : List Int := q.foldl (fun l x => l.erase x) p
theorem count_rem : ∀ (q p : List Int) (a : Int), (remL p q).count a = p.count a - q.count a
  | [], p, a => rfl
  | x :: q, p, a => by
    show (remL (p.erase x) q).count a = _
    rw [count_rem q (p.erase x) a, count_eraseI, List.count_cons]
    by_cases e : x = a <;> simp [e]
    omega
def falL (p : List Int) : List Int := (sortI false p).reverse
theorem fal_perm (p : List Int) : (falL p).Perm p := (List.reverse_perm _).trans (sortI_perm false p)
theorem fal_down (p : List Int) : (falL p).Pairwise (fun a b => b ≤ a) := by
  unfold falL
  rw [List.pairwise_reverse]
  exact sortI_up p
def exch (p b a : List Int) : List Int := falL (remL p b ++ a)
theorem exch_count {p b a : List Int} (h : FitL p b) (s : Int) : (exch p b a).count s + b.count s = p.count s + a.count s := by
  unfold exch
  rw [(fal_perm _).count_eq, List.count_append, count_rem]
  have := h s
  omega
def Prt : Nat → Nat → List (List Int)
  | 0, n => [List.replicate n 1]
  | k + 1, n => (List.range (n / (k + 2) + 1)).flatMap fun c => (Prt k (n - c * (k + 2))).map (List.replicate c ((k + 2 : Nat) : Int) ++ ·)
theorem split_top {K : Int} : ∀ {p : List Int}, p.Pairwise (fun a b => b ≤ a) → (∀ x ∈ p, x ≤ K) → p = List.replicate (p.count K) K ++ p.filter (fun x => decide (x ≠ K))
  | [], _, _ => rfl
  | x :: p, hp, hk => by
    have ih := split_top (List.pairwise_cons.mp hp).2 fun y hy => hk y (List.mem_cons_of_mem _ hy)
    by_cases e : x = K
    · subst e
      rw [List.count_cons_self, List.replicate_succ, List.filter_cons_of_neg (by simp), List.cons_append, ← ih]
    · have lt : x < K := by have := hk x (List.mem_cons_self ..); omega
      have z : (x :: p).count K = 0 := List.count_eq_zero_of_not_mem fun hm => by
        rcases List.mem_cons.mp hm with q | q
        · omega
        · have := (List.pairwise_cons.mp hp).1 K q; omega
      rw [z, List.replicate_zero, List.nil_append]
      symm
      rw [List.filter_eq_self]
      intro y hy
      simp only [decide_eq_true_eq]
      intro ey
      subst ey
      exact absurd (List.count_pos_iff.mpr hy) (by omega)
theorem sum_rep (n : Nat) (x : Int) : (List.replicate n x).sum = (n : Int) * x := by
  induction n with
  | zero => simp
  | succ n ih => rw [List.replicate_succ, List.sum_cons, ih, show ((n + 1 : Nat) : Int) = (n : Int) + 1 by omega, Int.add_mul, Int.one_mul]; omega
theorem sum_nonneg {p : List Int} (h : ∀ x ∈ p, 1 ≤ x) : 0 ≤ p.sum := by
  induction p with
  | nil => simp
  | cons x p ih =>
    have h1 := h x (List.mem_cons_self ..)
    have h2 := ih fun y hy => h y (List.mem_cons_of_mem _ hy)
    rw [List.sum_cons]
    omega
theorem Prt_mem : ∀ (k n : Nat) (p : List Int), p.Pairwise (fun a b => b ≤ a) → (∀ x ∈ p, 1 ≤ x ∧ x ≤ ((k + 1 : Nat) : Int)) → p.sum = (n : Int) → p ∈ Prt k n
  | 0, n, p, _, hk, hs => by
    have e : p = List.replicate p.length 1 := List.eq_replicate_of_mem fun x hx => by have := hk x hx; omega
    have e2 : p.sum = (p.length : Int) := by
      have := sum_rep p.length 1
      rw [← e] at this
      omega
    have : p.length = n := by omega
    unfold Prt
    rw [List.mem_singleton, ← this]
    exact e
  | k + 1, n, p, hp, hk, hs => by
    have sp := split_top hp (K := ((k + 2 : Nat) : Int)) fun x hx => (hk x hx).2
    generalize hc : p.count ((k + 2 : Nat) : Int) = c at sp
    generalize hq : p.filter (fun x => decide (x ≠ ((k + 2 : Nat) : Int))) = q at sp
    have hqm : ∀ x ∈ q, 1 ≤ x ∧ x ≤ ((k + 1 : Nat) : Int) := by
      intro x hx
      rw [← hq] at hx
      obtain ⟨h1, h2⟩ := List.mem_filter.mp hx
      have := hk x h1
      simp only [decide_eq_true_eq] at h2
      omega
    have hqp : q.Pairwise (fun a b => b ≤ a) := by rw [← hq]; exact hp.filter _
    have e1 : p.sum = (c : Int) * ((k + 2 : Nat) : Int) + q.sum := by
      rw [sp, List.sum_append, sum_rep]
    have q0 := sum_nonneg fun x hx => (hqm x hx).1
    have e2 : ((c * (k + 2) : Nat) : Int) = (c : Int) * ((k + 2 : Nat) : Int) := by rw [Int.natCast_mul]
    have hle : c * (k + 2) ≤ n := by omega
    have ih := Prt_mem k (n - c * (k + 2)) q hqp hqm (by omega)
    unfold Prt
    rw [List.mem_flatMap]
    refine ⟨c, ?_, ?_⟩
    · rw [List.mem_range]
      have := (Nat.le_div_iff_mul_le (show 0 < k + 2 by omega)).mpr hle
      omega
    · rw [List.mem_map]
      exact ⟨q, ih, sp.symm⟩
def cntP : Nat → Nat → Nat
  | 0, _ => 1
  | k + 1, n => ((List.range (n / (k + 2) + 1)).map fun c => cntP k (n - c * (k + 2))).sum
theorem Prt_len : ∀ (k n : Nat), (Prt k n).length = cntP k n
  | 0, n => rfl
  | k + 1, n => by
    unfold Prt cntP
    rw [List.length_flatMap]
    congr 1
    apply List.map_congr_left
    intro c _
    rw [List.length_map, Prt_len k]
theorem nodup_len {α : Type} [DecidableEq α] : ∀ {l L : List α}, l.Nodup → (∀ x ∈ l, x ∈ L) → l.length ≤ L.length
  | [], L, _, _ => Nat.zero_le _
  | x :: l, L, h, hs => by
    have hx := hs x (List.mem_cons_self ..)
    have h1 := List.nodup_cons.mp h
    have := nodup_len (L := L.erase x) h1.2 fun y hy => (List.mem_erase_of_ne (fun e => h1.1 (by rw [← e]; exact hy))).mpr (hs y (List.mem_cons_of_mem _ hy))
    rw [List.length_erase_of_mem hx] at this
    have := List.length_pos_of_mem hx
    rw [List.length_cons]
    omega
end Vi
namespace Vi
noncomputable instance (p q : List Int) : Decidable (FitL p q) := Classical.propDecidable _
def PtN (n : Nat) (p : List Int) : Prop := p.Pairwise (fun a b => b ≤ a) ∧ (∀ x ∈ p, 1 ≤ x) ∧ p.sum = (n : Int)
structure Paired (ones others : List (List Int)) : Prop where
  dA : ∀ i j s, s ∈ ones.getD i [] → s ∈ ones.getD j [] → i = j
  dB : ∀ i j s, s ∈ others.getD i [] → s ∈ others.getD j [] → i = j
  sum : ∀ i, (ones.getD i []).sum = (others.getD i []).sum
  pos : ∀ i x, x ∈ ones.getD i [] → 1 ≤ x
theorem mem_le_sum {p : List Int} (h : ∀ x ∈ p, 1 ≤ x) : ∀ x ∈ p, x ≤ p.sum := by
  induction p with
  | nil => exact fun x hx => by cases hx
  | cons y p ih =>
    have h1 := h y (List.mem_cons_self ..)
    have h2 := sum_nonneg fun z hz => h z (List.mem_cons_of_mem _ hz)
    intro x hx
    rw [List.sum_cons]
    rcases List.mem_cons.mp hx with e | e
    · omega
    · have := ih (fun z hz => h z (List.mem_cons_of_mem _ hz)) x e; omega
end Vi
namespace Vi
theorem exch_eq {p b a q d c : List Int} (h : ∀ s, (exch p b a).count s = (exch q d c).count s) : exch p b a = exch q d c :=
  sort_uniq (r := fun a b => b ≤ a) (fun a b h h' => Int.le_antisymm h' h) (fal_down _) (fal_down _) (List.perm_iff_count.mpr h)
theorem exch_keep {p b a c : List Int} (hb : FitL p b) (hc : FitL p c) (hd : ∀ s, s ∈ b → s ∉ c) : FitL (exch p b a) c := fun s => by
  have e := exch_count (a := a) hb s
  by_cases q : s ∈ c
  · have z : b.count s = 0 := List.count_eq_zero_of_not_mem fun h => hd s h q
    have := hc s
    omega
  · rw [List.count_eq_zero_of_not_mem q]; exact Nat.zero_le _
theorem exch_comm {p b a d c : List Int} (hb : FitL p b) (hd : FitL p d) (dj : ∀ s, s ∈ b → s ∉ d) : exch (exch p b a) d c = exch (exch p d c) b a := by
  refine exch_eq fun s => ?_
  have e1 := exch_count (a := a) hb s
  have e2 := exch_count (a := c) hd s
  have e3 := exch_count (a := c) (exch_keep (a := a) hb hd dj) s
  have e4 := exch_count (a := a) (exch_keep (a := c) hd hb fun s h h' => dj s h' h) s
  omega
section
variable {ones others : List (List Int)}
def Run (ones others : List (List Int)) : List Nat → List Int → List Int → Prop
  | [], p, q => p = q
  | i :: w, p, q => i < others.length ∧ FitL p (others.getD i []) ∧ Run ones others w (exch p (others.getD i []) (ones.getD i [])) q
theorem Run.first (dB : ∀ i j s, s ∈ others.getD i [] → s ∈ others.getD j [] → i = j) : ∀ {w : List Nat} {x z : List Int}, Run ones others w x z → (∀ j, j < others.length → ¬ FitL z (others.getD j [])) → ∀ i, i < others.length → FitL x (others.getD i []) →
    i ∈ w ∧ Run ones others (w.erase i) (exch x (others.getD i []) (ones.getD i [])) z
  | [], x, z, h, hz, i, hi, hf => by
    have : x = z := h
    subst this
    exact (hz i hi hf).elim
  | j :: w, x, z, h, hz, i, hi, hf => by
    obtain ⟨h1, h2, h3⟩ := h
    by_cases e : j = i
    · subst e
      rw [List.erase_cons_head]
      exact ⟨List.mem_cons_self .., h3⟩
    · have dj : ∀ s, s ∈ others.getD j [] → s ∉ others.getD i [] := fun s q q' => e (dB j i s q q')
      obtain ⟨g1, g2⟩ := Run.first dB h3 hz i hi (exch_keep h2 hf dj)
      rw [List.erase_cons_tail (by simpa using e)]
      refine ⟨List.mem_cons_of_mem _ g1, h1, exch_keep hf h2 fun s q q' => dj s q' q, ?_⟩
      rw [exch_comm hf h2 fun s q q' => dj s q' q]
      exact g2
theorem Run.uniq (dB : ∀ i j s, s ∈ others.getD i [] → s ∈ others.getD j [] → i = j) : ∀ {v w : List Nat} {x y z : List Int}, Run ones others w x z → (∀ j, j < others.length → ¬ FitL z (others.getD j [])) →
    Run ones others v x y → (∀ j, j < others.length → ¬ FitL y (others.getD j [])) → z = y ∧ w.Perm v
  | [], w, x, y, z, hw, hz, hv, hy => by
    have : x = y := hv
    subst this
    cases w with
    | nil => exact ⟨(show x = z from hw).symm, List.Perm.refl _⟩
    | cons i w => exact (hy i hw.1 hw.2.1).elim
  | i :: v, w, x, y, z, hw, hz, hv, hy => by
    obtain ⟨g1, g2⟩ := Run.first dB hw hz i hv.1 hv.2.1
    obtain ⟨e, pm⟩ := Run.uniq dB g2 hz hv.2.2 hy
    exact ⟨e, (List.perm_cons_erase g1).trans (pm.cons i)⟩
end
end Vi
namespace Vi
structure AllP (n : Nat) (L : List (List Int)) : Prop where
  nd : L.Nodup
  mem : ∀ p, p ∈ L ↔ PtN n p
theorem nodup_mapI {α β : Type} {f : α → β} {L : List α} (h : L.Nodup) (inj : ∀ a ∈ L, ∀ b ∈ L, f a = f b → a = b) : (L.map f).Nodup := by
  unfold List.Nodup
  rw [List.pairwise_map]
  exact List.Pairwise.imp_of_mem (fun ha hb hab e => hab (inj _ ha _ hb e)) h
theorem ptn_0 {p : List Int} (h : PtN 0 p) : p = [] := by
  cases p with
  | nil => rfl
  | cons x p =>
    have h1 := h.2.1 x (List.mem_cons_self ..)
    have h2 := sum_nonneg fun y hy => h.2.1 y (List.mem_cons_of_mem _ hy)
    have := h.2.2
    rw [List.sum_cons] at this
    omega
theorem nil_ptn : PtN 0 [] := ⟨.nil, fun x hx => (by cases hx), rfl⟩
theorem cnt_upto : ∀ n, n ≤ 30 → cntP 29 n ≤ 6000 := by decide +kernel
theorem AllP.few {n : Nat} {L : List (List Int)} (nd : L.Nodup) (h : ∀ p ∈ L, PtN n p) (hn : n ≤ 30) : L.length ≤ 6000 := by
  have : L.length ≤ (Prt 29 n).length := nodup_len nd fun p hp => by
    have p1 := h p hp
    refine Prt_mem 29 n p p1.1 (fun x hx => ⟨p1.2.1 x hx, ?_⟩) p1.2.2
    have := mem_le_sum p1.2.1 x hx
    have := p1.2.2
    omega
  rw [Prt_len] at this
  have := cnt_upto n hn
  omega
end Vi
namespace TA
open PySem PySem.Spec PyProof.Rows L2 Vi
def upI (q : List Nat) : List Int := q.map fun (n : Nat) => (n : Int)
theorem tl_up (K : Kd) : ∀ (f r : Nat) (last : Option Nat) (used room : Nat), (tl K f r last used room).Pairwise (fun a b => upI a < upI b)
  | 0, r, last, used, room => by
    unfold tl
    split
    · exact List.pairwise_singleton _ _
    · exact .nil
  | f + 1, r, last, used, room => by
    rw [tl_S]
    split
    · exact List.pairwise_singleton _ _
    split
    · exact .nil
    rw [List.pairwise_flatMap]
    refine ⟨fun p hp => ?_, (parts_up K r _).imp fun {a b} hab => ?_⟩
    · rw [List.pairwise_map]
      refine (tl_up K f (r - p) (some p) _ _).imp fun {a b} h => ?_
      show (p : Int) :: upI a < (p : Int) :: upI b
      exact List.cons_lt_cons_iff.mpr (.inr ⟨rfl, h⟩)
    · intro x hx y hy
      obtain ⟨x', _, rfl⟩ := List.mem_map.mp hx
      obtain ⟨y', _, rfl⟩ := List.mem_map.mp hy
      show (a : Int) :: upI x' < (b : Int) :: upI y'
      exact List.cons_lt_cons_iff.mpr (.inl (by omega))
theorem toNat_up {p : List Int} (h : ∀ x ∈ p, 1 ≤ x) : upI (p.map Int.toNat) = p := by
  unfold upI
  rw [List.map_map]
  conv => rhs; rw [← List.map_id p]
  refine List.map_congr_left fun x hx => ?_
  have := h x hx
  show ((x.toNat : Nat) : Int) = x
  omega
theorem upI_sum (q : List Nat) : (upI q).sum = ((q.sum : Nat) : Int) := by
  induction q with
  | nil => rfl
  | cons x q ih => show (x : Int) + (upI q).sum = _; rw [ih, List.sum_cons]; omega
theorem ptn_iff {n : Nat} {q : List Nat} : PtN n (upI q) ↔ PtN' q ∧ q.sum = n := by
  unfold PtN PtN' upI
  rw [List.pairwise_map]
  have s := upI_sum q
  unfold upI at s
  constructor
  · rintro ⟨h1, h2, h3⟩
    exact ⟨⟨fun x hx => by have := h2 (x : Int) (List.mem_map.mpr ⟨x, hx, rfl⟩); omega, h1.imp fun h => by omega⟩, by omega⟩
  · rintro ⟨⟨h1, h2⟩, h3⟩
    refine ⟨h2.imp fun h => by omega, fun x hx => ?_, by omega⟩
    obtain ⟨y, hy, rfl⟩ := List.mem_map.mp hx
    have := h1 y hy
    omega
theorem list_of {K : Kd} (hK : K.ok) {n : Nat} {L : List (List Int)} (h : AllP n L) (hu : L.Pairwise (fun a b => leR a b = true)) : L.filter (fun p => kof K (p.map Int.toNat)) = (tl K n n none 0 (rm0 K n)).map upI := by
  have su : L.Pairwise (fun a b => a < b) := by
    refine (hu.and h.nd).imp fun {a b} hab => ?_
    have h1 : a ≤ b := of_decide_eq_true hab.1
    rcases List.le_iff_lt_or_eq.mp h1 with q | q
    · exact q
    · exact absurd q hab.2
  refine uniq_str (r := fun a b => a < b) (fun a b h h' => List.lt_asymm h h') (su.filter _) (by rw [List.pairwise_map]; exact tl_up K n n none 0 _) fun z => ?_
  rw [List.mem_filter, h.mem, List.mem_map]
  constructor
  · rintro ⟨h1, h2⟩
    have e := toNat_up h1.2.1
    refine ⟨z.map Int.toNat, ?_, e⟩
    rw [← e] at h1
    obtain ⟨p1, p2⟩ := ptn_iff.mp h1
    exact (tl_iff K n n none 0 _ _ (Nat.le_refl _)).mpr ⟨(okp_kof hK).mpr ⟨p1, h2⟩, p2⟩
  · rintro ⟨q, hq, rfl⟩
    obtain ⟨o1, o2⟩ := (tl_iff K n n none 0 _ _ (Nat.le_refl _)).mp hq
    obtain ⟨p1, p2⟩ := (okp_kof hK).mp o1
    refine ⟨ptn_iff.mpr ⟨p1, o2⟩, ?_⟩
    have : (upI q).map Int.toNat = q := by simp [upI, Function.comp_def]
    rw [this]
    exact p2
def tb (N : Nat) (g : Nat → List (List Int)) : List (List (List Int)) := (List.range (N + 1)).map g
theorem tb_len (N : Nat) (g : Nat → List (List Int)) : (tb N g).length = N + 1 := by simp [tb]
theorem tb_get {N j : Nat} {g : Nat → List (List Int)} (h : j ≤ N) : atI (tb N g) (j : Int) = some (g j) := by
  refine atI_nn ?_
  unfold tb
  rw [List.getElem?_map, List.getElem?_range (by omega)]; rfl
theorem tb_ext {N : Nat} {g h : Nat → List (List Int)} (e : ∀ j, j ≤ N → g j = h j) : tb N g = tb N h :=
  List.map_congr_left fun j hj => e j (by have := List.mem_range.mp hj; omega)
theorem tb_set {N k : Nat} {g : Nat → List (List Int)} {v : List (List Int)} (h : k ≤ N) : stO (tb N g) (k : Int) v = some (tb N fun j => if j = k then v else g j) := by
  unfold stO
  rw [ixN_nn (by omega) (by rw [tb_len]; omega)]
  show some ((tb N g).set k v) = _
  congr 1
  unfold tb
  apply List.ext_getElem?
  intro j
  rw [List.getElem?_set, List.getElem?_map, List.getElem?_map, List.length_map, List.length_range]
  by_cases e : k = j
  · subst e
    rw [if_pos rfl, if_pos (by omega), List.getElem?_range (by omega)]
    simp
  · rw [if_neg e]
    by_cases q : j < N + 1
    · rw [List.getElem?_range q]
      simp [Ne.symm e]
    · rw [List.getElem?_eq_none (by simp; omega)]; rfl
def mid (s k j : Nat) : List (List Int) := if j < k then Rw (s + 1) j else Rw s j
theorem mid_0 (s j : Nat) : mid s (s + 1) j = Rw s j := by
  unfold mid
  split
  · exact Rw_lt (by omega)
  · rfl
theorem inner_ok {N s : Nat} {f : List (List (List Int)) → Int → Option (List (List (List Int)))} (hs : s + 1 ≤ N) (step : ∀ k : Nat, s + 1 ≤ k → k ≤ N → f (tb N (mid s k)) (k : Int) = some (tb N (mid s (k + 1)))) :
    forO f (irg (1 + (s : Int)) (N - s)) (tb N (Rw s)) = some (tb N (Rw (s + 1))) := by
  refine wp_get (wp_for0 (fun i L => L = tb N (mid s (s + 1 + i))) ?_ (fun i x L hx hL => ?_) fun L hL => ?_)
  · exact tb_ext fun j _ => (mid_0 s j).symm
  · obtain ⟨hi, rfl⟩ := irg_get hx
    subst hL
    have e : (1 + (s : Int)) + (i : Int) = ((s + 1 + i : Nat) : Int) := by omega
    rw [e]
    exact wp_eq (step (s + 1 + i) (by omega) (by omega)) rfl
  · rw [hL, irg_len]
    refine tb_ext fun j hj => ?_
    unfold mid
    rw [if_pos (by omega)]
section
variable {N s k : Nat} {z : Int}
theorem mid_row (h1 : s + 1 ≤ k) (h2 : k ≤ N) (hz : z = 1 + (s : Int)) : atI (tb N (mid s k)) ((k : Int) - z) = some (Rw (s + 1) (k - (s + 1))) := by
  have e : (k : Int) - z = ((k - (s + 1) : Nat) : Int) := by omega
  rw [e, tb_get (by omega)]
  unfold mid
  rw [if_pos (by omega)]
theorem mid_old (h2 : k ≤ N) : atI (tb N (mid s k)) (k : Int) = some (Rw s k) := by
  rw [tb_get h2]
  unfold mid
  rw [if_neg (by omega)]
theorem mid_new (h1 : s + 1 ≤ k) (h2 : k ≤ N) : stO (tb N (mid s k)) (k : Int) (Rw s k ++ (Rw (s + 1) (k - (s + 1))).map (((s + 1 : Nat) : Int) :: ·)) = some (tb N (mid s (k + 1))) := by
  rw [tb_set h2, ← Rw_ge h1]
  congr 1
  refine tb_ext fun j hj => ?_
  unfold mid
  by_cases e : j = k
  · subst e
    rw [if_pos rfl, if_pos (by omega)]
  · rw [if_neg e]
    by_cases q : j < k
    · rw [if_pos q, if_pos (by omega)]
    · rw [if_neg q, if_neg (by omega)]
theorem mid_comp (hN : N ≤ 30) (h1 : s + 1 ≤ k) (h2 : k ≤ N) (hz : z = 1 + (s : Int)) : compM (Rw (s + 1) (k - (s + 1))) (fun (x : List Int) => catO [z] x) = some ((Rw (s + 1) (k - (s + 1))).map (((s + 1 : Nat) : Int) :: ·)) := by
  have e : z = ((s + 1 : Nat) : Int) := by omega
  subst e
  refine compM_ok ?_ fun r hr => ?_
  · have := Rw_few (s := s + 1) (n := k - (s + 1)) (by omega) (by omega)
    omega
  · obtain ⟨_, h, _⟩ := Rw_row _ _ r hr
    exact catO_ok (by simp; omega)
theorem mid_cat (hN : N ≤ 30) (h1 : s + 1 ≤ k) (h2 : k ≤ N) : (Rw s k).length + ((Rw (s + 1) (k - (s + 1))).map (((s + 1 : Nat) : Int) :: ·)).length ≤ 16777216 := by
  have := Rw_few (s := s + 1) (n := k) (by omega) (by omega)
  rw [Rw_ge h1, List.length_append] at this
  omega
end
theorem tb_0 (N : Nat) : [[[]]] ++ (irg 0 N).map (fun _ => ([] : List (List Int))) = tb N (Rw 0) := by
  unfold tb irg
  rw [List.range_succ_eq_map, List.map_cons, List.map_map, List.map_map, Rw_0, if_pos rfl]
  show [[]] :: _ = _
  congr 1
  refine List.map_congr_left fun j _ => ?_
  show _ = Rw 0 (j + 1)
  rw [Rw_0, if_neg (by omega)]; rfl
theorem part_le {k : Nat} {p : List Int} (h : PtN k p) {x : Int} (hx : x ∈ p) : 1 ≤ x ∧ x ≤ (k : Int) := by
  have := mem_le_sum h.2.1 x hx
  have := h.2.2
  exact ⟨h.2.1 x hx, by omega⟩
theorem Rw_all : ∀ (n s : Nat), (Rw s n).Nodup ∧ ∀ p, p ∈ Rw s n ↔ PtN n p ∧ ∀ x ∈ p, x ≤ (s : Int) := by
  intro n
  induction n using Nat.strongRecOn with
  | _ n ihn =>
    intro s
    induction s with
    | zero =>
      rw [Rw_0]
      split
      · rename_i e
        subst e
        refine ⟨by simp, fun p => ?_⟩
        rw [List.mem_singleton]
        exact ⟨fun h => h ▸ ⟨nil_ptn, fun x hx => (by cases hx)⟩, fun h => ptn_0 h.1⟩
      · rename_i e
        refine ⟨List.nodup_nil, fun p => ⟨fun h => (List.not_mem_nil h).elim, fun ⟨h1, h2⟩ => ?_⟩⟩
        cases p with
        | nil => have := h1.2.2; simp at this; omega
        | cons a q =>
          have := h1.2.1 a (List.mem_cons_self ..)
          have := h2 a (List.mem_cons_self ..)
          omega
    | succ s ih =>
      obtain ⟨i1, i2⟩ := ih
      by_cases h : s + 1 ≤ n
      · rw [Rw_ge h]
        obtain ⟨j1, j2⟩ := ihn (n - (s + 1)) (by omega) (s + 1)
        refine ⟨List.nodup_append.mpr ⟨i1, nodup_mapI j1 fun a _ b _ e => (List.cons.inj e).2, fun a ha b hb e => ?_⟩, fun p => ?_⟩
        · obtain ⟨q, _, rfl⟩ := List.mem_map.mp hb
          have := ((i2 a).mp ha).2 (((s + 1 : Nat) : Int)) (by rw [e]; exact List.mem_cons_self ..)
          omega
        · rw [List.mem_append, i2, List.mem_map]
          constructor
          · rintro (⟨h1, h2⟩ | ⟨q, hq, rfl⟩)
            · exact ⟨h1, fun x hx => by have := h2 x hx; omega⟩
            · obtain ⟨q1, q2⟩ := (j2 q).mp hq
              refine ⟨⟨List.pairwise_cons.mpr ⟨fun b hb => q2 b hb, q1.1⟩, fun x hx => ?_, ?_⟩, fun x hx => ?_⟩
              · rcases List.mem_cons.mp hx with e | e
                · omega
                · exact q1.2.1 x e
              · rw [List.sum_cons, q1.2.2]; omega
              · rcases List.mem_cons.mp hx with e | e
                · omega
                · exact q2 x e
          · rintro ⟨h1, h2⟩
            cases p with
            | nil => have := h1.2.2; simp at this; omega
            | cons a q =>
              have p1 := List.pairwise_cons.mp h1.1
              by_cases e : a = ((s + 1 : Nat) : Int)
              · subst e
                refine .inr ⟨q, (j2 q).mpr ⟨⟨p1.2, fun y hy => h1.2.1 y (List.mem_cons_of_mem _ hy), ?_⟩, fun y hy => p1.1 y hy⟩, rfl⟩
                have := h1.2.2
                rw [List.sum_cons] at this
                omega
              · refine .inl ⟨h1, fun x hx => ?_⟩
                have ha := h2 a (List.mem_cons_self ..)
                rcases List.mem_cons.mp hx with q | q
                · omega
                · have := p1.1 x q
                  omega
      · rw [Rw_lt (by omega)]
        refine ⟨i1, fun p => ?_⟩
        rw [i2]
        constructor
        · exact fun ⟨h1, h2⟩ => ⟨h1, fun x hx => by have := h2 x hx; omega⟩
        · exact fun ⟨h1, h2⟩ => ⟨h1, fun x hx => by have := (part_le h1 hx).2; omega⟩
theorem Rw_allP (n : Nat) : AllP n (Rw n n) := ⟨(Rw_all n n).1, fun p => by
  rw [(Rw_all n n).2]
  exact ⟨fun h => h.1, fun h => ⟨h, fun x hx => (part_le h hx).2⟩⟩⟩
end TA
namespace Lk06
open PySem PySem.Spec PyProof.Rows L2 Vi
def pis_whole (thing1 : Int) : Option (Bool) :=
  some (true && (!false))
theorem tis_whole (thing1 : Int) : FnT fis_whole [.v (D.int thing1)] (pis_whole thing1) (fun (r : Bool) => Out.rt (D.bl r) []) :=
  fn_exit' rfl (fun _ => .inl ⟨_, _, rfl⟩) (Γ0 := [some (.v (D.int thing1))])
  (sim_last (sim_ret (andV_p (isi_p (ep_var rfl) (by rfl)) (notV_p (isi_p (ep_var rfl) (by rfl)))) (by rfl) fins_nil))
def pis_parting (thing1 : (List Int)) : Option (Bool) :=
  (if (!true) = true then some true else ((compM thing1 (fun (x2 : Int) => ((pis_whole x2).map fun r3 => (r3 && (decide ((0 : Int) < x2)))))).map fun r5 => (!(r5.all id)))).bind fun k6 => if k6 = true then some false else (compA (thing1.zip (cutI thing1 (some (1 : Int)) none)) (fun (x8 : (Int × Int)) => (decide (x8.2 ≤ x8.1)))).bind fun r9 => some (r9.all id)
theorem tis_parting (thing1 : (List Int)) : FnT fis_parting [.v ((eT D.int) thing1)] (pis_parting thing1) (fun (r : Bool) => Out.rt (D.bl r) []) :=
  fn_exit' rfl (fun _ => .inl ⟨_, _, rfl⟩) (Γ0 := [some (.v ((eT D.int) thing1)), none, none, none])
  (sim_ifM (or_g (f := fun k6 => k6) (G := fun k6 => [some (.v ((eT D.int) thing1)), none, none, none]) (z0 := true) (not_p (tb_p (isi_p (ep_var rfl) (by rfl)))) (fun _ => (EvG.map (not_m (tb_m (call_m (av_mp (frz_m (EvG.wkL (Γ0 := [some (.v ((eT D.int) thing1)), none, none, none]) (wk_s rfl (wk_n rfl (wk_n rfl (wk_n rfl (wk_nil rfl))))) (comp_m (em := D.int) (eb := D.bl) (f := (fun (x2 : Int) => ((pis_whole x2).map fun r3 => (r3 && (decide ((0 : Int) < x2)))))) (i_p (ep_var rfl) rfl) (fun x2 => (cf_one0 (EvG.map (andV_t (and_mp (tb_m (fn_p (ds := [(D.int x2)]) (v := (fun (r : Bool) => (D.bl r))) (ap_cons (ep_var rfl) ap_nil) (tis_whole x2))) (fun r3 => (tb_p (ofT_p (cmp_p (ap_cons (ep_var rfl) (ap_cons (ep_c rfl) ap_nil)) f_gt)))))) (fun r3 => (r3 && (decide ((0 : Int) < x2)))) (f' := (fun q4 => D.bl q4)) (G' := (fun q4 => [some (.v ((eT D.int) thing1)), some (.v (D.int x2)), none, none])) (fun _ => rfl) (fun _ => (wk_s rfl (wk_s rfl (wk_n rfl (wk_n rfl (wk_nil rfl))))))))) (wk_s rfl (wk_n rfl (wk_n rfl (wk_n rfl (wk_nil rfl))))) (by intro i hi; simp only [List.mem_cons, List.not_mem_nil, or_false] at hi; rcases hi with rfl <;> rfl)))) (fun r5 => ap_nil)) (fun r5 => (f_allL (ns := r5)))))) (fun r5 => (!(r5.all id))) (f' := (fun q7 => (fun k : Bool => k) q7)) (G' := (fun q7 => [some (.v ((eT D.int) thing1)), none, none, none])) (fun _ => rfl) (fun _ => (wk_s rfl (wk_n rfl (wk_n rfl (wk_n rfl (wk_nil rfl)))))))) rfl (wk_s rfl (wk_n rfl (wk_n rfl (wk_n rfl (wk_nil rfl)))))) (fun k6 => (sim_ret (ep_c rfl) (by rfl) fins_nil)) (fun k6 => (sim_pass (sim_last (sim_retM (call_m (av_mp (frz_m (comp_a (em := (e2 D.int D.int)) (eb := D.bl) (h := (fun (x8 : (Int × Int)) => (decide (x8.2 ≤ x8.1))))  (zi_p (ap_cons (ep_var rfl) (ap_cons (cutT_p (ep_var rfl) (so_some (ep_c rfl)) so_no) ap_nil)) rfl rfl) (fun x8 => cb_2 tys_p (fun _ => (ofT_p (cmp_p (ap_cons (ep_var rfl) (ap_cons (ep_var rfl) ap_nil)) f_ge)))))) (fun r9 => ap_nil)) (fun r9 => (f_allL (ns := r9)))) (fun _ => by rfl) (fun _ => fins_nil))))))
def pweight (parting1 : (List Int)) : Option (Int) :=
  some (parting1).sum
theorem tweight (parting1 : (List Int)) : FnT fweight [.v ((eT D.int) parting1)] (pweight parting1) (fun (r : Int) => Out.rt (D.int r) []) :=
  fn_exit' rfl (fun _ => .inl ⟨_, _, rfl⟩) (Γ0 := [some (.v ((eT D.int) parting1))])
  (sim_last (sim_ret (call_p (ap_cons (ep_var rfl) ap_nil) (f_sumT (ns := parting1))) (by rfl) fins_nil))
def pturned (parting1 : (List Int)) : Option ((List Int)) :=
  if (decide (parting1 = [])) = true then some [] else (pairB (pairB (atI parting1 (0 : Int)) fun r2 => rgO (1 : Int) (r2 + (1 : Int))) fun c3 => compM c3.2 (fun (x4 : Int) => ((compP parting1 (fun (x5 : Int) => (decide (x4 ≤ x5))) (fun (x5 : Int) => x5)).map fun r6 => (r6.length : Int)))).bind fun c8 => some c8.2
theorem tturned (parting1 : (List Int)) : FnT fturned [.v ((eT D.int) parting1)] (pturned parting1) (fun (r : (List Int)) => Out.rt ((eT D.int) r) []) :=
  fn_exit' rfl (fun _ => .inl ⟨_, _, rfl⟩) (Γ0 := [some (.v ((eT D.int) parting1)), none, none])
  (sim_if (cmp_p (ap_cons (ep_var rfl) (ap_cons (tup_p ap_nil) ap_nil)) (f_eq (y_T y_I) (q_T q_I) (by decide) (a := parting1) (b := []))) (fun _ => (sim_ret (tup_p ap_nil) (by rfl) fins_nil)) (fun _ => (sim_pass (sim_last (sim_retM (call_m (av_mp (frz_m (EvG.wkL (Γ0 := [some (.v ((eT D.int) parting1)), none, none]) (wk_s rfl (wk_n rfl (wk_n rfl (wk_nil rfl)))) (comp_mM (em := D.int) (eb := D.int) (rg2_m (av_pm (ep_c rfl) (av_mp (bin_m (av_mp (bin_c (ds := [((eT D.int) parting1), (D.int (0 : Int))]) (ap_cons (ep_var rfl) (ap_cons (ep_c rfl) ap_nil)) (f_ixT (f := D.int) (xs := parting1))) (fun r2 => (ap_cons (ep_c rfl) ap_nil))) (fun r2 => f_add)) (fun r2 => ap_nil)))) (fun c3 x4 => (cf_one0 (EvG.map (call_m (av_mp (frz_m (comp_p (em := D.int) (eb := D.int) (h := (fun (x5 : Int) => x5)) (f := (fun (x5 : Int) => (decide (x4 ≤ x5)))) (i_p (ep_var rfl) rfl) (fun x5 => cb_1 (cmp_p (ap_cons (ep_var rfl) (ap_cons (ep_var rfl) ap_nil)) f_ge) (fun _ => (ep_var rfl))))) (fun r6 => ap_nil)) (fun r6 => (f_lenL (f := D.int) (xs := r6)))) (fun r6 => (r6.length : Int)) (f' := (fun q7 => D.int q7)) (G' := (fun q7 => [some (.v ((eT D.int) parting1)), some (.v (D.int x4)), none])) (fun _ => rfl) (fun _ => (wk_s rfl (wk_s rfl (wk_n rfl (wk_nil rfl)))))))) (fun _ => (wk_s rfl (wk_n rfl (wk_n rfl (wk_nil rfl))))) (fun _ => (by intro i hi; simp only [List.mem_cons, List.not_mem_nil, or_false] at hi; rcases hi with rfl <;> rfl))))) (fun c8 => ap_nil)) (fun c8 => (f_tupleL (f := D.int) (xs := c8.2)))) (fun _ => by rfl) (fun _ => fins_nil))))))
def psizes (parting1 : (List Int)) : Option ((List (Int × Int))) :=
  vlet ([] : (List (Int × Int))) fun often2 => (forO (fun (s3 : (List (Int × Int))) (x4 : Int) => (dpO s3 x4 (((dget s3 x4).getD (0 : Int)) + (1 : Int))).bind fun z6 => some (z6)) parting1 often2).bind fun (s5 : (List (Int × Int))) => some ((sortPI s5)).reverse
theorem tsizes (parting1 : (List Int)) : FnT fsizes [.v ((eT D.int) parting1)] (psizes parting1) (fun (r : (List (Int × Int))) => Out.rt ((eT (e2 D.int D.int)) r) []) :=
  fn_exit' rfl (fun _ => .inl ⟨_, _, rfl⟩) (Γ0 := [some (.v ((eT D.int) parting1)), none, none])
  (sim_dnew kI D.int (fun often2 => (sim_for (em := D.int) (fun s3 => [none, some (.o ((trD kI D.int) s3)), none]) (i_p (ep_var rfl) rfl) (wk_n rfl (wk_s rfl (wk_n rfl (wk_nil rfl)))) (fun s3 x4 => bod_1 (sim_last (sim_dset (kf := kI) (f := D.int) (v := (((dget s3 x4).getD (0 : Int)) + (1 : Int))) (k := x4) kI_inj (bin_p (ap_cons (dget2_p (kf := kI) (f := D.int) (k := x4) (v := (0 : Int)) kI_inj (pl_var rfl rfl).rd (ep_var rfl) rfl (ep_c rfl)) (ap_cons (ep_c rfl) ap_nil)) f_add) (pl_var rfl rfl) (ep_var rfl) rfl (fun z6 => (sim_lp rfl (wk_n rfl (wk_s rfl (wk_n rfl (wk_nil rfl))))))))) (fun s5 => (sim_last (sim_ret (call_p (ap_cons (frz_p (rev_p (frz_p (dsort_p (pl_var rfl rfl).rd)))) ap_nil) (f_tupleL (f := (e2 D.int D.int)) (xs := ((sortPI s5)).reverse))) (by rfl) fins_nil))))))
def pboth (one1 : (List Int)) (other2 : (List Int)) : Option ((List Int)) :=
  (catO one1 other2).bind fun r3 => some ((sortI false r3)).reverse
theorem tboth (one1 : (List Int)) (other2 : (List Int)) : FnT fboth [.v ((eT D.int) one1), .v ((eT D.int) other2)] (pboth one1 other2) (fun (r : (List Int)) => Out.rt ((eT D.int) r) []) :=
  fn_exit' rfl (fun _ => .inl ⟨_, _, rfl⟩) (Γ0 := [some (.v ((eT D.int) one1)), some (.v ((eT D.int) other2))])
  (sim_last (sim_retM (call_m (av_mp (frz_m (rev_m (frz_m (callL_m (av_mp (bin_c (ap_cons (ep_var rfl) (ap_cons (ep_var rfl) ap_nil)) (f_catT (f := D.int) (xs := one1) (ys := other2))) (fun r3 => ap_nil)) (fun r3 => (f_sortT (ns := r3))))))) (fun r3 => ap_nil)) (fun r3 => (f_tupleL (f := D.int) (xs := ((sortI false r3)).reverse)))) (fun _ => by rfl) (fun _ => fins_nil)))
def pless (one1 : (List Int)) (other2 : (List Int)) : Option ((Option (List Int))) :=
  vlet (one1 : (List Int)) fun left3 => bindR id (forR (fun (s4 : (List Int)) (x5 : Int) => if (!decide (x5 ∈ s4)) = true then some (Lp.rt none) else (rmO s4 x5).bind fun z7 => some (Lp.nx z7)) other2 left3) fun s6 => some (some s6)
theorem tless (one1 : (List Int)) (other2 : (List Int)) : FnT fless [.v ((eT D.int) one1), .v ((eT D.int) other2)] (pless one1 other2) (fun (r : (Option (List Int))) => Out.rt ((eO (eT D.int)) r) []) :=
  fn_exit' rfl (fun _ => .inl ⟨_, _, rfl⟩) (Γ0 := [some (.v ((eT D.int) one1)), some (.v ((eT D.int) other2)), none, none])
  (sim_newP (trL D.int) (callL_p (ap_cons (ep_var rfl) ap_nil) (f_listT (f := D.int) (xs := one1))) rfl (fun left3 => (sim_forRP (em := D.int) (fun s4 => [none, none, some (.o ((trL D.int) s4)), none]) (i_p (ep_var rfl) rfl) (wk_n rfl (wk_n rfl (wk_s rfl (wk_n rfl (wk_nil rfl))))) (fun _ => rfl) (fun s4 x5 => bod_1 (sim_if (notIn_o (ns := s4) (k := x5) (pl_var rfl rfl).rd (ep_var rfl)) (fun _ => (sim_ret (ep_c rfl) (by rfl) fins_nil)) (fun _ => (sim_pass (sim_last (sim_rem (pl_var rfl rfl) (ep_var rfl) (fun z7 => (sim_lp rfl (wk_n rfl (wk_n rfl (wk_s rfl (wk_n rfl (wk_nil rfl))))))))))))) (fun s6 => (sim_last (sim_ret (rd_call (pl_var rfl rfl).rd o_tuple) (by rfl) fins_nil))))))
def ppartings (n1 : Int) : Option ((List (List Int))) :=
  (pairB (pairB (some ()) fun _ => (pairB (rgO (0 : Int) n1) fun g5 => compA g5 (fun (x4 : Int) => ([] : (List (List Int)))))) fun p8 => catO [[[]]] p8.2.2).bind fun c7 => vlet (c7.2 : (List (List (List Int)))) fun found2 => (rgO (1 : Int) (n1 + (1 : Int))).bind fun g9 => (forO (fun (s10 : (List (List (List Int)))) (x11 : Int) => (rgO x11 (n1 + (1 : Int))).bind fun g13 => (forO (fun (s14 : (List (List (List Int)))) (x15 : Int) => ((atI s14 (x15 - x11)).bind fun row19 => compM row19 (fun (x17 : (List Int)) => (catO [x11] x17))).bind fun r18 => (exD s14 x15 r18).bind fun z21 => some (z21)) g13 s10).bind fun (s16 : (List (List (List Int)))) => some (s16)) g9 found2).bind fun (s12 : (List (List (List Int)))) => ((atI s12 n1).bind sortRO).bind fun r22 => some r22
theorem tpartings (n1 : Int) : FnT fpartings [.v (D.int n1)] (ppartings n1) (fun (r : (List (List Int))) => Out.rt ((eT (eT D.int)) r) []) :=
  fn_exit' rfl (fun _ => .inl ⟨_, _, rfl⟩) (Γ0 := [some (.v (D.int n1)), none, none, none, none])
  (sim_new (tr2 (eT D.int)) (eo_avr (f := (eT D.int)) (rows_cat (f := (eT D.int)) (y1 := fun u3 => [[[]]]) (rows_one (ys := [[]]) (lst_p (ap_cons (tup_p ap_nil) ap_nil))) (rows_comp (f := (eT D.int)) (em := D.int) (g := (fun (x4 : Int) => ([] : (List (List Int))))) (rg1_r (ap_cons (ep_var rfl) ap_nil)) (fun x4 => (lst_p ap_nil))))) (fun _ => rfl) (fun c7 found2 => (Sim.wk (Γ' := [some (.v (D.int n1)), some (.o ((tr2 (eT D.int)) found2)), none, none, none]) (sim_forM (em := D.int) (fun s10 => [some (.v (D.int n1)), some (.o ((tr2 (eT D.int)) s10)), none, none, none]) (rg2_c (ap_cons (ep_c rfl) (ap_cons (bin_p (ap_cons (ep_var rfl) (ap_cons (ep_c rfl) ap_nil)) f_add) ap_nil))) (fun _ => (wk_s rfl (wk_s rfl (wk_n rfl (wk_n rfl (wk_n rfl (wk_nil rfl))))))) (fun s10 x11 => bod_1 (sim_last (sim_forM (em := D.int) (fun s14 => [some (.v (D.int n1)), some (.o ((tr2 (eT D.int)) s14)), some (.v (D.int x11)), none, none]) (rg2_c (ap_cons (ep_var rfl) (ap_cons (bin_p (ap_cons (ep_var rfl) (ap_cons (ep_c rfl) ap_nil)) f_add) ap_nil))) (fun _ => (wk_s rfl (wk_s rfl (wk_s rfl (wk_n rfl (wk_n rfl (wk_nil rfl))))))) (fun s14 x15 => bod_1 (sim_last (sim_extD (f := (eT D.int)) (pl_var rfl rfl) (ep_var rfl) (row_compM (em := (eT D.int)) (eb := (eT D.int)) (h := (fun (x17 : (List Int)) => (catO [x11] x17))) (pl_var rfl rfl) (bin_p (ap_cons (ep_var rfl) (ap_cons (ep_var rfl) ap_nil)) f_sub) (fun x17 => (bin_e (ap_cons (tup_p (ap_cons (ep_var rfl) ap_nil)) (ap_cons (ep_var rfl) ap_nil)) (f_catT (f := D.int) (xs := [x11]) (ys := x17))))) (fun r18 z21 => (sim_lp rfl (wk_s rfl (wk_s rfl (wk_s rfl (wk_n rfl (wk_n rfl (wk_nil rfl))))))))))) (fun s16 => (sim_lp rfl (wk_s rfl (wk_s rfl (wk_n rfl (wk_n rfl (wk_n rfl (wk_nil rfl))))))))))) (fun s12 => (sim_last (sim_retM (call_m (av_mp (frz_m (sort_row (pl_var rfl rfl) (ep_var rfl))) (fun r22 => ap_nil)) (fun r22 => (f_tupleL (f := (eT D.int)) (xs := r22)))) (fun _ => by rfl) (fun _ => fins_nil))))) (wk_s rfl (wk_s rfl (wk_n rfl (wk_n rfl (wk_n rfl (wk_nil rfl)))))))))
def p_law_hand (script1 : (List Int)) (k2 : Int) : Option ((List Int)) :=
  (if (decide (k2 < (script1.length : Int))) = true then (atI script1 k2) else (some (0 : Int))).bind fun cell6 => (mulO (cell6 % (((10 : Int) ^ 60) * ((10 : Int) ^ 60))) (bI (decide (((10 : Int) ^ 18) ≤ cell6)))).bind fun great8 => (pairB (pairB (mulO (7919 : Int) k2) fun r9 => (mulO r9 k2)) fun c10 => (powO (((cell6 % (2147483629 : Int)) + c10.2) + (11 : Int)) (3 : Int))).bind fun c11 => some [great8, (c11.2 % (2147483647 : Int)), (0 : Int)]
theorem t_law_hand (script1 : (List Int)) (k2 : Int) : FnT f_law_hand [.v ((eZ D.int) script1), .v (D.int k2)] (p_law_hand script1 k2) (fun (r : (List Int)) => Out.rl ((trL D.int) r) []) :=
  fn_new' rfl (fun _ => ⟨_, _, rfl⟩) (Γ0 := [some (.v ((eZ D.int) script1)), some (.v (D.int k2)), none, none])
  (sim_asgB D.int (if_m (cmp_p (ap_cons (ep_var rfl) (ap_cons (call_p (ap_cons (ep_var rfl) ap_nil) (f_lenZ (f := D.int) (xs := script1))) ap_nil)) f_lt) (fun _ => (bin_c (ds := [((eZ D.int) script1), (D.int k2)]) (ap_cons (ep_var rfl) (ap_cons (ep_var rfl) ap_nil)) (f_ixZ (f := D.int) (xs := script1)))) (fun _ => (EvG.wk (G' := fun _ => [some (.v ((eZ D.int) script1)), some (.v (D.int k2)), none, none]) (EpG.pur (f := D.int) (v := (0 : Int)) (ep_c rfl)) (fun _ => (wk_s rfl (wk_s rfl (wk_n rfl (wk_n rfl (wk_nil rfl))))))))) (fun cell6 => (sim_asgB D.int (bin_c (ap_cons (bin_p (ap_cons (ep_var rfl) (ap_cons (bin_p (ap_cons (bin_p (ap_cons (ep_c rfl) (ap_cons (ep_c rfl) ap_nil)) (f_powL (by decide))) (ap_cons (bin_p (ap_cons (ep_c rfl) (ap_cons (ep_c rfl) ap_nil)) (f_powL (by decide))) ap_nil)) (f_mulL (by decide))) ap_nil)) (f_modL (by decide))) (ap_cons (call_p (ap_cons (ofT_p (cmp_p (ap_cons (ep_var rfl) (ap_cons (bin_p (ap_cons (ep_c rfl) (ap_cons (ep_c rfl) ap_nil)) (f_powL (by decide))) ap_nil)) f_ge)) ap_nil) f_intB) ap_nil)) f_mul) (fun great8 => (sim_last (sim_retNew (lst_m (av_pm (ep_var rfl) (av_mp (bin_m (av_mp (bin_mc (av_mp (bin_m (av_mp (bin_m (av_pm (bin_p (ap_cons (ep_var rfl) (ap_cons (ep_c rfl) ap_nil)) (f_modL (by decide))) (av_mp (bin_mc (av_mp (bin_c (ap_cons (ep_c rfl) (ap_cons (ep_var rfl) ap_nil)) f_mul) (fun r9 => (ap_cons (ep_var rfl) ap_nil))) (fun r9 => f_mul)) (fun c10 => ap_nil))) (fun c10 => f_add)) (fun c10 => (ap_cons (ep_c rfl) ap_nil))) (fun c10 => f_add)) (fun c10 => (ap_cons (ep_c rfl) ap_nil))) (fun c10 => f_pow)) (fun c11 => (ap_cons (ep_c rfl) ap_nil))) (fun c11 => (f_modL (by decide)))) (fun c11 => (ap_cons (ep_c rfl) ap_nil))))) (fun _ => by rfl) (fun _ => by rfl) (fun _ => fins_nil)))))))
def p_law_take (hand_here1 : (List Int)) (many2 : Int) : Option (Int × (List Int)) :=
  (atI hand_here1 (0 : Int)).bind fun r3 => if (decide ((0 : Int) < r3)) = true then (pairB (atI hand_here1 (0 : Int)) fun r4 => (modO r4 many2)).bind fun c5 => vlet (c5.2 : Int) fun digit6 => (pairB (atI hand_here1 (0 : Int)) fun r7 => (divO r7 many2)).bind fun c8 => (stO hand_here1 (0 : Int) c8.2).bind fun z9 => some (digit6, z9) else (atI hand_here1 (2 : Int)).bind fun r10 => (stO hand_here1 (2 : Int) (r10 + (1 : Int))).bind fun z11 => (pairB (pairB (atI z11 (1 : Int)) fun r12 => (mulO r12 (39373 : Int))) fun c13 => (pairB (atI z11 (2 : Int)) fun r14 => (mulO (65537 : Int) r14))).bind fun c16 => (stO z11 (1 : Int) (((c16.1.2 + c16.2.2) + (12345 : Int)) % (2147483647 : Int))).bind fun z17 => (pairB (pairB (pairB (atI z17 (1 : Int)) fun r18 => (powO r18 (5 : Int))) fun c19 => (atI z17 (1 : Int))) fun c21 => (modO (((c21.1.2 % (2147483629 : Int)) + (c21.2 / (8191 : Int))) / (64 : Int)) many2)).bind fun c22 => some (c22.2, z17)
theorem t_law_take (hand_here1 : (List Int)) (many2 : Int) : FnT f_law_take [.p 0 ((trL D.int) hand_here1), .v (D.int many2)] (p_law_take hand_here1 many2) (fun (r : Int × (List Int)) => Out.rt (D.int r.1) [((trL D.int) r.2)]) :=
  fn_exit' rfl (fun _ => .inl ⟨_, _, rfl⟩) (Γ0 := [some (.p 0 ((trL D.int) hand_here1)), some (.v (D.int many2)), none])
  (sim_ifM (cmp_m (av_mp (rd_ix (pl_var rfl rfl).rd (ep_c rfl)) (fun r3 => (ap_cons (ep_c rfl) ap_nil))) (fun r3 => f_gt)) (fun r3 => (sim_assoc (sim_asgM D.int (bin_mc (av_mp (rd_ix (pl_var rfl rfl).rd (ep_c rfl)) (fun r4 => (ap_cons (ep_var rfl) ap_nil))) (fun r4 => f_mod)) (fun _ => rfl) (fun c5 digit6 => (sim_assoc (sim_setM (f := D.int) (bin_mc (av_mp (rd_ix (pl_var rfl rfl).rd (ep_c rfl)) (fun r7 => (ap_cons (ep_var rfl) ap_nil))) (fun r7 => f_div)) (fun _ => rfl) (fun c8 => (pl_var rfl rfl)) (fun c8 => (ep_c rfl)) (fun c8 z9 => (sim_ret (ep_var rfl) (by rfl) (fins_1 0 rfl))))))))) (fun r3 => (sim_pass (sim_setM (f := D.int) (bin_m (av_mp (rd_ix (pl_var rfl rfl).rd (ep_c rfl)) (fun r10 => (ap_cons (ep_c rfl) ap_nil))) (fun r10 => f_add)) (fun _ => rfl) (fun r10 => (pl_var rfl rfl)) (fun r10 => (ep_c rfl)) (fun r10 z11 => (sim_setM (f := D.int) (bin_m (av_mp (bin_m (av_mp (bin_m (av_mm (bin_mc (av_mp (rd_ix (pl_var rfl rfl).rd (ep_c rfl)) (fun r12 => (ap_cons (ep_c rfl) ap_nil))) (fun r12 => f_mul)) (fun c13 => (av_mp (bin_mc (av_pm (ep_c rfl) (av_mp (rd_ix (pl_var rfl rfl).rd (ep_c rfl)) (fun r14 => ap_nil))) (fun r14 => f_mul)) (fun c15 => ap_nil)))) (fun c16 => f_add)) (fun c16 => (ap_cons (ep_c rfl) ap_nil))) (fun c16 => f_add)) (fun c16 => (ap_cons (ep_c rfl) ap_nil))) (fun c16 => (f_modL (by decide)))) (fun _ => rfl) (fun c16 => (pl_var rfl rfl)) (fun c16 => (ep_c rfl)) (fun c16 z17 => (sim_last (sim_retM (bin_mc (av_mp (bin_m (av_mp (bin_m (av_mm (bin_m (av_mp (bin_mc (av_mp (rd_ix (pl_var rfl rfl).rd (ep_c rfl)) (fun r18 => (ap_cons (ep_c rfl) ap_nil))) (fun r18 => f_pow)) (fun c19 => (ap_cons (ep_c rfl) ap_nil))) (fun c19 => (f_modL (by decide)))) (fun c19 => (av_mp (bin_m (av_mp (rd_ix (pl_var rfl rfl).rd (ep_c rfl)) (fun r20 => (ap_cons (ep_c rfl) ap_nil))) (fun r20 => (f_divL (by decide)))) (fun r20 => ap_nil)))) (fun c21 => f_add)) (fun c21 => (ap_cons (ep_c rfl) ap_nil))) (fun c21 => (f_divL (by decide)))) (fun c21 => (ap_cons (ep_var rfl) ap_nil))) (fun c21 => f_mod)) (fun _ => by rfl) (fun _ => (fins_1 0 rfl)))))))))))
def p_law_one_right (parting1 : (List Int)) (n2 : Int) : Option (Bool) :=
  (pturned parting1).bind fun there4 => vlet ([] : (List Int)) fun again5 => (psizes parting1).bind fun r6 => (forO (fun (s7 : (List Int)) (x8 : (Int × Int)) => (pairB (repTO [x8.1] x8.2) fun r10 => (catO s7 r10)).bind fun c11 => vlet (c11.2 : (List Int)) fun again12 => some (again12)) r6 again5).bind fun (s9 : (List Int)) => ((pis_parting parting1).bind fun r13 => if (!decide (r13 = true)) = true then some true else ((pweight parting1).bind fun r14 => if (!decide (r14 = n2)) = true then some true else ((pweight there4).map fun r15 => ((!decide (r15 = n2)) || (!decide (s9 = parting1)))))).bind fun k18 => if k18 = true then some false else ((pturned there4).bind fun r20 => if (!decide (r20 = parting1)) = true then some true else ((pairB (catO parting1 [(0 : Int)]) fun r21 => (maxO r21)).map fun c22 => (!decide ((there4.length : Int) = c22.2)))).bind fun k23 => if k23 = true then some false else (pairB (catO there4 [(0 : Int)]) fun r25 => (maxO r25)).bind fun c26 => some (decide ((parting1.length : Int) = c26.2))
theorem t_law_one_right (parting1 : (List Int)) (n2 : Int) : FnT f_law_one_right [.v ((eT D.int) parting1), .v (D.int n2)] (p_law_one_right parting1 n2) (fun (r : Bool) => Out.rt (D.bl r) []) :=
  fn_exit' rfl (fun _ => .inl ⟨_, _, rfl⟩) (Γ0 := [some (.v ((eT D.int) parting1)), some (.v (D.int n2)), none, none, none, none])
  (sim_asgB (eT D.int) (fn_p (ds := [((eT D.int) parting1)]) (v := (fun (r : (List Int)) => ((eT D.int) r))) (ap_cons (ep_var rfl) ap_nil) (tturned parting1)) (fun there4 => (sim_asgP (eT D.int) (tup_p ap_nil) (fun again5 => (sim_forM (em := (e2 D.int D.int)) (fun s7 => [some (.v ((eT D.int) parting1)), some (.v (D.int n2)), some (.v ((eT D.int) there4)), some (.v ((eT D.int) s7)), none, none]) (i_m (fn_p (ds := [((eT D.int) parting1)]) (v := (fun (r : (List (Int × Int))) => ((eT (e2 D.int D.int)) r))) (ap_cons (ep_var rfl) ap_nil) (tsizes parting1)) (fun _ => rfl)) (fun _ => (wk_s rfl (wk_s rfl (wk_s rfl (wk_s rfl (wk_n rfl (wk_n rfl (wk_nil rfl)))))))) (fun s7 x8 => bod_2 (sim_last (sim_asgM (eT D.int) (bin_mc (av_pm (ep_var rfl) (av_mp (bin_c (ap_cons (tup_p (ap_cons (ep_var rfl) ap_nil)) (ap_cons (ep_var rfl) ap_nil)) (f_repT (f := D.int) (xs := [x8.1]))) (fun r10 => ap_nil))) (fun r10 => (f_catT (f := D.int) (xs := s7) (ys := r10)))) (fun _ => rfl) (fun c11 again12 => (sim_lp rfl (wk_s rfl (wk_s rfl (wk_s rfl (wk_s rfl (wk_n rfl (wk_n rfl (wk_nil rfl)))))))))))) (fun s9 => (sim_ifM (or_gm (f := fun k18 => k18) (G := fun k18 => [some (.v ((eT D.int) parting1)), some (.v (D.int n2)), some (.v ((eT D.int) there4)), some (.v ((eT D.int) s9)), none, none]) (z0 := fun r13 => true) (cmp_m (av_mp (fn_p (ds := [((eT D.int) parting1)]) (v := (fun (r : Bool) => (D.bl r))) (ap_cons (ep_var rfl) ap_nil) (tis_parting parting1)) (fun r13 => (ap_cons (ep_c rfl) ap_nil))) (fun r13 => f_notQ)) (fun r13 _ => (or_gm (f := fun k16 => k16) (G := fun k16 => [some (.v ((eT D.int) parting1)), some (.v (D.int n2)), some (.v ((eT D.int) there4)), some (.v ((eT D.int) s9)), none, none]) (z0 := fun r14 => true) (cmp_m (av_mp (fn_p (ds := [((eT D.int) parting1)]) (v := (fun (r : Int) => (D.int r))) (ap_cons (ep_var rfl) ap_nil) (tweight parting1)) (fun r14 => (ap_cons (ep_var rfl) ap_nil))) (fun r14 => (f_ne y_I q_I (by decide) (a := r14) (b := n2)))) (fun r14 _ => (EvG.map (or_mp (cmp_m (av_mp (fn_p (ds := [((eT D.int) there4)]) (v := (fun (r : Int) => (D.int r))) (ap_cons (ep_var rfl) ap_nil) (tweight there4)) (fun r15 => (ap_cons (ep_var rfl) ap_nil))) (fun r15 => (f_ne y_I q_I (by decide) (a := r15) (b := n2)))) (fun r15 => (cmp_p (ap_cons (ep_var rfl) (ap_cons (ep_var rfl) ap_nil)) (f_ne (y_T y_I) (q_T q_I) (by decide) (a := s9) (b := parting1))))) (fun r15 => ((!decide (r15 = n2)) || (!decide (s9 = parting1)))) (f' := (fun q17 => (fun k : Bool => k) q17)) (G' := (fun q17 => [some (.v ((eT D.int) parting1)), some (.v (D.int n2)), some (.v ((eT D.int) there4)), some (.v ((eT D.int) s9)), none, none])) (fun _ => rfl) (fun _ => (wk_s rfl (wk_s rfl (wk_s rfl (wk_s rfl (wk_n rfl (wk_n rfl (wk_nil rfl)))))))))) (fun _ => rfl) (fun _ => (wk_s rfl (wk_s rfl (wk_s rfl (wk_s rfl (wk_n rfl (wk_n rfl (wk_nil rfl)))))))))) (fun _ => rfl) (fun _ => (wk_s rfl (wk_s rfl (wk_s rfl (wk_s rfl (wk_n rfl (wk_n rfl (wk_nil rfl))))))))) (fun k18 => (sim_ret (ep_c rfl) (by rfl) fins_nil)) (fun k18 => (sim_pass (sim_ifM (or_gm (f := fun k23 => k23) (G := fun k23 => [some (.v ((eT D.int) parting1)), some (.v (D.int n2)), some (.v ((eT D.int) there4)), some (.v ((eT D.int) s9)), none, none]) (z0 := fun r20 => true) (cmp_m (av_mp (fn_p (ds := [((eT D.int) there4)]) (v := (fun (r : (List Int)) => ((eT D.int) r))) (ap_cons (ep_var rfl) ap_nil) (tturned there4)) (fun r20 => (ap_cons (ep_var rfl) ap_nil))) (fun r20 => (f_ne (y_T y_I) (q_T q_I) (by decide) (a := r20) (b := parting1)))) (fun r20 _ => (EvG.map (cmp_m (av_pm (call_p (ap_cons (ep_var rfl) ap_nil) (f_lenT (f := D.int) (xs := there4))) (av_mp (call_mc (av_mp (bin_c (ap_cons (ep_var rfl) (ap_cons (tup_p (ap_cons (ep_c rfl) ap_nil)) ap_nil)) (f_catT (f := D.int) (xs := parting1) (ys := [(0 : Int)]))) (fun r21 => ap_nil)) (fun r21 => (f_maxT (ns := r21)))) (fun c22 => ap_nil))) (fun c22 => (f_ne y_I q_I (by decide) (a := (there4.length : Int)) (b := c22.2)))) (fun c22 => (!decide ((there4.length : Int) = c22.2))) (f' := (fun q24 => (fun k : Bool => k) q24)) (G' := (fun q24 => [some (.v ((eT D.int) parting1)), some (.v (D.int n2)), some (.v ((eT D.int) there4)), some (.v ((eT D.int) s9)), none, none])) (fun _ => rfl) (fun _ => (wk_s rfl (wk_s rfl (wk_s rfl (wk_s rfl (wk_n rfl (wk_n rfl (wk_nil rfl)))))))))) (fun _ => rfl) (fun _ => (wk_s rfl (wk_s rfl (wk_s rfl (wk_s rfl (wk_n rfl (wk_n rfl (wk_nil rfl))))))))) (fun k23 => (sim_ret (ep_c rfl) (by rfl) fins_nil)) (fun k23 => (sim_pass (sim_last (sim_retM (ofT_m (cmp_m (av_pm (call_p (ap_cons (ep_var rfl) ap_nil) (f_lenT (f := D.int) (xs := parting1))) (av_mp (call_mc (av_mp (bin_c (ap_cons (ep_var rfl) (ap_cons (tup_p (ap_cons (ep_c rfl) ap_nil)) ap_nil)) (f_catT (f := D.int) (xs := there4) (ys := [(0 : Int)]))) (fun r25 => ap_nil)) (fun r25 => (f_maxT (ns := r25)))) (fun c26 => ap_nil))) (fun c26 => (f_eq y_I q_I (by decide) (a := (parting1.length : Int)) (b := c26.2))))) (fun _ => by rfl) (fun _ => fins_nil)))))))))))))))
def plaw (script1 : (List Int)) : Option (Bool) :=
  (rgO (0 : Int) ((1 : Int) + (if (script1.length : Int) < (2 : Int) then (script1.length : Int) else (2 : Int)))).bind fun g2 => bindR id (forR (fun (s3 : Unit) (x4 : Int) => (p_law_hand script1 x4).bind fun r7 => vlet (r7 : (List Int)) fun hand_here6 => (pairB (pairB (p_law_take hand_here6 (6 : Int)) fun r8 => (atI [(13 : Int), (13 : Int), (13 : Int), (19 : Int), (19 : Int), (25 : Int)] r8.1)) fun c9 => (p_law_take c9.1.2 c9.2)).bind fun c10 => vlet (c10.2.1 : Int) fun n11 => (ppartings n11).bind fun told13 => ((compM told13 (fun (x14 : (List Int)) => (p_law_one_right x14 n11))).bind fun r16 => if (!(r16.all id)) = true then some true else ((pairB (sortNO told13) fun r17 => ((eqO ((eL (eT D.int)) told13) ((eL (eT D.int)) r17)).map (!·))).map fun c18 => c18.2)).bind fun k19 => if k19 = true then some (Lp.rt false) else (pairB (compM told13 (fun (x22 : (List Int)) => (pturned x22))) fun r24 => (sortRO r24)).bind fun c25 => if (!decide (c25.2 = told13)) = true then some (Lp.rt false) else bindR Lp.rt (forR (fun (s26 : Unit) (x27 : ((List Int) × (List Int))) => ((pairB (pboth x27.1 x27.2) fun r29 => (pless r29 x27.2)).bind fun c30 => if (!decide (c30.2 = (some x27.1))) = true then some true else ((pless x27.1 x27.2).bind fun r31 => if (r31.isSome) = true then some true else ((pairB (pairB (pboth x27.1 x27.2) fun r32 => (pweight r32)) fun c33 => (mulO (2 : Int) n11)).map fun c35 => (!decide (c35.1.2 = c35.2))))).bind fun k38 => if k38 = true then some (Lp.rt false) else some (Lp.nx ())) (told13.zip (cutI told13 (some (1 : Int)) none)) ()) fun s28 => some (Lp.nx ())) g2 ()) fun s5 => some true
theorem tlaw (script1 : (List Int)) : FnT flaw [.v ((eZ D.int) script1)] (plaw script1) (fun (r : Bool) => Out.rt (D.bl r) []) :=
  fn_exit' rfl (fun _ => .inl ⟨_, _, rfl⟩) (Γ0 := [some (.v ((eZ D.int) script1)), none, none, none, none, none, none, none])
  (sim_forR (em := D.int) (fun s3 => [some (.v ((eZ D.int) script1)), none, none, none, none, none, none, none]) (rg1_c (ap_cons (bin_p (ap_cons (ep_c rfl) (ap_cons (call_p (ap_cons (ep_c rfl) (ap_cons (call_p (ap_cons (ep_var rfl) ap_nil) (f_lenZ (f := D.int) (xs := script1))) ap_nil)) f_min2) ap_nil)) f_add) ap_nil)) (fun _ => (wk_s rfl (wk_n rfl (wk_n rfl (wk_n rfl (wk_n rfl (wk_n rfl (wk_n rfl (wk_n rfl (wk_nil rfl)))))))))) (fun _ => rfl) (fun s3 x4 => bod_1 (sim_new (trL D.int) (call_newP [] (fun (r : (List Int)) => []) (val := (fun (r : (List Int)) => ((trL D.int) r))) (ga_v (ep_var rfl) (ga_v (ep_var rfl) ga_nil)) (t_law_hand script1 x4) (by decide) sl_0 (np_of [] rfl (by decide)) (fit_v (fit_v fit_nil)) (fun _ => rfl) (fun _ => rfl)) (fun _ => rfl) (fun r7 hand_here6 => (Sim.wk (Γ' := [some (.v ((eZ D.int) script1)), none, some (.o ((trL D.int) hand_here6)), none, none, none, none, none]) (sim_asgM D.int (call_fn [2] (fun c9 (r : Int × (List Int)) => [((trL D.int) r.2)]) (val := fun _ => (fun (r : Int × (List Int)) => (D.int r.1))) (ga_s rfl (ga_m (bin_mc (av_pm (frz_p (lst_p (ap_cons (ep_c rfl) (ap_cons (ep_c rfl) (ap_cons (ep_c rfl) (ap_cons (ep_c rfl) (ap_cons (ep_c rfl) (ap_cons (ep_c rfl) ap_nil)))))))) (av_mp (call_fnP [2] (fun (r : Int × (List Int)) => [((trL D.int) r.2)]) (val := (fun (r : Int × (List Int)) => (D.int r.1))) (ga_s rfl (ga_v (ep_c rfl) ga_nil)) (t_law_take hand_here6 (6 : Int)) (by decide) (sl_c rfl rfl sl_0) (np_of [0] rfl (by decide)) (fit_s rfl rfl rfl (fit_v fit_nil)) (fun _ => rfl) (fun _ => .inl rfl)) (fun r8 => ap_nil))) (fun r8 => (f_ixL (f := D.int) (xs := [(13 : Int), (13 : Int), (13 : Int), (19 : Int), (19 : Int), (25 : Int)])))) (fun c9 => ga_nil))) (fun c9 => (t_law_take c9.1.2 c9.2)) (by decide) (fun _ => (sl_c rfl rfl sl_0)) (fun _ => (np_of [0] rfl (by decide))) (fun _ => (fit_s rfl rfl rfl (fit_v fit_nil))) (fun _ _ => rfl) (fun _ _ => .inl rfl)) (fun _ => rfl) (fun c10 n11 => (Sim.wk (Γ' := [some (.v ((eZ D.int) script1)), none, none, some (.v (D.int n11)), none, none, none, none]) (sim_asgB (eT (eT D.int)) (fn_p (ds := [(D.int n11)]) (v := (fun (r : (List (List Int))) => ((eT (eT D.int)) r))) (ap_cons (ep_var rfl) ap_nil) (tpartings n11)) (fun told13 => (sim_ifM (or_gm (f := fun k19 => k19) (G := fun k19 => [some (.v ((eZ D.int) script1)), none, none, some (.v (D.int n11)), some (.v ((eT (eT D.int)) told13)), none, none, none]) (z0 := fun r16 => true) (not_m (tb_m (call_m (av_mp (frz_m (EvG.wkL (Γ0 := [some (.v ((eZ D.int) script1)), none, none, some (.v (D.int n11)), some (.v ((eT (eT D.int)) told13)), none, none, none]) (wk_s rfl (wk_n rfl (wk_n rfl (wk_s rfl (wk_s rfl (wk_n rfl (wk_n rfl (wk_n rfl (wk_nil rfl))))))))) (comp_m (em := (eT D.int)) (eb := D.bl) (f := (fun (x14 : (List Int)) => (p_law_one_right x14 n11))) (i_p (ep_var rfl) rfl) (fun x14 => (cf_one0 (EvG.wkG (f' := D.bl) (G' := fun _ => [some (.v ((eZ D.int) script1)), none, none, some (.v (D.int n11)), some (.v ((eT (eT D.int)) told13)), none, none, some (.v ((eT D.int) x14))]) (fn_p (ds := [((eT D.int) x14), (D.int n11)]) (v := (fun (r : Bool) => (D.bl r))) (ap_cons (ep_var rfl) (ap_cons (ep_var rfl) ap_nil)) (t_law_one_right x14 n11)) (fun _ => rfl) (fun _ => (wk_s rfl (wk_n rfl (wk_n rfl (wk_s rfl (wk_s rfl (wk_n rfl (wk_n rfl (wk_s rfl (wk_nil rfl))))))))))))) (wk_s rfl (wk_n rfl (wk_n rfl (wk_s rfl (wk_s rfl (wk_n rfl (wk_n rfl (wk_n rfl (wk_nil rfl))))))))) (by intro i hi; simp only [List.mem_cons, List.not_mem_nil, or_false] at hi; rcases hi with rfl <;> rfl)))) (fun r16 => ap_nil)) (fun r16 => (f_allL (ns := r16)))))) (fun r16 _ => (EvG.map (cmp_mc (av_pm (frz_p (callL_p (ap_cons (ep_var rfl) ap_nil) (f_listT (f := (eT D.int)) (xs := told13)))) (av_mp (frz_m (callL_c (ds := [((eT (eT D.int)) told13)]) (ap_cons (ep_var rfl) ap_nil) (f_sortN (xss := told13)))) (fun r17 => ap_nil))) (fun r17 => f_neA)) (fun c18 => c18.2) (f' := (fun q20 => (fun k : Bool => k) q20)) (G' := (fun q20 => [some (.v ((eZ D.int) script1)), none, none, some (.v (D.int n11)), some (.v ((eT (eT D.int)) told13)), none, none, none])) (fun _ => rfl) (fun _ => (wk_s rfl (wk_n rfl (wk_n rfl (wk_s rfl (wk_s rfl (wk_n rfl (wk_n rfl (wk_n rfl (wk_nil rfl)))))))))))) (fun _ => rfl) (fun _ => (wk_s rfl (wk_n rfl (wk_n rfl (wk_s rfl (wk_s rfl (wk_n rfl (wk_n rfl (wk_n rfl (wk_nil rfl))))))))))) (fun k19 => (sim_ret (ep_c rfl) (by rfl) fins_nil)) (fun k19 => (sim_pass (sim_ifM (cmp_m (av_mp (frz_m (callL_mc (av_mp (frz_m (EvG.wkL (Γ0 := [some (.v ((eZ D.int) script1)), none, none, some (.v (D.int n11)), some (.v ((eT (eT D.int)) told13)), none, none, none]) (wk_s rfl (wk_n rfl (wk_n rfl (wk_s rfl (wk_s rfl (wk_n rfl (wk_n rfl (wk_n rfl (wk_nil rfl))))))))) (comp_m (em := (eT D.int)) (eb := (eT D.int)) (f := (fun (x22 : (List Int)) => (pturned x22))) (i_p (ep_var rfl) rfl) (fun x22 => (cf_one0 (EvG.wkG (f' := (eT D.int)) (G' := fun _ => [some (.v ((eZ D.int) script1)), none, none, some (.v (D.int n11)), some (.v ((eT (eT D.int)) told13)), none, none, some (.v ((eT D.int) x22))]) (fn_p (ds := [((eT D.int) x22)]) (v := (fun (r : (List Int)) => ((eT D.int) r))) (ap_cons (ep_var rfl) ap_nil) (tturned x22)) (fun _ => rfl) (fun _ => (wk_s rfl (wk_n rfl (wk_n rfl (wk_s rfl (wk_s rfl (wk_n rfl (wk_n rfl (wk_s rfl (wk_nil rfl))))))))))))) (wk_s rfl (wk_n rfl (wk_n rfl (wk_s rfl (wk_s rfl (wk_n rfl (wk_n rfl (wk_n rfl (wk_nil rfl))))))))) (by intro i hi; simp only [List.mem_cons, List.not_mem_nil, or_false] at hi; rcases hi with rfl <;> rfl)))) (fun r24 => ap_nil)) (fun r24 => (f_sortR (xss := r24))))) (fun c25 => (ap_cons (frz_p (callL_p (ap_cons (ep_var rfl) ap_nil) (f_listT (f := (eT D.int)) (xs := told13)))) ap_nil))) (fun c25 => (f_ne (y_L (y_T y_I)) (q_L (q_T q_I)) (by decide) (a := c25.2) (b := told13)))) (fun c25 => (sim_ret (ep_c rfl) (by rfl) fins_nil)) (fun c25 => (sim_pass (sim_last (sim_forRP (em := (e2 (eT D.int) (eT D.int))) (fun s26 => [some (.v ((eZ D.int) script1)), none, none, some (.v (D.int n11)), none, none, none, none]) (zi_p (ap_cons (ep_var rfl) (ap_cons (cutT_p (ep_var rfl) (so_some (ep_c rfl)) so_no) ap_nil)) rfl rfl) (wk_s rfl (wk_n rfl (wk_n rfl (wk_s rfl (wk_n rfl (wk_n rfl (wk_n rfl (wk_n rfl (wk_nil rfl))))))))) (fun _ => rfl) (fun s26 x27 => bod_2 (sim_last (sim_ifM (or_gm (f := fun k38 => k38) (G := fun k38 => [some (.v ((eZ D.int) script1)), none, none, some (.v (D.int n11)), none, some (.v ((eT D.int) x27.1)), some (.v ((eT D.int) x27.2)), none]) (z0 := fun c30 => true) (cmp_m (av_mp (fn_m (ds := fun r29 => [((eT D.int) r29), ((eT D.int) x27.2)]) (v := fun _ => (fun (r : (Option (List Int))) => ((eO (eT D.int)) r))) (av_mp (fn_p (ds := [((eT D.int) x27.1), ((eT D.int) x27.2)]) (v := (fun (r : (List Int)) => ((eT D.int) r))) (ap_cons (ep_var rfl) (ap_cons (ep_var rfl) ap_nil)) (tboth x27.1 x27.2)) (fun r29 => (ap_cons (ep_var rfl) ap_nil))) (fun r29 => (tless r29 x27.2))) (fun c30 => (ap_cons (ep_var rfl) ap_nil))) (fun c30 => (f_ne (y_O (y_T y_I)) (q_O (q_T q_I) (fun _ h => by cases h)) (by decide) (a := c30.2) (b := (some x27.1))))) (fun c30 _ => (or_gm (f := fun k36 => k36) (G := fun k36 => [some (.v ((eZ D.int) script1)), none, none, some (.v (D.int n11)), none, some (.v ((eT D.int) x27.1)), some (.v ((eT D.int) x27.2)), none]) (z0 := fun r31 => true) (cmp_m (av_mp (fn_p (ds := [((eT D.int) x27.1), ((eT D.int) x27.2)]) (v := (fun (r : (Option (List Int))) => ((eO (eT D.int)) r))) (ap_cons (ep_var rfl) (ap_cons (ep_var rfl) ap_nil)) (tless x27.1 x27.2)) (fun r31 => (ap_cons (ep_c rfl) ap_nil))) (fun r31 => (f_notN (fun _ => rfl)))) (fun r31 _ => (EvG.map (cmp_m (av_mm (fn_m (ds := fun r32 => [((eT D.int) r32)]) (v := fun _ => (fun (r : Int) => (D.int r))) (av_mp (fn_p (ds := [((eT D.int) x27.1), ((eT D.int) x27.2)]) (v := (fun (r : (List Int)) => ((eT D.int) r))) (ap_cons (ep_var rfl) (ap_cons (ep_var rfl) ap_nil)) (tboth x27.1 x27.2)) (fun r32 => ap_nil)) (fun r32 => (tweight r32))) (fun c33 => (av_mp (bin_c (ap_cons (ep_c rfl) (ap_cons (ep_var rfl) ap_nil)) f_mul) (fun r34 => ap_nil)))) (fun c35 => (f_ne y_I q_I (by decide) (a := c35.1.2) (b := c35.2)))) (fun c35 => (!decide (c35.1.2 = c35.2))) (f' := (fun q37 => (fun k : Bool => k) q37)) (G' := (fun q37 => [some (.v ((eZ D.int) script1)), none, none, some (.v (D.int n11)), none, some (.v ((eT D.int) x27.1)), some (.v ((eT D.int) x27.2)), none])) (fun _ => rfl) (fun _ => (wk_s rfl (wk_n rfl (wk_n rfl (wk_s rfl (wk_n rfl (wk_s rfl (wk_s rfl (wk_n rfl (wk_nil rfl)))))))))))) (fun _ => rfl) (fun _ => (wk_s rfl (wk_n rfl (wk_n rfl (wk_s rfl (wk_n rfl (wk_s rfl (wk_s rfl (wk_n rfl (wk_nil rfl)))))))))))) (fun _ => rfl) (fun _ => (wk_s rfl (wk_n rfl (wk_n rfl (wk_s rfl (wk_n rfl (wk_s rfl (wk_s rfl (wk_n rfl (wk_nil rfl))))))))))) (fun k38 => (sim_ret (ep_c rfl) (by rfl) fins_nil)) (fun k38 => (sim_pass (sim_lp rfl (wk_s rfl (wk_n rfl (wk_n rfl (wk_s rfl (wk_n rfl (wk_n rfl (wk_n rfl (wk_n rfl (wk_nil rfl))))))))))))))) (fun s28 => (sim_lp rfl (wk_s rfl (wk_n rfl (wk_n rfl (wk_n rfl (wk_n rfl (wk_n rfl (wk_n rfl (wk_n rfl (wk_nil rfl))))))))))))))))))))) (wk_s rfl (wk_n rfl (wk_n rfl (wk_s rfl (wk_n rfl (wk_n rfl (wk_n rfl (wk_n rfl (wk_nil rfl)))))))))))) (wk_s rfl (wk_n rfl (wk_s rfl (wk_n rfl (wk_n rfl (wk_n rfl (wk_n rfl (wk_n rfl (wk_nil rfl))))))))))))) (fun s5 => (sim_last (sim_ret (ep_c rfl) (by rfl) fins_nil))))
end Lk06
namespace Lk06
open PySem PySem.Spec PyProof.Rows L2 Vi
def Hd (n : Int) (st : List Int) : Prop := ∃ g a b : Int, st = [g, a, b] ∧ 0 ≤ g ∧ g < 2 ^ 400 ∧ 0 ≤ a ∧ a < 2147483647 ∧ 0 ≤ b ∧ b ≤ n
theorem powO_ok {i j : Int} (h : 0 ≤ j ∧ j ≤ 1000000) (h' : -(2 ^ 63) < i ∧ i < 2 ^ 63) : powO i j = some (i ^ j.toNat) := if_pos ⟨h, by omega⟩
theorem hand_ok (ns : List Int) (k : Int) (hk : 0 ≤ k ∧ k ≤ 100) : wpO (p_law_hand ns k) (Hd 0) := by
  unfold p_law_hand
  simp only [wp_vlet, wp_bind, wp_pair]
  have cell : wpO (if (decide (k < (ns.length : Int))) = true then (atI ns k) else (some (0 : Int))) (fun _ => True) := by
    rw [wp_ite]
    refine ⟨fun h => ?_, fun _ => wp_some.mpr trivial⟩
    exact wp_at hk.1 (of_decide_eq_true h) fun _ _ => trivial
  refine cell.imp fun c _ => ?_
  have m0 : 0 ≤ c % ((10 ^ 60 : Int) * 10 ^ 60) := Int.emod_nonneg _ (by decide)
  have m1 : c % ((10 ^ 60 : Int) * 10 ^ 60) < 10 ^ 60 * 10 ^ 60 := Int.emod_lt_of_pos _ (by decide)
  have m2 : ((10 ^ 60 : Int) * 10 ^ 60) < 2 ^ 400 := by decide +kernel
  generalize c % ((10 ^ 60 : Int) * 10 ^ 60) = gr at m0 m1 ⊢
  generalize hbi : bI (decide ((10 : Int) ^ 18 ≤ c)) = bi
  have hb : bi = 0 ∨ bi = 1 := by
    rw [← hbi]
    cases decide ((10 : Int) ^ 18 ≤ c) <;> simp [bI]
  have hg : gr.natAbs < 2 ^ 400 := by
    have : (gr.natAbs : Int) < ((2 ^ 400 : Nat) : Int) := by
      rw [show (gr.natAbs : Int) = gr by omega]
      exact Int.lt_trans m1 (by decide +kernel)
    exact Int.ofNat_lt.mp this
  refine wp_eq (mulO_ok (a := 400) (b := 100) hg (by rcases hb with e | e <;> rw [e] <;> decide)) ?_
  have hgr : 0 ≤ gr * bi ∧ gr * bi < 2 ^ 400 := by
    rcases hb with e | e <;> rw [e]
    · rw [Int.mul_zero]; exact ⟨Int.le_refl _, by decide +kernel⟩
    · rw [Int.mul_one]; exact ⟨m0, Int.lt_trans m1 m2⟩
  generalize gr * bi = g2 at hgr ⊢
  have e1 : 0 ≤ 7919 * k ∧ 7919 * k < 1000000 := by omega
  refine wp_mulS (by omega) (by omega) ?_
  have e2 : 0 ≤ 7919 * k * k := Int.mul_nonneg e1.1 hk.1
  have e3 : 7919 * k * k ≤ 1000000 * 100 := Int.mul_le_mul (by omega) (by omega) hk.1 (by omega)
  refine wp_mulS (by omega) (by omega) ?_
  refine wp_eq (powO_ok (by decide) (by omega)) ?_
  rw [wp_some]
  exact ⟨_, _, _, rfl, hgr.1, hgr.2, Int.emod_nonneg _ (by omega), Int.emod_lt_of_pos _ (by omega), Int.le_refl _, Int.le_refl _⟩
theorem take_wp {st : List Int} {n : Int} {Q : Int × List Int → Prop} {k : Int} (h : Hd n st) (hn : n < 1000000) (hk : 0 < k ∧ k < 2 ^ 60)
    (q : ∀ r st', 0 ≤ r → r < k → Hd (n + 1) st' → Q (r, st')) : wpO (p_law_take st k) Q := by
  obtain ⟨g, a, b, rfl, g0, g1, a0, a1, b0, b1⟩ := h
  have i0 : ∀ x y z : Int, atI [x, y, z] 0 = some x := fun _ _ _ => rfl
  have i1 : ∀ x y z : Int, atI [x, y, z] 1 = some y := fun _ _ _ => rfl
  have i2 : ∀ x y z : Int, atI [x, y, z] 2 = some z := fun _ _ _ => rfl
  have s0 : ∀ x y z v : Int, stO [x, y, z] 0 v = some [v, y, z] := fun _ _ _ _ => rfl
  have s1 : ∀ x y z v : Int, stO [x, y, z] 1 v = some [x, v, z] := fun _ _ _ _ => rfl
  have s2 : ∀ x y z v : Int, stO [x, y, z] 2 v = some [x, y, v] := fun _ _ _ _ => rfl
  have km : ∀ x : Int, modO x k = some (x % k) := fun x => if_pos hk.1
  by_cases hg : 0 < g
  · have kd : divO g k = some (g / k) := if_pos ⟨hk.1, Nat.lt_of_lt_of_le (log2_lt (k := 60) (by omega) (by decide)) (by decide)⟩
    refine wp_eq (a := (g % k, [g / k, a, b])) ?_ (q _ _ (Int.emod_nonneg _ (by omega)) (Int.emod_lt_of_pos _ hk.1) ⟨_, _, _, rfl, Int.ediv_nonneg g0 (by omega), Int.lt_of_le_of_lt (Int.ediv_le_self _ g0) g1, a0, a1, b0, by omega⟩)
    unfold p_law_take
    simp only [i0, Option.bind_some, hg, decide_true, if_true, pairB, km, vlet, kd, s0]
  · have m1 : mulO a 39373 = some (a * 39373) := mulO_s (by omega) (by omega)
    have m2 : mulO 65537 (b + 1) = some (65537 * (b + 1)) := mulO_s (by omega) (by omega)
    obtain ⟨z, ez⟩ : ∃ z : Int, z = (a * 39373 + 65537 * (b + 1) + 12345) % 2147483647 := ⟨_, rfl⟩
    have z0 : 0 ≤ z := ez ▸ Int.emod_nonneg _ (by omega)
    have z1 : z < 2147483647 := ez ▸ Int.emod_lt_of_pos _ (by omega)
    have m3 : powO z 5 = some (z ^ 5) := powO_ok (by decide) (by omega)
    refine wp_eq (a := ((z ^ 5 % 2147483629 + z / 8191) / 64 % k, [g, z, b + 1])) ?_ (q _ _ (Int.emod_nonneg _ (by omega)) (Int.emod_lt_of_pos _ hk.1) ⟨_, _, _, rfl, g0, g1, z0, z1, by omega, by omega⟩)
    unfold p_law_take
    simp only [i0, Option.bind_some, hg, decide_false, Bool.false_eq_true, if_false, i2, s2, pairB, i1, m1, m2, s1, ← ez, m3, km]
def tb (N : Nat) (g : Nat → List (List Int)) : List (List (List Int)) := (List.range (N + 1)).map g
theorem tb_len (N : Nat) (g : Nat → List (List Int)) : (tb N g).length = N + 1 := by simp [tb]
theorem tb_get {N j : Nat} {g : Nat → List (List Int)} (h : j ≤ N) : atI (tb N g) (j : Int) = some (g j) := by
  refine atI_nn ?_
  unfold tb
  rw [List.getElem?_map, List.getElem?_range (by omega)]; rfl
theorem tb_ext {N : Nat} {g h : Nat → List (List Int)} (e : ∀ j, j ≤ N → g j = h j) : tb N g = tb N h :=
  List.map_congr_left fun j hj => e j (by have := List.mem_range.mp hj; omega)
theorem tb_set {N k : Nat} {g : Nat → List (List Int)} {v : List (List Int)} (h : k ≤ N) : stO (tb N g) (k : Int) v = some (tb N fun j => if j = k then v else g j) := by
  unfold stO
  rw [ixN_nn (by omega) (by rw [tb_len]; omega)]
  show some ((tb N g).set k v) = _
  congr 1
  unfold tb
  apply List.ext_getElem?
  intro j
  rw [List.getElem?_set, List.getElem?_map, List.getElem?_map, List.length_map, List.length_range]
  by_cases e : k = j
  · subst e
    rw [if_pos rfl, if_pos (by omega), List.getElem?_range (by omega)]
    simp
  · rw [if_neg e]
    by_cases q : j < N + 1
    · rw [List.getElem?_range q]
      simp [Ne.symm e]
    · rw [List.getElem?_eq_none (by simp; omega)]; rfl
def mid (s k j : Nat) : List (List Int) := if j < k then Rw (s + 1) j else Rw s j
theorem mid_0 (s j : Nat) : mid s (s + 1) j = Rw s j := by
  unfold mid
  split
  · exact Rw_lt (by omega)
  · rfl
theorem inner_ok {N s : Nat} {f : List (List (List Int)) → Int → Option (List (List (List Int)))} (hs : s + 1 ≤ N) (step : ∀ k : Nat, s + 1 ≤ k → k ≤ N → f (tb N (mid s k)) (k : Int) = some (tb N (mid s (k + 1)))) :
    forO f (irg (1 + (s : Int)) (N - s)) (tb N (Rw s)) = some (tb N (Rw (s + 1))) := by
  refine wp_get (wp_for0 (fun i L => L = tb N (mid s (s + 1 + i))) ?_ (fun i x L hx hL => ?_) fun L hL => ?_)
  · exact tb_ext fun j _ => (mid_0 s j).symm
  · obtain ⟨hi, rfl⟩ := irg_get hx
    subst hL
    have e : (1 + (s : Int)) + (i : Int) = ((s + 1 + i : Nat) : Int) := by omega
    rw [e]
    exact wp_eq (step (s + 1 + i) (by omega) (by omega)) rfl
  · rw [hL, irg_len]
    refine tb_ext fun j hj => ?_
    unfold mid
    rw [if_pos (by omega)]
section
variable {N s k : Nat} {z : Int}
theorem mid_row (h1 : s + 1 ≤ k) (h2 : k ≤ N) (hz : z = 1 + (s : Int)) : atI (tb N (mid s k)) ((k : Int) - z) = some (Rw (s + 1) (k - (s + 1))) := by
  have e : (k : Int) - z = ((k - (s + 1) : Nat) : Int) := by omega
  rw [e, tb_get (by omega)]
  unfold mid
  rw [if_pos (by omega)]
theorem mid_old (h2 : k ≤ N) : atI (tb N (mid s k)) (k : Int) = some (Rw s k) := by
  rw [tb_get h2]
  unfold mid
  rw [if_neg (by omega)]
theorem mid_new (h1 : s + 1 ≤ k) (h2 : k ≤ N) : stO (tb N (mid s k)) (k : Int) (Rw s k ++ (Rw (s + 1) (k - (s + 1))).map (((s + 1 : Nat) : Int) :: ·)) = some (tb N (mid s (k + 1))) := by
  rw [tb_set h2, ← Rw_ge h1]
  congr 1
  refine tb_ext fun j hj => ?_
  unfold mid
  by_cases e : j = k
  · subst e
    rw [if_pos rfl, if_pos (by omega)]
  · rw [if_neg e]
    by_cases q : j < k
    · rw [if_pos q, if_pos (by omega)]
    · rw [if_neg q, if_neg (by omega)]
theorem mid_comp (hN : N ≤ 30) (h1 : s + 1 ≤ k) (h2 : k ≤ N) (hz : z = 1 + (s : Int)) : compM (Rw (s + 1) (k - (s + 1))) (fun (x : List Int) => catO [z] x) = some ((Rw (s + 1) (k - (s + 1))).map (((s + 1 : Nat) : Int) :: ·)) := by
  have e : z = ((s + 1 : Nat) : Int) := by omega
  subst e
  refine compM_ok ?_ fun r hr => ?_
  · have := Rw_few (s := s + 1) (n := k - (s + 1)) (by omega) (by omega)
    omega
  · obtain ⟨_, h, _⟩ := Rw_row _ _ r hr
    exact catO_ok (by simp; omega)
theorem mid_cat (hN : N ≤ 30) (h1 : s + 1 ≤ k) (h2 : k ≤ N) : (Rw s k).length + ((Rw (s + 1) (k - (s + 1))).map (((s + 1 : Nat) : Int) :: ·)).length ≤ 16777216 := by
  have := Rw_few (s := s + 1) (n := k) (by omega) (by omega)
  rw [Rw_ge h1, List.length_append] at this
  omega
end
theorem tb_0 (N : Nat) : [[[]]] ++ (irg 0 N).map (fun _ => ([] : List (List Int))) = tb N (Rw 0) := by
  unfold tb irg
  rw [List.range_succ_eq_map, List.map_cons, List.map_map, List.map_map, Rw_0, if_pos rfl]
  show [[]] :: _ = _
  congr 1
  refine List.map_congr_left fun j _ => ?_
  show _ = Rw 0 (j + 1)
  rw [Rw_0, if_neg (by omega)]; rfl
theorem partings_ok {N : Nat} (hN : N ≤ 30) : ppartings (N : Int) = some (Rw N N) := by
  refine wp_get ?_
  unfold ppartings
  rw [wp_bind, wp_pair, wp_pair, wp_some, wp_pair]
  refine wp_rgS (by omega) (by omega) ?_
  rw [wp_compA]
  refine ⟨by rw [irg_len]; omega, ?_⟩
  dsimp only
  rw [wp_catO]
  refine ⟨by rw [List.length_map, irg_len]; simp; omega, ?_⟩
  (try dsimp only)
  rw [wp_vlet, show ((N : Int) - 0).toNat = N by omega, tb_0, wp_bind]
  refine wp_rgS (by omega) (by omega) ?_
  rw [wp_bind]
  refine wp_for0 (fun i L => L = tb N (Rw i)) rfl (fun i x L hx hL => ?_) fun L hL => ?_
  · obtain ⟨hi, rfl⟩ := irg_get hx
    subst hL
    rw [wp_bind]
    refine wp_rgS (by omega) (by omega) ?_
    rw [wp_bind, show ((N : Int) + 1 - (1 + (i : Int))).toNat = N - i by omega]
    refine wp_eq (inner_ok (by omega) fun k h1 h2 => ?_) ⟨_, rfl, rfl⟩
    rw [mid_row h1 h2 rfl, Option.bind_some, mid_comp hN h1 h2 rfl, Option.bind_some]
    unfold exD
    rw [mid_old h2, Option.bind_some, show exO _ _ = some _ from if_pos (mid_cat hN h1 h2), Option.bind_some, mid_new h1 h2]; rfl
  · rw [hL, irg_len, wp_bind, wp_bind, show ((N : Int) + 1 - 1).toNat = N by omega]
    refine wp_eq (tb_get (Nat.le_refl _)) ?_
    exact wp_eq (sort_Rw N N) ⟨_, rfl, rfl⟩
end Lk06
namespace Lk06
open PySem PySem.Spec PyProof.Rows L2 Vi TA
theorem pos_max {p : List Int} (h : Pt p) {x : Int} {r : List Int} (e : p = x :: r) : maxD0 p = x := by
  subst e
  exact maxDI_head h.2
theorem turned_ok {p : List Int} (h : Pt p) (hl : p.length ≤ 1000) (hm : ∀ x ∈ p, x ≤ 1000) : pturned p = some (turn p) := by
  unfold pturned
  cases p with
  | nil => rfl
  | cons x r =>
    have hx := hm x (List.mem_cons_self ..)
    have hx1 := h.1 x (List.mem_cons_self ..)
    rw [if_neg (by simp)]
    refine wp_get ?_
    simp only [wp_bind, wp_pair]
    refine wp_eq (atI_nn (i := 0) rfl) ?_
    refine wp_rgS (by omega) (by omega) ?_
    refine wp_eq (compM_ok (g := cnt (x :: r)) (by rw [irg_len]; omega) fun s _ => ?_) (wp_some.mpr ?_)
    · rw [compP_id _ (by omega)]
      rfl
    · unfold turn
      rw [pos_max h rfl, show x + 1 - 1 = x by omega]
theorem cnt_cons (x : Int) (p : List Int) (s : Int) : cnt (x :: p) s = cnt p s + if s ≤ x then 1 else 0 := by
  unfold Vi.cnt
  rw [List.filter_cons]
  by_cases h : s ≤ x
  · rw [if_pos (decide_eq_true h), if_pos h, List.length_cons]; omega
  · rw [if_neg (by simpa using h), if_neg h]; omega
theorem cnt_0 {p : List Int} {j : Int} (h : ∀ x ∈ p, x < j) : cnt p j = 0 := by
  unfold Vi.cnt
  rw [List.filter_eq_nil_iff.mpr fun x hx => by have := h x hx; simp; omega]
  rfl
theorem cnt_iff {j : Int} : ∀ {p : List Int}, p.Pairwise (fun a b => b ≤ a) → ∀ i : Nat, ((i : Int) < cnt p j ↔ ∃ x, p[i]? = some x ∧ j ≤ x)
  | [], _, i => by
    constructor
    · intro h
      have : cnt [] j = 0 := rfl
      omega
    · rintro ⟨x, hx, _⟩
      simp at hx
  | y :: r, h, i => by
    obtain ⟨h1, h2⟩ := List.pairwise_cons.mp h
    by_cases hy : j ≤ y
    · rw [cnt_cons, if_pos hy]
      cases i with
      | zero =>
        have := cnt_nn r j
        exact ⟨fun _ => ⟨y, rfl, hy⟩, fun _ => by omega⟩
      | succ i =>
        rw [List.getElem?_cons_succ, ← cnt_iff h2 i]
        omega
    · rw [cnt_0 (fun x hx => by
        rcases List.mem_cons.mp hx with e | e
        · omega
        · have := h1 x e; omega)]
      constructor
      · intro q; omega
      · rintro ⟨x, hx, q⟩
        have hm := List.mem_of_getElem? hx
        rcases List.mem_cons.mp hm with e | e
        · omega
        · have := h1 x e; omega
theorem cnt_irg {n : Nat} {y : Int} (h0 : 0 ≤ y) (h1 : y ≤ n) : (((irg 1 n).filter fun x => decide (x ≤ y)).length : Int) = y := by
  induction n with
  | zero =>
    have : irg 1 0 = [] := rfl
    rw [this]
    simp; omega
  | succ n ih =>
    have e : irg 1 (n + 1) = irg 1 n ++ [(n : Int) + 1] := by
      unfold irg
      rw [List.range_succ, List.map_append]
      simp [Int.add_comm]
    rw [e, List.filter_append, List.length_append]
    by_cases q : (n : Int) + 1 ≤ y
    · have h2 : y = (n : Int) + 1 := by omega
      have e2 : (irg 1 n).filter (fun x => decide (x ≤ y)) = irg 1 n := List.filter_eq_self.mpr fun x hx => by
        have := mem_irg.mp hx
        simp; omega
      rw [e2, irg_len]
      simp [q]; omega
    · have := ih (by omega)
      simp only [List.filter_cons, decide_eq_false q]
      simp; omega
theorem turn_turn {p : List Int} (h : Pt p) : turn (turn p) = p := by
  obtain ⟨m0, m1, m2⟩ := maxD0_nn h
  have hm : maxD0 (turn p) = p.length := by
    cases p with
    | nil => rfl
    | cons x r =>
      obtain ⟨q, e⟩ := turn_head h (by simp)
      have ht := turn_pt h
      rw [e] at ht ⊢
      unfold maxD0
      rw [maxDI_head ht.2]
  apply List.ext_getElem?
  intro i
  by_cases hi : i < p.length
  · have hx := h.1 _ (List.getElem_mem hi)
    have hxm := m1 _ (List.getElem_mem hi)
    rw [List.getElem?_eq_getElem hi]
    unfold turn
    rw [List.getElem?_map]
    have e1 : (irg 1 (maxD0 (turn p)).toNat)[i]? = some (1 + (i : Int)) := by
      rw [hm]
      unfold irg
      rw [List.getElem?_map, List.getElem?_range (by omega)]
      rfl
    show Option.map (cnt (turn p)) (irg 1 (maxD0 (turn p)).toNat)[i]? = _
    rw [e1, Option.map_some]
    congr 1
    have e2 : cnt (turn p) (1 + (i : Int)) = (((irg 1 (maxD0 p).toNat).filter fun j => decide (j ≤ p[i])).length : Int) := by
      unfold Vi.cnt turn
      rw [List.filter_map, List.length_map]
      congr 2
      apply List.filter_congr
      intro j hj
      have := cnt_iff (j := j) h.2 i
      show decide (1 + (i : Int) ≤ cnt p j) = decide (j ≤ p[i])
      rw [decide_eq_decide]
      constructor
      · intro q
        obtain ⟨x, hx1, hx2⟩ := this.mp (by omega)
        rw [List.getElem?_eq_getElem hi] at hx1
        cases hx1
        exact hx2
      · intro q
        have := this.mpr ⟨_, List.getElem?_eq_getElem hi, q⟩
        omega
    rw [e2]
    exact cnt_irg (by omega) (by omega)
  · have hl : (turn (turn p)).length = p.length := by rw [turn_len, hm]; omega
    rw [List.getElem?_eq_none (by omega), List.getElem?_eq_none (by omega)]
theorem sum_cntM : ∀ (p : List Int) (M : Nat), (∀ x ∈ p, 0 ≤ x ∧ x ≤ M) → ((irg 1 M).map (cnt p)).sum = p.sum
  | [], M, _ => by
    have : ∀ L : List Int, (L.map (cnt [])).sum = 0 := fun L => by
      induction L with
      | nil => rfl
      | cons a L ih => rw [List.map_cons, List.sum_cons, ih]; rfl
    exact this _
  | x :: r, M, h => by
    have ih := sum_cntM r M fun y hy => h y (List.mem_cons_of_mem _ hy)
    have hx := h x (List.mem_cons_self ..)
    have key : ∀ L : List Int, (L.map (cnt (x :: r))).sum = (L.map (cnt r)).sum + ((L.filter fun j => decide (j ≤ x)).length : Int) := fun L => by
      induction L with
      | nil => rfl
      | cons a L ih =>
        rw [List.map_cons, List.sum_cons, List.map_cons, List.sum_cons, ih, cnt_cons, List.filter_cons]
        by_cases q : a ≤ x
        · simp [q]; omega
        · simp [q]; omega
    rw [key, ih, cnt_irg hx.1 hx.2, List.sum_cons]
    omega
theorem turn_sum {p : List Int} (h : Pt p) : (turn p).sum = p.sum := by
  obtain ⟨m0, m1, m2⟩ := maxD0_nn h
  exact sum_cntM p _ fun x hx => by have := m1 x hx; have := h.1 x hx; omega
theorem turn_N {N : Nat} {p : List Int} (h : PtN N p) : PtN N (turn p) ∧ turn (turn p) = p := by
  have hp : Pt p := ⟨h.2.1, h.1⟩
  have ht := turn_pt hp
  exact ⟨⟨ht.2, ht.1, by rw [turn_sum hp]; exact h.2.2⟩, turn_turn hp⟩
theorem leR_anti {a b : List Int} (h : leR a b = true) (h' : leR b a = true) : a = b := List.le_antisymm (of_decide_eq_true h) (of_decide_eq_true h')
theorem leR_tot (a b : List Int) : (leR a b || leR b a) = true := by
  unfold leR
  rw [Bool.or_eq_true, decide_eq_true_eq, decide_eq_true_eq]
  exact List.le_total a b
theorem leR_tra (a b c : List Int) (h : leR a b = true) (h' : leR b c = true) : leR a c = true := decide_eq_true (List.le_trans (of_decide_eq_true h) (of_decide_eq_true h'))
theorem sort_of {xs ys : List (List Int)} (p : xs.Perm ys) (up : ys.Pairwise fun a b => leR a b = true) : xs.mergeSort leR = ys :=
  List.Perm.eq_of_pairwise (le := fun a b => leR a b = true) (fun a b _ _ h h' => leR_anti h h') (List.pairwise_mergeSort (le := leR) leR_tra leR_tot xs) up ((List.mergeSort_perm xs leR).trans p)
theorem memR {N : Nat} {x : List Int} : x ∈ Rw N N ↔ PtN N x := (Rw_allP N).mem x
theorem pt_of {N : Nat} {x : List Int} (h : PtN N x) : Pt x := ⟨h.2.1, h.1⟩
theorem len_sum : ∀ (p : List Int), (∀ x ∈ p, 1 ≤ x) → (p.length : Int) ≤ p.sum ∧ ∀ x ∈ p, x ≤ p.sum
  | [], _ => ⟨by simp, fun x hx => (List.not_mem_nil hx).elim⟩
  | y :: xs, h => by
    obtain ⟨h1, h2⟩ := len_sum xs fun z hz => h z (List.mem_cons_of_mem _ hz)
    have h3 := h y (List.mem_cons_self ..)
    rw [List.sum_cons, List.length_cons]
    refine ⟨by omega, fun x hx => ?_⟩
    rcases List.mem_cons.mp hx with e | e
    · omega
    · have := h2 x e; omega
theorem pturn_ok {N : Nat} (hN : N ≤ 30) {x : List Int} (h : PtN N x) : pturned x = some (turn x) := by
  have b := len_sum x h.2.1
  have e : x.sum = (N : Int) := h.2.2
  exact turned_ok (pt_of h) (by omega) fun y hy => by have := b.2 y hy; omega
theorem maxD_turn {p : List Int} (h : Pt p) : maxD0 (turn p) = p.length := by
  have := turn_len (turn p)
  rw [turn_turn h] at this
  have := (maxD0_nn (turn_pt h)).1
  omega
theorem sizes_ok {p : List Int} (h : p.length ≤ 10000) : ∃ t, psizes p = some t ∧ IsSz p t ∧ t.length ≤ p.length := by
  obtain ⟨r, e, hr⟩ := often_fold (f := fun (s3 : (List (Int × Int))) (x4 : Int) => (dpO s3 x4 (((dget s3 x4).getD (0 : Int)) + (1 : Int))).bind fun z6 => some (z6)) (fun s x hs => by
    unfold dpO
    rw [if_pos hs]; rfl) p [] [] often_nil (by simp; omega)
  rw [List.nil_append] at hr
  refine ⟨(sortPI r).reverse, ?_, hr.sz, ?_⟩
  · unfold psizes
    simp only [vlet]
    rw [e]; rfl
  · have : (sortPI r).length = r.length := (List.mergeSort_perm r leP).length_eq
    have := hr.len
    rw [List.length_reverse]; omega
theorem max0 {p : List Int} (h : Pt p) : maxI (p ++ [0]) = maxD0 p := by
  cases p with
  | nil => rfl
  | cons x xs =>
    have e : (x :: xs ++ [0]).Pairwise (fun a b => b ≤ a) := by
      rw [List.pairwise_append]
      refine ⟨h.2, List.pairwise_singleton _ _, fun a ha b hb => ?_⟩
      rw [List.mem_singleton.mp hb]
      have := h.1 a ha; omega
    rw [List.cons_append] at e ⊢
    rw [maxI_head e]
    exact (maxDI_head h.2).symm
def bySize (p : List Int) : List (Int × Int) := ((dng (maxD0 p).toNat).filter fun s => decide ((0 : Int) < ((p.count s : Nat) : Int))).map fun s => (s, ((p.count s : Nat) : Int))
theorem bySize_sz {p : List Int} (h : Pt p) : IsSz p (bySize p) := by
  obtain ⟨m0, m1, m2⟩ := maxD0_nn h
  unfold bySize
  refine ⟨?_, fun k c => ?_⟩
  · rw [List.pairwise_map]
    exact (dng_dn _).filter _
  · simp only [List.mem_map, List.mem_filter, decide_eq_true_eq, Prod.mk.injEq, mem_dng]
    constructor
    · rintro ⟨a, ⟨_, ha⟩, rfl, rfl⟩
      exact ⟨List.count_pos_iff.mp (by omega), rfl⟩
    · rintro ⟨hk, rfl⟩
      have h1 := h.1 k hk
      have h2 := m1 k hk
      have h3 : 0 < p.count k := List.count_pos_iff.mpr hk
      exact ⟨k, ⟨⟨h1, by omega⟩, by omega⟩, rfl, rfl⟩
def Fits (p q : List Int) : Prop := ∀ a, q.count a ≤ p.count a
theorem less_all : ∀ (q p : List Int), (Fits p q → ∃ r, pless p q = some (some r) ∧ r.Sublist p ∧ ∀ a, r.count a = p.count a - q.count a) ∧ (¬ Fits p q → pless p q = some none)
  | [], p => ⟨fun _ => ⟨p, rfl, List.Sublist.refl _, fun a => rfl⟩, fun h => absurd (fun a => Nat.zero_le _) h⟩
  | x :: q, p => by
    have ih := less_all q (p.erase x)
    have ce : ∀ a, (p.erase x).count a = p.count a - if x = a then 1 else 0 := fun a => by
      rw [List.count_erase]
      by_cases e : a = x
      · subst e; simp
      · have e' : ¬ x = a := fun z => e z.symm
        simp [e, e']
    have cc : ∀ a, (x :: q).count a = q.count a + if x = a then 1 else 0 := fun a => by
      rw [List.count_cons]
      by_cases e : x = a <;> simp [e]
    by_cases hx : x ∈ p
    · have st : pless p (x :: q) = pless (p.erase x) q := by
        unfold pless
        simp only [vlet, bindR, forR, hx, decide_true, Bool.not_true, Bool.false_eq_true, if_false, rmO, if_true, Option.bind_some]
      have hp : 0 < p.count x := List.count_pos_iff.mpr hx
      have fi : Fits p (x :: q) ↔ Fits (p.erase x) q := by
        constructor
        · intro h a
          have := h a
          rw [cc] at this
          rw [ce]
          omega
        · intro h a
          have := h a
          rw [ce] at this
          rw [cc]
          by_cases e : x = a
          · subst e; rw [if_pos rfl] at this ⊢; omega
          · rw [if_neg e] at this ⊢; omega
      refine ⟨fun h => ?_, fun h => ?_⟩
      · obtain ⟨r, e, hs, hc⟩ := ih.1 (fi.mp h)
        refine ⟨r, by rw [st, e], hs.trans List.erase_sublist, fun a => ?_⟩
        rw [hc, ce, cc]; omega
      · rw [st]; exact ih.2 fun z => h (fi.mpr z)
    · refine ⟨fun h => ?_, fun _ => ?_⟩
      · have := h x
        rw [cc, if_pos rfl, List.count_eq_zero_of_not_mem hx] at this
        omega
      · unfold pless
        simp only [vlet, bindR, forR, hx, decide_false, Bool.not_false, if_true, Option.bind_some]
        rfl
theorem desc_uniq {p q : List Int} (hp : p.Pairwise (fun a b => b ≤ a)) (hq : q.Pairwise (fun a b => b ≤ a)) (h : ∀ a, p.count a = q.count a) : p = q :=
  sort_uniq (r := fun a b => b ≤ a) (fun a b h h' => Int.le_antisymm h' h) hp hq (List.perm_iff_count.mpr h)
theorem less_back {b p q : List Int} (hb : b.Pairwise (fun a b => b ≤ a)) (hp : p.Pairwise (fun a b => b ≤ a)) (hc : ∀ a, b.count a = p.count a + q.count a) : pless b q = some (some p) := by
  obtain ⟨r, e, hs, hr⟩ := (less_all q b).1 fun a => by rw [hc]; omega
  rw [e, desc_uniq (hb.sublist hs) hp fun a => by rw [hr, hc]; omega]
end Lk06
namespace Lk06
open PySem PySem.Spec PyProof.Rows L2 Vi TA
theorem ptn_b {N : Nat} (hN : N ≤ 30) {p : List Int} (h : PtN N p) : p.length ≤ 30 ∧ (∀ x ∈ p, 1 ≤ x ∧ x ≤ 30) ∧ p.sum = (N : Int) := by
  obtain ⟨a, b⟩ := len_sum p h.2.1
  have e := h.2.2
  exact ⟨by omega, fun x hx => by have := h.2.1 x hx; have := b x hx; omega, e⟩
theorem parting_yes {p : List Int} (h : Pt p) (hl : p.length ≤ 1000) : pis_parting p = some true := by
  unfold pis_parting
  have e1 : compM p (fun (x2 : Int) => ((pis_whole x2).map fun r3 => (r3 && (decide ((0 : Int) < x2))))) = some (p.map fun _ => true) := compM_ok (by omega) fun x hx => by
    have := h.1 x hx
    show some ((true && !false) && decide ((0 : Int) < x)) = some true
    rw [decide_eq_true (by omega)]
    rfl
  have e2 : compA (p.zip (cutI p (some (1 : Int)) none)) (fun (x8 : (Int × Int)) => (decide (x8.2 ≤ x8.1))) = some ((p.zip (cutI p (some (1 : Int)) none)).map fun _ => true) := by
    have hz : (p.zip (cutI p (some (1 : Int)) none)).length ≤ 16777216 := by rw [List.length_zip]; omega
    unfold compA
    rw [if_pos hz]
    refine congrArg some (List.map_congr_left fun x hx => decide_eq_true ?_)
    have ct : cutI p (some (1 : Int)) none = p.drop 1 := by
      unfold cutI
      have a : HT.sIx p.length p.length none = p.length := rfl
      have c : HT.sIx p.length 0 (some 1) = min 1 p.length := by
        unfold HT.sIx
        simp
      rw [a, c]
      by_cases q : p.length = 0
      · have := List.eq_nil_of_length_eq_zero q
        subst this
        rfl
      · rw [show min 1 p.length = 1 by omega, List.take_of_length_le (Nat.le_of_eq List.length_drop)]
    rw [ct] at hx
    obtain ⟨i, hi⟩ := List.mem_iff_getElem?.mp hx
    obtain ⟨h1, h2⟩ := List.getElem?_zip_eq_some.mp hi
    rw [List.getElem?_drop] at h2
    obtain ⟨l1, q1⟩ := List.getElem?_eq_some_iff.mp h1
    obtain ⟨l2, q2⟩ := List.getElem?_eq_some_iff.mp h2
    rw [← q1, ← q2]
    exact List.pairwise_iff_getElem.mp h.2 i (1 + i) l1 l2 (by omega)
  have a1 : ((p.map fun _ => true).all id) = true := by rw [List.all_map]; exact List.all_eq_true.mpr fun _ _ => rfl
  have a2 : (((p.zip (cutI p (some (1 : Int)) none)).map fun _ => true).all id) = true := by rw [List.all_map]; exact List.all_eq_true.mpr fun _ _ => rfl
  rw [if_neg (by decide), e1, Option.map_some, a1, Option.bind_some, if_neg (by decide), e2, Option.bind_some, a2]
theorem again_ok {p : List Int} (h : Pt p) (hl : p.length ≤ 300) : ∃ t, psizes p = some t ∧ forO (fun (s7 : (List Int)) (x8 : (Int × Int)) => (pairB (repTO [x8.1] x8.2) fun r10 => (catO s7 r10)).bind fun c11 => vlet (c11.2 : (List Int)) fun again12 => some (again12)) t [] = some p := by
  obtain ⟨t, et, ht, lt⟩ := sizes_ok (p := p) (by omega)
  obtain ⟨m0, m1, m2⟩ := maxD0_nn h
  have es : t = bySize p := ht.uniq (bySize_sz h)
  have cnt : ∀ k, ((p.count k : Nat) : Int) ≤ 300 := fun k => by
    have := List.count_le_length (a := k) (l := p)
    omega
  have fl : (t.flatMap fun k => List.replicate k.2.toNat k.1) = p := by
    have : (t.flatMap fun k => List.replicate k.2.toNat k.1) = unf ((dng (maxD0 p).toNat).filter fun s => decide ((0 : Int) < ((p.count s : Nat) : Int))) (fun k => p.count k) := by
      rw [es]
      unfold bySize unf
      rw [List.flatMap_map]
      rfl
    rw [this]
    refine unf_eq h.2 ((dng_dn _).filter _) (fun x hx => ?_) fun x _ => rfl
    simp only [List.mem_filter, decide_eq_true_eq, mem_dng]
    have h1 := h.1 x hx
    have h2 := m1 x hx
    have h3 : 0 < p.count x := List.count_pos_iff.mpr hx
    exact ⟨⟨h1, by omega⟩, by omega⟩
  refine ⟨t, et, ?_⟩
  rw [flat_fold (n := 1000) (by decide) t [] (by rw [fl]; simp; omega) fun s x hx hs => ?_]
  · rw [fl]; rfl
  · obtain ⟨q1, q2⟩ := (ht.mem x.1 x.2).mp hx
    have := cnt x.1
    refine wp_get ?_
    simp only [wp_bind, wp_pair, wp_vlet]
    rw [wp_repT]
    refine ⟨⟨by omega, by omega⟩, ?_⟩
    rw [wp_catO]
    refine ⟨by simp; omega, ?_⟩
    rw [wp_some]
theorem max_ok {p : List Int} (h : Pt p) (hl : p.length ≤ 1000) : (pairB (catO p [(0 : Int)]) fun r21 => (maxO r21)) = some (p ++ [0], maxD0 p) := by
  refine wp_get ?_
  rw [wp_pair, wp_catO]
  refine ⟨by simp; omega, ?_⟩
  rw [wp_maxO]
  exact ⟨by simp, by rw [max0 h]⟩
theorem one_right {N : Nat} (hN : N ≤ 30) {p : List Int} (h : PtN N p) : p_law_one_right p (N : Int) = some true := by
  obtain ⟨b1, b2, b3⟩ := ptn_b hN h
  have hp := pt_of h
  obtain ⟨t1, t2⟩ := turn_N h
  have ht := pt_of t1
  obtain ⟨c1, c2, c3⟩ := ptn_b hN t1
  obtain ⟨t, e1, e2⟩ := again_ok hp (by omega)
  have m0 := (maxD0_nn hp).1
  have w1 : pweight p = some (N : Int) := congrArg some b3
  have w2 : pweight (turn p) = some (N : Int) := congrArg some c3
  have l1 : (((turn p).length : Nat) : Int) = maxD0 p := by rw [turn_len]; omega
  have l2 : maxD0 (turn p) = ((p.length : Nat) : Int) := maxD_turn hp
  have pt2 : pturned (turn p) = some p := by rw [pturn_ok hN t1, t2]
  unfold p_law_one_right
  rw [pturn_ok hN h, Option.bind_some]
  simp only [vlet]
  simp only [vlet] at e2
  rw [e1, Option.bind_some, e2, Option.bind_some, parting_yes hp (by omega), Option.bind_some, w1, Option.bind_some, w2, Option.map_some, pt2, Option.bind_some, max_ok hp (by omega), max_ok ht (by omega)]
  simp only [decide_true, Bool.not_true, Bool.false_eq_true, if_false, Bool.or_false, Option.bind_some, Option.map_some, l1, l2]
theorem ell_24 : ∀ n, n < 25 → ell 50 n n ≤ 4000 := by decide +kernel
theorem Rw_4000 {N : Nat} (hN : N ≤ 24) : (Rw N N).length ≤ 4000 := by
  rw [Rw_len 50 N N (by omega)]
  exact ell_24 N (by omega)
theorem Rw_cond (N : Nat) : (Rw N N).length < 2 ∨ ∀ r ∈ Rw N N, r ≠ [] := by
  by_cases h0 : N = 0
  · left
    subst h0
    rw [Rw_0]
    decide
  · right
    exact fun r hr => (Rw_row N N r hr).2.2 (by omega)
theorem sortN_ok {N : Nat} (hN : N ≤ 24) : sortNO (Rw N N) = some (Rw N N) := by
  unfold sortNO
  rw [if_pos ⟨Rw_4000 hN, (Rw_allP N).nd, Rw_cond N⟩]
  exact congrArg some (sort_of (List.Perm.refl _) (Rw_up N N))
theorem eq_rows (xss : List (List Int)) : eqO ((eL (eT D.int)) xss) ((eL (eT D.int)) xss) = some true := by
  have y := y_L (y_T y_I)
  have e := y.1 xss []
  have sh := shaped_of y (by decide) xss
  have q : PyData.eqv (pL (pT pI) xss) (pL (pT pI) xss) = true := (q_L (q_T q_I) xss xss).mpr rfl
  unfold eqO
  rw [e]
  dsimp only
  rw [if_pos ⟨sh, sh⟩, q]
theorem turned_list {N : Nat} (hN : N ≤ 24) : (pairB (compM (Rw N N) (fun (x22 : (List Int)) => (pturned x22))) fun r24 => (sortRO r24)) = some ((Rw N N).map turn, Rw N N) := by
  have e1 : compM (Rw N N) (fun (x22 : (List Int)) => (pturned x22)) = some ((Rw N N).map turn) := compM_ok (by have := Rw_4000 hN; omega) fun x hx => pturn_ok (by omega) (memR.mp hx)
  have pm : ((Rw N N).map turn).Perm (Rw N N) := by
    refine (List.perm_ext_iff_of_nodup ?_ (Rw_allP N).nd).mpr fun z => ?_
    · refine List.pairwise_map.mpr (List.Pairwise.imp_of_mem (fun {a b} ha hb hne e => hne ?_) (Rw_allP N).nd)
      have a1 := (turn_N (memR.mp ha)).2
      have b1 := (turn_N (memR.mp hb)).2
      rw [← a1, ← b1, e]
    · constructor
      · intro hz
        obtain ⟨p, hp, rfl⟩ := List.mem_map.mp hz
        exact memR.mpr (turn_N (memR.mp hp)).1
      · intro hz
        obtain ⟨t1, t2⟩ := turn_N (memR.mp hz)
        exact List.mem_map.mpr ⟨turn z, memR.mpr t1, t2⟩
  have e2 : sortRO ((Rw N N).map turn) = some (Rw N N) := by
    unfold sortRO
    rw [sort_of pm (Rw_up N N), if_pos]
    rcases Rw_cond N with h | h
    · left
      rw [List.length_map]
      exact h
    · right
      rw [List.all_eq_true]
      intro z hz
      have := h z (pm.mem_iff.mp hz)
      cases z with
      | nil => exact absurd rfl this
      | cons a r => rfl
  unfold pairB
  rw [e1, Option.bind_some]
  show ((sortRO ((Rw N N).map turn)).bind fun y => some ((Rw N N).map turn, y)) = _
  rw [e2, Option.bind_some]
theorem both_ok {p q : List Int} (hl : p.length + q.length ≤ 1000) : ∃ b, pboth p q = some b ∧ b.Pairwise (fun a b => b ≤ a) ∧ b.Perm (p ++ q) := by
  refine ⟨(sortI false (p ++ q)).reverse, ?_, ?_, (List.reverse_perm _).trans (sortI_perm false _)⟩
  · unfold pboth
    rw [show catO p q = some (p ++ q) from if_pos (by show _ ≤ 16777216; omega), Option.bind_some]
  · rw [List.pairwise_reverse]
    exact sortI_up _
theorem cut1 (xs : List (List Int)) (h : 1 ≤ xs.length) : cutI xs (some (1 : Int)) none = xs.drop 1 := by
  unfold cutI
  have a : HT.sIx xs.length xs.length none = xs.length := rfl
  have c : HT.sIx xs.length 0 (some 1) = min 1 xs.length := by
    unfold HT.sIx
    simp
  rw [a, c, show min 1 xs.length = 1 by omega, List.take_of_length_le (Nat.le_of_eq List.length_drop)]
theorem perm_sumI {a b : List Int} (p : a.Perm b) : a.sum = b.sum := by
  induction p with
  | nil => rfl
  | cons x _ ih => rw [List.sum_cons, List.sum_cons, ih]
  | swap x y l => simp only [List.sum_cons]; omega
  | trans _ _ i1 i2 => rw [i1, i2]
theorem near_ok {N : Nat} (hN : N ≤ 24) {a b : List Int} (h : (a, b) ∈ (Rw N N).zip (cutI (Rw N N) (some (1 : Int)) none)) : PtN N a ∧ PtN N b ∧ a ≠ b := by
  have ne : 1 ≤ (Rw N N).length := by
    cases e : Rw N N with
    | nil => rw [e] at h; cases h
    | cons x xs => simp
  rw [cut1 _ ne] at h
  obtain ⟨i, hi⟩ := List.mem_iff_getElem?.mp h
  obtain ⟨h1, h2⟩ := List.getElem?_zip_eq_some.mp hi
  rw [List.getElem?_drop] at h2
  obtain ⟨l1, q1⟩ := List.getElem?_eq_some_iff.mp h1
  obtain ⟨l2, q2⟩ := List.getElem?_eq_some_iff.mp h2
  refine ⟨memR.mp (List.mem_of_getElem? h1), memR.mp (List.mem_of_getElem? h2), fun e => ?_⟩
  have := List.pairwise_iff_getElem.mp (Rw_allP N).nd i (1 + i) l1 l2 (by omega)
  exact this (by dsimp only at q1 q2; rw [q1, q2]; exact e)
theorem pair_right {N : Nat} (hN : N ≤ 24) {a b : List Int} (ha : PtN N a) (hb : PtN N b) (ne : a ≠ b) : ((pairB (pboth a b) fun r29 => (pless r29 b)).bind fun c30 => if (!decide (c30.2 = (some a))) = true then some true else ((pless a b).bind fun r31 => if (r31.isSome) = true then some true else ((pairB (pairB (pboth a b) fun r32 => (pweight r32)) fun c33 => (mulO (2 : Int) (N : Int))).map fun c35 => (!decide (c35.1.2 = c35.2))))) = some false := by
  obtain ⟨a1, a2, a3⟩ := ptn_b (by omega) ha
  obtain ⟨b1, b2, b3⟩ := ptn_b (by omega) hb
  obtain ⟨c, e1, c1, c2⟩ := both_ok (p := a) (q := b) (by omega)
  have e2 : pless c b = some (some a) := less_back c1 ha.1 fun x => by rw [c2.count_eq, List.count_append]
  have e3 : pless a b = some none := by
    refine (less_all b a).2 fun hf => ne ?_
    obtain ⟨r, _, hs, hr⟩ := (less_all b a).1 hf
    have pm : (r ++ b).Perm a := List.perm_iff_count.mpr fun x => by
      rw [List.count_append, hr x]
      have := hf x
      omega
    have sm : (r ++ b).sum = a.sum := perm_sumI pm
    rw [List.sum_append, a3, b3] at sm
    have r0 : r = [] := by
      cases r with
      | nil => rfl
      | cons y r =>
        have g := len_sum (y :: r) fun x hx => (a2 x (hs.subset hx)).1
        have := g.1
        rw [List.length_cons] at this
        omega
    subst r0
    exact desc_uniq ha.1 hb.1 fun x => (pm.count_eq x).symm
  have e4 : pweight c = some (2 * (N : Int)) := by
    show some c.sum = _
    rw [perm_sumI c2, List.sum_append, a3, b3]
    congr 1
    omega
  have e5 : mulO (2 : Int) (N : Int) = some (2 * (N : Int)) := mulO_s (by omega) (by omega)
  simp only [pairB, e1, e2, e3, e4, e5, Option.bind_some, Option.map_some, decide_true, Bool.not_true, Bool.false_eq_true, if_false, Option.isSome_none]
theorem law_ok (ns : List Int) : plaw ns = some true := by
  refine wp_get ?_
  unfold plaw
  rw [wp_bind]
  refine wp_rgS (by omega) (by split <;> omega) ?_
  refine wp_forR0 (fun _ _ => True) trivial (fun i x u hx _ => ?_) (fun u _ => wp_some.mpr rfl)
  obtain ⟨hi, rfl⟩ := irg_get hx
  have hi4 : i < 40 := by
    revert hi
    split <;> omega
  rw [wp_bind]
  refine (hand_ok ns (0 + (i : Int)) (by omega)).imp fun st hst => ?_
  rw [wp_vlet, wp_bind, wp_pair, wp_pair]
  refine take_wp hst (by omega) (by omega) fun way st1 a0 a1 h1 => ?_
  dsimp only
  refine wp_at a0 (by simpa using a1) fun m hm => ?_
  have hm' := List.mem_of_getElem? hm
  simp only [List.mem_cons, List.not_mem_nil, or_false] at hm'
  refine take_wp h1 (by omega) (by omega) fun n st2 n0 n1 h2 => ?_
  dsimp only
  obtain ⟨N, rfl⟩ : ∃ N : Nat, n = (N : Int) := ⟨n.toNat, by omega⟩
  have hN : N ≤ 24 := by omega
  rw [wp_vlet, wp_bind]
  refine wp_eq (partings_ok (by omega)) ?_
  have e1 : compM (Rw N N) (fun (x14 : (List Int)) => (p_law_one_right x14 (N : Int))) = some ((Rw N N).map fun _ => true) := compM_ok (by have := Rw_4000 hN; omega) fun x hx => one_right (by omega) (memR.mp hx)
  have e2 : (((Rw N N).map fun _ => true).all id) = true := by rw [List.all_map]; exact List.all_eq_true.mpr fun _ _ => rfl
  have e3 : (pairB (sortNO (Rw N N)) fun r17 => ((eqO ((eL (eT D.int)) (Rw N N)) ((eL (eT D.int)) r17)).map (!·))) = some (Rw N N, false) := by
    simp only [pairB, sortN_ok hN, Option.bind_some, eq_rows, Option.map_some, Bool.not_true]
  rw [e1]
  simp only [Option.bind_some, e2, e3, Bool.not_true, Bool.false_eq_true, if_false, Option.map_some]
  rw [wp_bind]
  refine wp_eq (turned_list hN) ?_
  rw [if_neg (by rw [decide_eq_true rfl]; decide)]
  refine wp_forR0 (fun _ _ => True) trivial (fun j y v hy _ => ?_) (fun v _ => wp_some.mpr ⟨(), rfl, trivial⟩)
  obtain ⟨a, b⟩ := y
  obtain ⟨pa, pb2, ne⟩ := near_ok hN (List.mem_of_getElem? hy)
  rw [wp_bind]
  refine wp_eq (pair_right hN pa pb2 ne) ?_
  rw [if_neg (by decide)]
  exact wp_some.mpr ⟨(), rfl, trivial⟩
theorem law_holds (ns : List Int) (hl : ns.length ≤ 63) : ∃ m, flaw [.frz (ns.map D.int)] [] = .ok (.bl true) m := law_in (tlaw ns) (law_ok ns)
end Lk06
open PySem PySem.W PySem.Calls PyProof.Rows
set_option maxHeartbeats 0 in
theorem PySem.Challenge.cw_partrests_k06_whole_lists_turned_holds : PySem.Challenge.rw_partrests_k06_whole_lists_turned.Holds := by
  w_on; o_law
  refine HandSHeadRun.head_any (r := OpenLaw.row PySem.Challenge.rw_partrests_k06_whole_lists_turned) (q := Lk06.hdQ) (H := Lk06.hdH) (ob := Lk06.hdO) (M := 100000) (loose := Lk06.hdNs) (d := HandSHeadRun.topDef (OpenLaw.row PySem.Challenge.rw_partrests_k06_whole_lists_turned).prog 14) (kwd := []) Lk06.hdO_eq
    (by kernel_rfl) (fun s => by kernel_rfl) Lk06.hdRun (by kernel_rfl) (by kernel_rfl) (by kernel_rfl) (by rfl) (by first | assumption | decide +kernel) (by decide +kernel) ⟨rfl, rfl, rfl, rfl, rfl, by decide +kernel⟩ ?hw ?hc
  case hw => w_witness2
  case hc =>
    refine Vi.walk_GH (l := PySem.Challenge.rw_partrests_k06_whole_lists_turned) (n := 63) (k := 4) (x := "_law_script") (F := Lk06.flaw) rfl (by decide) (by kernel_rfl) ⟨rfl, by decide, by decide⟩ ?F (fun ns hl => Lk06.law_holds ns hl)
    intro w mg fa h Y G hmg0
    obtain ⟨K, KX, c⟩ := Y
    have hmg : mg ("law" : PySem.Str) = some (.ref fa) := by
      have e : (HandSHeadRun.topDef (OpenLaw.row PySem.Challenge.rw_partrests_k06_whole_lists_turned).prog 14).name = ("law" : PySem.Str) := by kernel_rfl
      rw [← e]
      exact hmg0
    exact ⟨K, KX, Lk06.all_hd KX G hmg c⟩
